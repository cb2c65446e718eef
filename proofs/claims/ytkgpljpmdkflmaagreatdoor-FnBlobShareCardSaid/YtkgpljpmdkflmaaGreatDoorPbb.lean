/- A drawn law returns true for every code (its row lists package variables, tied by the card): part 28. -/
import Derived.Test.YtkgpljpmdkflmaaGreatDoorPav
import Derived.Test.YtkgpljpmdkflmaaGreatDoorPaw
import Derived.Test.YtkgpljpmdkflmaaGreatDoorPba
set_option maxHeartbeats 20000000
set_option maxRecDepth 100000
set_option linter.all false
namespace Go.Proofs.YtkgpljpmdkflmaaGreatDoor
namespace GL
structure Tree (s:ay) (t:bf) (d:Nat):Prop where
 rC:oL s t d
 m0:0≤t.many
 m1:t.many≤16
 dm:bj t.many=((d:Nat):Int)
 tail:∀i,t.many.toNat≤i→au (nth ae (aB s t) i)=true
theorem Tree.ok {s:ay}{t:bf}{d:Nat}(h:Tree s t d):t.ok:=⟨h.rC.trd,h.m0,h.m1⟩
theorem ZB {l m:List Pt}{i:Nat}(h:l.length≤i):nth ae (l++m) i=nth ae m (i-l.length):=by
 unfold nth;rw [ZC6 h]
theorem CE (n i:Nat):nth ae (cw n) i=bN:=by
 by_cases h:i<(cw n).length
 ·exact (ZD6.1 (bS (ek:=ae) h)).2
 ·exact tB (ek:=ae) (by omega)
theorem MK (a b:Nat):cw a++cw b=cw (a+b):=by
 unfold cw;rw [List.replicate_append_replicate]
theorem abP (n:Nat):(cw n).length=n:=ZG0
theorem Laid.wide {s:ay}{Y:Nat→Nat}{l:List Pt}{many:Int}{u:ay}{t':bf}{d:Nat}(h:Laid s Y l many u t' d):aB u t'=l++cw (16-l.length)∧l.length≤16:=by
 obtain⟨k,hk⟩:=h.lv
 have hw:=mD h.rC
 have hl:=gi (s:=u) h.rC.trd
 rw [hw,hk,ZD2,MK] at hl
 rw [ZA0,abP] at hl
 refine⟨?_,by omega⟩
 rw [hw,hk,ZD2,MK]
 congr 2;omega
theorem Laid.tree {s:ay}{Y:Nat→Nat}{l:List Pt}{many:Int}{u:ay}{t':bf}{d:Nat}(h:Laid s Y l many u t' d) (h0:0≤many) (h1:many≤16) (hl:l.length=many.toNat):Tree u t' d:=by
 refine⟨h.rC,by rw [h.many];exact h0,by rw [h.many];exact h1,by rw [h.many];exact h.dm,fun i hi=>?_⟩
 rw [h.many] at hi
 rw [h.wide.1,ZB (by omega),CE];rfl
theorem KJ {s:ay}:∀{n:Nat}{p q:Pt},rA s n p→q∈xm s n p→rA s 0 q
 |0,p,q,h,hq=>by rw [ZC7.1 (show q∈[p] from hq)];exact h
 |n+1,p,q,h,hq=>by
  obtain⟨x,hx,hxq⟩:=List.mem_flatMap.1 (show q∈(lC s n p).flatMap (xm s n) from hq)
  exact KJ (h.2.2 x hx) hxq
theorem uS {s:ay}{t:bf}{d:Nat}(h:oL s t d):∀q∈aB s t,rA s 0 q:=fun q hq=>by
 rw [mD h] at hq
 rcases ZB4.1 hq with hq |hq
 ·exact KJ h.snd hq
 ·rw [show q=bN from (ZD6.1 hq).2];exact ky s 0
theorem F0 {s:ay}{t:bf}{d:Nat}(h:oL s t d) (r:Nat):bo (il s d t.root) r=bo (bz s t) r+bo (aB s t) r:=by
 rw [mE,CU h,mD h,bJ,fN];omega
theorem P2 {s u:ay}{t:bf}{d:Nat}{O:Nat→Nat}(h:oL s t d) (ht:s.cj≤u.cj) (hk:Kp O s u) (hO:∀r,bo (il s d t.root) r≤O r):oL u t d∧il u d t.root=il s d t.root∧aB u t=aB s t∧∀r,bo (bz u t) r=bo (bz s t) r:=by
 have hs:=uo h.snd ht hk hO
 have h':oL u t d:=⟨h.dep,h.le,hs.1⟩
 refine⟨h',hs.2.1,by rw [mD h',mD h,hs.2.2.1],fun r=>?_⟩
 rw [←CU h',←CU h,hs.2.2.2]
theorem xj {s u:ay}{t:bf}{d:Nat}{O:Nat→Nat}(h:Tree s t d) (ht:s.cj≤u.cj) (hk:Kp O s u) (hO:∀r,bo (il s d t.root) r≤O r):Tree u t d∧il u d t.root=il s d t.root∧aB u t=aB s t:=by
 have h':=P2 h.rC ht hk hO
 exact⟨⟨h'.1,h.m0,h.m1,h.dm,by rw [h'.2.2.1];exact h.tail⟩,h'.2.1,h'.2.2.1⟩
theorem aaq {p:Pt}{r:Nat}:∀{l:List Pt}{k:Nat},k<l.length→bo (l.set k p) r+bo [nth ae l k] r=bo l r+bo [p] r
 |q::l,0,_=>by
  show bo (p::l) r+bo [q] r=_
  rw [dQ p l,dQ q l];omega
 |q::l,k+1,h=>by
  have ih:=aaq (p:=p) (r:=r) (l:=l) (k:=k) (by simp at h;omega)
  show bo (q::l.set k p) r+bo [nth ae l k] r=_
  rw [dQ q (l.set k p),dQ q l];omega
theorem ae2 (l:List Pt) (n r:Nat):bo (l.take n) r≤bo l r:=PS (List.take_sublist n l) r
theorem tG {l:List Pt}{k n:Nat}{p q:Pt}(h:q∈(l.set k p).take n):q=p∨q∈l:=by
 rcases List.mem_or_eq_of_mem_set (ZE6 h) with h |h
 ·exact .inr h
 ·exact .inl h
theorem BT {s:ay}{t:bf}{L:List Pt}{k:Nat}{p old:Pt}{many:Int}{O X:Nat→Nat}{dt:Nat}(ha:Acc s O) (ht:oL s t dt) (CW:0≤many) (hm:many≤16) (hL:L.length=16) (hold:aZ old=true) (hs:∀q∈(L.set k p).take many.toNat,rA s 0 q)
  (hX:∀r,X r+bo ((L.set k p).take many.toNat) r+bo (bif ptrEq p old then [] else [old]) r+bo (bz s t) r≤O r) (ho:∀r,bo (il s dt t.root) r≤O r) (hz:(pU s t L k p many old).2.2=true):
  ∃d,Laid s (fun r=>X r+bo ((L.set k p).take many.toNat) r) ((L.set k p).take many.toNat) many (pU s t L k p many old).1 (pU s t L k p many old).2.1 d:=by
 unfold pU at hz ⊢
 cases hl: !(bR s t (L.set k p) many).2.2 with
 |true=>rw [hl] at hz;cases hz
 |false=>
  have akZ:=L6 (L:=L.set k p) (Y:=fun r=>X r+bo ((L.set k p).take many.toNat) r+bo (bif ptrEq p old then [] else [old]) r) ha ht CW hm (by rw [ZC3];omega) hs hX (fun r=>by show _≤X r+_+_;omega) ho (oJ hl)
  obtain⟨d,hd⟩:=akZ
  refine⟨d,?_⟩
  simp only [cond_false]
  generalize (bR s t (L.set k p) many).1=u at *
  generalize (bR s t (L.set k p) many).2.1=t' at *
  cases he:ptrEq p old with
  |true=>
   rw [he] at hd
   show Laid s _ _ many u t' d
   exact⟨hd.rC,hd.dm,hd.many,hd.lv,hd.acc.mono fun r=>by show X r+_+_≤X r+_+bo [] r+_;rw [rv];omega,hd.kp.mono fun r=>ZD3 _ _,hd.same⟩
  |false=>
   rw [he] at hd
   show Laid s _ _ many (cN u old) t' d
   have hf:=C3 (p:=old) (O':=fun r=>X r+bo ((L.set k p).take many.toNat) r+bo (uM u d t'.root) r) hd.acc hold (fun r=>by
    show X r+_+_+_≤X r+_+bo [old] r+_;omega)
   obtain⟨j,hj⟩:=hd.lv
   have hk:=P2 hd.rC (Int.le_of_eq hf.2.2.cj.symm) hf.2.1 fun r=>by
    rw [mE,hj,bJ,fN]
    show _≤X r+_+_;omega
   have hks:=uo hd.rC.snd (by rw [hf.2.2.cj];exact ZC1 _) hf.2.1 fun r=>by
    rw [mE,hj,bJ,fN]
    show _≤X r+_+_;omega
   exact⟨hk.1,hd.dm,hd.many,⟨j,by rw [hks.2.2.1,hj]⟩,by rw [hks.2.2.2];exact hf.1,(hd.kp.mono fun r=>ZD3 _ _).trans (hf.2.1.mono fun r=>ZD3 _ _),hd.same.trans hf.2.2⟩
structure aim (s:ay) (t:bf) (X:Nat→Nat) (k:Nat) (text:ByteArray) (many:Int) (u:ay) (t':bf) (d:Nat):Prop where
 tree:Tree u t' d
 acc:Acc u (fun r=>X r+bo (il u d t'.root) r)
 kp:Kp X s u
 same:dR s u
 many:t'.many=many
 get:∀j,j<16→getM u t' j=if j=k then text else getM s t j
theorem zD {l:List Pt}{n i:Nat}(h:i<n):nth ae (l.take n) i=nth ae l i:=by
 unfold nth;rw [List.getElem?_take_of_lt h]
theorem yt {l m:List Pt}{i:Nat}(h:i<l.length):nth ae (l++m) i=nth ae l i:=by
 unfold nth;rw [ZC2 h]
theorem Laid.put {s0 s:ay}{t:bf}{X:Nat→Nat}{k:Nat}{p:Pt}{many:Int}{u:ay}{t':bf}{d dt:Nat}{text:ByteArray}(h:Laid s (fun r=>X r+bo (((aB s0 t).set k p).take many.toNat) r) (((aB s0 t).set k p).take many.toNat) many u t' d) (ht:oL s0 t dt) (CW:0≤many) (hm:many≤16) (hk:k<16) (hkm:(k:Int)<many) (htl:∀i,many.toNat≤i→au (nth ae (aB s0 t) i)=true) (hX:Kp X s0 s) (hS:dR s0 s) (hr:(bG s p).1=text) (hq:∀j,j≠k→au (nth ae (aB s0 t) j)=false→bG s (nth ae (aB s0 t) j)=bG s0 (nth ae (aB s0 t) j)):aim s0 t X k text many u t' d:=by
 have hlen:=gi (s:=s0) ht.trd
 have hl:(((aB s0 t).set k p).take many.toNat).length=many.toNat:=by rw [ZC0,ZC3];omega
 have hT:=h.tree CW hm hl
 have hw:=h.wide.1
 have xF:∀j,j<many.toNat→nth ae (aB u t') j=nth ae ((aB s0 t).set k p) j:=fun j hj=>by
  rw [hw,yt (by omega),zD hj]
 have uB:∀q∈((aB s0 t).set k p).take many.toNat,bG u q=bG s q:=fun q hq=>mL fun hh=>h.kp _ (by
  have:=tZ hq hh
  show 0<X _+_;omega)
 refine⟨hT,?_,hX.trans (h.kp.mono fun r=>ZD3 _ _),hS.trans h.same,h.many,fun j hj=>?_⟩
 ·refine h.acc.mono fun r=>?_
  obtain⟨i,hi⟩:=h.lv
  rw [mE,hi,bJ,fN]
  show _≤X r+_+_;omega
 ·unfold getM
  by_cases hjm:j<many.toNat
  ·rw [xF j hjm]
   have yL:nth ae ((aB s0 t).set k p) j∈((aB s0 t).set k p).take many.toNat:=by
    rw [←zD hjm];exact bS (ek:=ae) (by omega)
   rw [uB _ yL]
   by_cases e:j=k
   ·subst e
    rw [if_pos rfl,ny (ek:=ae) (by omega)];exact hr
   ·rw [if_neg e,iw (ek:=ae) (fun h=>e h.symm)]
    cases hh:au (nth ae (aB s0 t) j) with
    |true=>rw [fT hh,fT hh]
    |false=>rw [hq j e hh]
  ·have e:j≠k:=by omega
   rw [if_neg e]
   have h1:au (nth ae (aB u t') j)=true:=hT.tail j (by rw [h.many];omega)
   rw [fT h1,fT (htl j (by omega))]
theorem BS {s:ay}{t:bf}{X:Nat→Nat}{k:Int}{text:ByteArray}{dt:Nat}(ha:Acc s (fun r=>X r+bo (il s dt t.root) r)) (ht:Tree s t dt) (hk0:0≤k) (hk:k≤15) (hz:(aY s t k text).2.2=true):
  ∃d,aim s t X k.toNat text (bO t k) (aY s t k text).1 (aY s t k text).2.1 d:=by
 have CW:0≤bO t k:=by unfold bO;have:=ht.m0;omega
 have hm1:bO t k≤16:=by unfold bO;have:=ht.m1;omega
 have hkm:(k.toNat:Int)<bO t k:=by unfold bO;omega
 have htm:t.many.toNat≤(bO t k).toNat:=by unfold bO;omega
 have hlen:=gi (s:=s) ht.rC.trd
 have hold:aZ (dW s t k)=true:=oE (lD ht.rC.trd) _
 have htl:∀i,(bO t k).toNat≤i→au (nth ae (aB s t) i)=true:=fun i hi=>ht.tail i (by omega)
 have cq:∀r,bo (il s dt t.root) r=bo (bz s t) r+bo (aB s t) r:=F0 ht.rC
 have ad1:∀(p:Pt) (r:Nat),bo ((aB s t).set k.toNat p) r+bo [dW s t k] r=bo (aB s t) r+bo [p] r:=fun p r=>aaq (by omega)
 have htk:=fun (p:Pt) (r:Nat)=>ae2 ((aB s t).set k.toNat p) (bO t k).toNat r
 have IY:∀{P:Prop},decide (gV s t k=text)=true→decide (gV s t k≠text)=true→P:=fun h1 h2=>absurd (aJ h1) (aJ h2)
 unfold aY at hz ⊢
 cases h1:decide (gV s t k=text) with
 |true=>
  have ai4:(bG s (dW s t k)).1=text:=aJ h1
  rw [decide_eq_false (p:=gV s t k≠text) (fun h=>h (aJ h1))] at hz ⊢
  cases h2:decide (bO t k=t.many) with
  |true=>
   have h2:=aJ h2
   refine⟨dt,⟨ht,ha,Kp.refl _ _,dR.refl _,h2.symm,fun j hj=>?_⟩⟩
   show getM s t j=_
   by_cases e:j=k.toNat
   ·rw [if_pos e,e];exact ai4
   ·rw [if_neg e]
  |false=>
   rw [h1,h2] at hz
   obtain⟨d,hd⟩:=BT (X:=X) ha ht.rC CW hm1 hlen hold (fun q hq=>by
    rcases tG hq with rfl |hq
    ·exact uS ht.rC _ (bS (ek:=ae) (by omega))
    ·exact uS ht.rC q hq) (fun r=>by
    have a1:=cq r
    have a2:=ad1 (dW s t k) r
    have a3:=htk (dW s t k) r
    rw [se.2 rfl]
    show X r+_+bo [] r+_≤X r+_
    rw [rv];omega) (fun r=>by show _≤X r+_;omega) hz
   exact⟨d,hd.put ht.rC CW hm1 (by omega) hkm htl (Kp.refl _ _) (dR.refl _) ai4 fun j _ _=>rfl⟩
 |false=>
  rw [decide_eq_true (p:=gV s t k≠text) (aA h1)] at hz ⊢
  rw [h1] at hz
  cases h3:decide (text≠⟨#[]⟩) with
  |false=>
   have ai6:text=⟨#[]⟩:=Classical.byContradiction (aA h3)
   rw [h3] at hz
   obtain⟨d,hd⟩:=BT (X:=X) ha ht.rC CW hm1 hlen hold (fun q hq=>by
    rcases tG hq with rfl |hq
    ·exact ky s 0
    ·exact uS ht.rC q hq) (fun r=>by
    have a1:=cq r
    have a2:=ad1 bN r
    have a3:=htk bN r
    rw [mc (p:=bN) rfl] at a2
    have a4:bo (bif ptrEq bN (dW s t k) then [] else [dW s t k]) r≤bo [dW s t k] r:=by
     cases ptrEq bN (dW s t k) with
     |true=>exact ZA7 _
     |false=>exact ZB5 _
    show X r+_+_+_≤X r+_
    omega) (fun r=>by show _≤X r+_;omega) hz
   exact⟨d,hd.put ht.rC CW hm1 (by omega) hkm htl (Kp.refl _ _) (dR.refl _) (by rw [fT rfl,ai6]) fun j _ _=>rfl⟩
  |true=>
   rw [h3] at hz
   cases hw: !(bd s text 0).2.2 with
   |true=>rw [hw] at hz;cases hz
   |false=>
    rw [hw] at hz
    obtain⟨akn,wkp,ach,_,_,wfr⟩:=xL ha (oJ hw)
    simp only [Bool.false_and,cond_false,cond_true] at hz ⊢
    generalize (bd s text 0).1=s1 at *
    generalize (bd s text 0).2.1=p at *
    have hT:=P2 ht.rC (Int.le_of_eq ach.cj.symm) wkp fun r=>Nat.le_add_left _ _
    have hq1:∀q∈aB s t,rA s1 0 q:=by rw [←hT.2.2.1];exact uS hT.1
    obtain⟨d,hd⟩:=BT (X:=X) akn hT.1 CW hm1 hlen hold (fun q hq=>by
     rcases tG hq with rfl |hq
     ·exact⟨wfr.ok,fun hh=>⟨wfr.lv,by rw [wfr.EJ,ach.cj];exact ZC1 _,by rw [wF hh wfr.row wfr.fits]⟩⟩
     ·exact hq1 q hq) (fun r=>by
     have a1:=cq r
     have a2:=ad1 p r
     have a3:=htk p r
     have a4:bo (bif ptrEq p (dW s t k) then [] else [dW s t k]) r≤bo [dW s t k] r:=by
      cases ptrEq p (dW s t k) with
      |true=>exact ZA7 _
      |false=>exact ZB5 _
     rw [hT.2.2.2 r]
     show X r+_+_+_≤X r+_+_
     omega) (fun r=>by rw [hT.2.1];show _≤X r+_+_;omega) hz
    refine⟨d,hd.put ht.rC CW hm1 (by omega) hkm htl (wkp.mono fun r=>ZD3 _ _) ach (by rw [wF wfr.nh wfr.row wfr.fits]) fun j _ hh=>?_⟩
    refine mL fun _=>wkp _ ?_
    have hj:j<(aB s t).length:=by
     rw [hlen]
     refine Classical.byContradiction fun FK=>?_
     rw [show nth ae (aB s t) j=bN from tB (ek:=ae) (by omega)] at hh
     cases hh
    have c1:=tZ (bS (ek:=ae) hj) hh
    have c2:=cq (at' (nth ae (aB s t) j))
    have c3:bo (aB s t) (at' (nth ae (aB s t) j))≤X (at' (nth ae (aB s t) j))+bo (il s dt t.root) (at' (nth ae (aB s t) j)):=by omega
    exact ZG1 c1 c3
end GL
namespace GL
theorem vJ:∀(l:List Pt) (s:ay),dx l s=l.foldl cN s
 |[],_=>rfl
 |p::l,s=>vJ l (cN s p)
structure aj4 (s:ay) (t:bf) (X:Nat→Nat) (mn:Int) (u:ay) (t':bf) (d:Nat):Prop where
 tree:Tree u t' d
 acc:Acc u (fun r=>X r+bo (il u d t'.root) r)
 kp:Kp X s u
 same:dR s u
 many:t'.many=mn
 get:∀j,j<16→getM u t' j=if (j:Int)<mn then getM s t j else ⟨#[]⟩
theorem mZ {s:ay}{t:bf}{d:Nat}(h:Tree s t d) {j:Nat}(hj:t.many≤(j:Int)):getM s t j=⟨#[]⟩:=by
 unfold getM
 rw [fT (h.tail j (by have:=h.m0;omega))]
theorem ND {s:ay}{t:bf}{X:Nat→Nat}{many:Int}{dt:Nat}(ha:Acc s (fun r=>X r+bo (il s dt t.root) r)) (ht:Tree s t dt) (h0:0≤many) (h1:many≤16) (hz:(cG s t many).2.2=true):
  ∃d,aj4 s t X many (cG s t many).1 (cG s t many).2.1 d:=by
 cases h2:decide (many=t.many) with
 |true=>
  rw [aeW h2]
  have h2:=aJ h2
  refine⟨dt,⟨ht,ha,Kp.refl _ _,dR.refl _,h2.symm,fun j hj=>?_⟩⟩
  show getM s t j=_
  by_cases e:(j:Int)<many
  ·rw [if_pos e]
  ·rw [if_neg e];exact mZ ht (by omega)
 |false=>
  cases h3: !(bR s t (aB s t) many).2.2 with
  |true=>rw [aeV h2 h3] at hz;cases hz
  |false=>
   rw [aeU h2 h3]
   have hlen:=gi (s:=s) ht.rC.trd
   have cq:=F0 ht.rC
   have hsp:∀r,bo (aB s t) r=bo ((aB s t).take many.toNat) r+bo ((aB s t).drop many.toNat) r:=fun r=>by
    rw [←bJ,List.take_append_drop]
   obtain⟨d,hd⟩:=L6 (L:=aB s t) (Y:=fun r=>X r+bo ((aB s t).take many.toNat) r+bo ((aB s t).drop many.toNat) r) ha ht.rC h0 h1 (by omega) (fun q hq=>uS ht.rC q (ZE6 hq)) (fun r=>by
    have a1:=cq r
    have a2:=hsp r
    show X r+_+_+_≤X r+_;omega) (fun r=>by show _≤X r+_+_;omega) (fun r=>Nat.le_add_left _ _) (oJ h3)
   simp only
   generalize (bR s t (aB s t) many).1=u at *
   generalize (bR s t (aB s t) many).2.1=t' at *
   rw [vJ]
   have hl:((aB s t).take many.toNat).length=many.toNat:=by rw [ZC0];omega
   have hf:=yO (l:=(aB s t).drop many.toNat) (O':=fun r=>X r+bo ((aB s t).take many.toNat) r+bo (uM u d t'.root) r) hd.acc (fun p hp=>lD ht.rC.trd p (ZF2 hp)) (fun r=>by
    show X r+_+_+_≤X r+_+_+_;omega)
   obtain⟨k,hk⟩:=hd.lv
   have hT:=hd.tree h0 h1 hl
   have uK:∀r,bo (il u d t'.root) r=bo (uM u d t'.root) r+bo ((aB s t).take many.toNat) r:=fun r=>by
    rw [mE,hk,bJ,fN];omega
   have uB:=xj hT (Int.le_of_eq hf.2.2.cj.symm) hf.2.1 fun r=>by rw [uK];show _≤X r+_+_;omega
   refine⟨d,⟨uB.1,?_,(hd.kp.mono fun r=>by show X r≤X r+_+_;omega).trans (hf.2.1.mono fun r=>by show X r≤X r+_+_;omega),hd.same.trans hf.2.2,hd.many,fun j hj=>?_⟩⟩
   ·refine hf.1.mono fun r=>?_
    rw [uB.2.1,uK]
    show X r+_≤X r+_+_;omega
   ·by_cases e:(j:Int)<many
    ·rw [if_pos e]
     unfold getM
     rw [uB.2.2,hd.wide.1,yt (by omega),zD (by omega)]
     rw [mL (s:=s)]
     intro hh
     have yM:j<(aB s t).length:=by omega
     have yL:nth ae (aB s t) j∈(aB s t).take many.toNat:=by
      have h5:nth ae ((aB s t).take many.toNat) j=nth ae (aB s t) j:=zD (by omega)
      rw [←h5];exact bS (ek:=ae) (by omega)
     have hc:=tZ yL hh
     have k1:=hd.kp (at' (nth ae (aB s t) j)) (show 0<X (at' (nth ae (aB s t) j))+bo ((aB s t).take many.toNat) (at' (nth ae (aB s t) j))+bo ((aB s t).drop many.toNat) (at' (nth ae (aB s t) j)) by omega)
     have k2:=hf.2.1 (at' (nth ae (aB s t) j)) (show 0<X (at' (nth ae (aB s t) j))+bo ((aB s t).take many.toNat) (at' (nth ae (aB s t) j))+bo (uM u d t'.root) (at' (nth ae (aB s t) j)) by omega)
     exact k2.trans k1
    ·rw [if_neg e]
     exact mZ uB.1 (by rw [hd.many];omega)
theorem XT {s:ay}{a:Nat}(oP:s.wf) (ha:a<64) (h1:1≤qL s a) (hup:qL s a≤1000000):(gf s a).wf∧(∀r,qL (gf s a) r=if a=r then qL s r-1 else qL s r)∧(∀r,qL (gf s a) r≠0∨a≠r→nth ab (gf s a).rows r=nth ab s.rows r):=by
 have hlen:a<s.refs.length:=by rw [oP.n.2.1];exact ha
 have hw:xx (qL s a-1)=qL s a-1:=FW (by omega) (by omega)
 have hrf:(gf s a).refs=s.refs.set a (qL s a-1):=by
  show s.refs.set a (xx (qL s a-1))=_
  rw [hw]
 have vH:∀r,qL (gf s a) r=if a=r then qL s r-1 else qL s r:=fun r=>by
  show nth ag (gf s a).refs r=_
  rw [hrf]
  by_cases e:a=r
  ·subst e;rw [ny (ek:=ag) hlen,if_pos rfl]
  ·rw [iw (ek:=ag) e,if_neg e];rfl
 have hl:=xg s a
 refine⟨⟨⟨hl.1.trans oP.n.1,hl.2.1.trans oP.n.2.1,hl.2.2.trans oP.n.2.2⟩,?_⟩,vH,fun r hr=>?_⟩
 ·show∀x∈(bif uE s a then s.rows.set a ByteArray.empty else s.rows),_
  cases uE s a with
  |true=>exact UY oP.sz (ZA7 _)
  |false=>exact oP.sz
 ·show nth ab (bif uE s a then s.rows.set a ByteArray.empty else s.rows) r=_
  cases hb:uE s a with
  |false=>rfl
  |true=>
   have hz:qL (gf s a) a=0:=aJ hb
   have e:a≠r:=fun e=>by
    rcases hr with hr |hr
    ·rw [←e] at hr;exact hr hz
    ·exact hr e
   exact iw (ek:=ab) e
theorem LU {O:Nat→Nat}:∀{l:List Pt}{s:ay},s.wf→(∀r,qL s r≤1000000)→(∀p∈l,aZ p=true∧au p=false)→(∀r,((bo l r+bo s.dead r+O r:Nat):Int)≤qL s r)→
  (ka l s).wf∧(∀r,qL (ka l s) r≤1000000)∧(∀r,((bo s.dead r+O r:Nat):Int)≤qL (ka l s) r)∧Kp O s (ka l s)∧(ka l s).dead=s.dead∧(ka l s).gone=s.gone∧dR s (ka l s)
 |[],s,oP,hup,_,hsl=>⟨oP,hup,fun r=>by have:=hsl r;rw [rv] at this;show ((bo s.dead r+O r:Nat):Int)≤qL s r;omega,Kp.refl _ _,rfl,rfl,dR.refl _⟩
 |p::l,s,oP,hup,cH,hsl=>by
  have hp:=cH p (by simp)
  have xF:=sw hp.1
  have h1:=hsl (at' p)
  rw [dQ,rP hp.2] at h1
  obtain⟨d1,d2,d3⟩:=XT oP xF (by omega) (hup _)
  have aja:∀r,((bo l r+bo (gf s (at' p)).dead r+O r:Nat):Int)≤qL (gf s (at' p)) r:=fun r=>by
   show ((bo l r+bo s.dead r+O r:Nat):Int)≤_
   have:=hsl r
   rw [dQ] at this
   rw [d2]
   by_cases e:at' p=r
   ·subst e;rw [rP hp.2] at this;rw [if_pos rfl];omega
   ·rw [if_neg e];rw [yW e] at this;omega
  obtain⟨e1,e2,e3,e4,e5,e6,e7⟩:=LU (l:=l) (s:=gf s (at' p)) d1 (fun r=>by
   rw [d2];have:=hup r;by_cases e:at' p=r
   ·rw [if_pos e];omega
   ·rw [if_neg e];exact this) (fun q hq=>cH q (by simp [hq])) aja
  refine⟨e1,e2,e3,?_,e5,e6,⟨e7.cj,e7.ca,e7.same⟩⟩
  refine Kp.trans (fun r hr=>d3 r ?_) e4
  have:=aja r
  left;omega
theorem yy {s:ay}{O:Nat→Nat}(h:Acc s O) (ht:s.cj<1000000):Acc (ij s) O∧Kp O s (ij s)∧(ij s).cj=s.cj+1∧(ij s).ca=s.ca∧(ij s).same=s.same:=by
 obtain⟨e1,e2,e3,e4,e5,e6,e7⟩:=LU (O:=O) h.wf h.up (fun p hp=>h.ok p (by simp [hp])) h.sl
 refine⟨⟨⟨e1.n,e1.sz⟩,e2,?_,fun r=>?_,fun p hp=>?_⟩,e4,?_,e7.ca,e7.same⟩
 ·show 1≤(ka s.gone s).cj+1∧(ka s.gone s).cj+1≤1000000
  rw [e7.cj];have:=h.cj;omega
 ·show ((bo [] r+bo (ka s.gone s).dead r+O r:Nat):Int)≤_
  rw [e5,rv];have:=e3 r
  show _≤qL (ka s.gone s) r
  omega
 ·have hp:p∈[]++(ka s.gone s).dead:=hp
  rw [e5] at hp
  exact h.ok p (by simp at hp;simp [hp])
 ·show (ka s.gone s).cj+1=_
  rw [e7.cj]
abbrev nhB (p:Pt):Bool:= !(au p)
theorem ur (s:ay):∀(n:Nat),(il s n bN).filter nhB=[]
 |0=>rfl
 |n+1=>by
  show (bN::(lC s n bN).flatMap (il s n)).filter nhB=[]
  rw [ow rfl]
  have h:=ur s n
  simp only [cw,List.replicate,ZD5,List.flatMap_nil,List.filter_append,h,List.filter_cons_of_neg (show¬nhB bN=true by decide),ZE5,List.filter_nil]
def aaQ:Nat→Nat
 |0=>1
 |n+1=>1+4*aaQ n
theorem NM {s:ay}{n:Nat}(one:∀{p:Pt},rA s n p→∃k,k≤aaQ n∧∀(f:Nat) (rest out:List Pt),j9 (f+k) s (p::rest) out=j9 f s rest (out++(il s n p).filter nhB)):∀{l:List Pt},(∀q∈l,rA s n q)→∃k,k≤l.length*aaQ n∧∀(f:Nat) (rest out:List Pt),j9 (f+k) s (l++rest) out=j9 f s rest (out++(l.flatMap (il s n)).filter nhB)
 |[],_=>⟨0,ZA7 _,fun f rest out=>by simp⟩
 |q::l,h=>by
  obtain⟨k1,h1,e1⟩:=one (h q (by simp))
  obtain⟨k2,h2,e2⟩:=NM one (l:=l) fun x hx=>h x (by simp [hx])
  refine⟨k2+k1,by rw [ZA1,Nat.succ_mul];omega,fun f rest out=>?_⟩
  rw [←ZF7,ZG4,e1,e2,ZD5,List.filter_append,ZD2]
theorem UK {s:ay}:∀{n:Nat}{p:Pt},rA s n p→∃k,k≤aaQ n∧∀(f:Nat) (rest out:List Pt),j9 (f+k) s (p::rest) out=j9 f s rest (out++(il s n p).filter nhB)
 |0,p,h=>by
  refine⟨1,ZB5 _,fun f rest out=>?_⟩
  cases hh:au p with
  |true=>
   rw [j9,hh,show (il s 0 p).filter nhB=[] by show [p].filter nhB=[];simp [nhB,hh]]
   simp
  |false=>
   have h0:=(h.2 hh).1
   rw [j9,hh,decide_eq_false (p:=p.2.2.2.2>0) (by omega),show (il s 0 p).filter nhB=[p] by show [p].filter nhB=[p];simp [nhB,hh]]
   rfl
 |n+1,p,h=>by
  cases hh:au p with
  |true=>
   refine⟨1,by show 1≤1+_;omega,fun f rest out=>?_⟩
   rw [j9,hh,ir hh,ur,ZE5];rfl
  |false=>
   have hb:=ov hh (h.2.1 hh)
   have FJ:p.2.2.2.2=(((n+1):Nat):Int):=hb.2.1
   obtain⟨k,hk,e⟩:=NM (s:=s) (n:=n) (fun h=>UK h) (l:=lC s n p) h.2.2
   have h4:=FT h
   refine⟨k+1,by rw [h4] at hk;show _≤1+4*aaQ n;omega,fun f rest out=>?_⟩
   rw [←ZF7,j9,hh,FJ,decide_eq_true (p:=(((n+1):Nat):Int)>0) (by omega)]
   show j9 (f+k) s (lC s n p++rest) (out++[p])=_
   rw [e]
   show j9 f s rest (out++[p]++_)=j9 f s rest (out++(p::(lC s n p).flatMap (il s n)).filter nhB)
   rw [List.filter_cons_of_pos (by simp [nhB,hh]),ZD2];rfl
theorem UJ {s:ay}{t:bf}{d:Nat}(h:oL s t d):NA s t=true∧allM s t=(il s d t.root).filter nhB:=by
 obtain⟨k,hk,e⟩:=UK h.snd
 have hp:aaQ d≤21:=by
  have:=h.le
  match d,this with
  |0,_=>decide
  |1,_=>decide
  |2,_=>decide
 obtain⟨g,hg⟩:∃g,40=g+1+k:=⟨39-k,by omega⟩
 have he:j9 40 s [t.root] []=some ((il s d t.root).filter nhB):=by
  rw [hg,e (g+1) [] []];rfl
 unfold NA allM
 rw [he];exact⟨rfl,rfl⟩
theorem L4 {s:ay}{many:Int}:∀{l:List Pt}{i:Int},(∀j,j<l.length→au (nth ae l j)=false→rA s 0 (nth ae l j)∧i+j<many)→kb s many i l=true
 |[],i,_=>rfl
 |p::l,i,h=>by
  have l9:kb s many (i+1) l=true:=L4 fun j hj hh=>by
   have:=h (j+1) (by simp;omega) hh
   exact⟨this.1,by have:=this.2;omega⟩
  cases hh:au p with
  |true=>rw [FC hh];exact l9
  |false=>
   obtain⟨h1,h2⟩:=h 0 (by simp) hh
   have h3:=h1.2 hh
   have h2:i+((0:Nat):Int)<many:=h2
   rw [OY hh (OZ (by rw [show (bG s p).2=true from h3.2.2];rfl) (decide_eq_false (fun fB=>fB h3.1)) (decide_eq_false (by have:p.2.1≤s.cj:=h3.2.1;omega)) (decide_eq_false (by omega)))]
   exact l9
theorem Tree.qM {s:ay}{t:bf}{d:Nat}(h:Tree s t d):qM s t=true:=by
 have ⟨h1,h2⟩:=D1 h.rC
 have hw:=mD h.rC
 rw [Y6 (zB (by rw [cD.2 ⟨h.m0,h.m1⟩];rfl) (decide_eq_false (by rw [h.dm,h.rC.dep];simp)) (by rw [h.rC.snd.pok];rfl)) (by rw [h1];rfl),h1]
 refine L4 fun j hj hh=>⟨KJ h.rC.snd (bS (ek:=ae) hj),?_⟩
 refine Classical.byContradiction fun FK=>?_
 have:=h.tail j (by have:=h.m0;omega)
 rw [hw,yt hj] at this
 rw [hh] at this
 cases this
end GL
namespace GL
abbrev cU (n:fv):bf:=(n.2.2.2.1,n.2.2.2.2.1,n.2.2.2.2.2.1,n.2.2.2.2.2.2.1,n.2.2.2.2.2.2.2.1,n.2.2.2.2.2.2.2.2.1,n.2.2.2.2.2.2.2.2.2)
abbrev bf.d (t:bf):Nat:=t.depth.toNat
theorem oL.ajC {s:ay}{t:bf}{d:Nat}(h:oL s t d):d=t.d:=by have:=h.dep;show d=t.depth.toNat;omega
theorem Tree.at {s:ay}{t:bf}{d:Nat}(h:Tree s t d):Tree s t t.d:=by rw [←h.rC.ajC];exact h
structure xK (s:ay) (n:fv):Prop where
 ok:cy n=true
 tree:Tree s (cU n) (cU n).d
abbrev di (s:ay) (t:bf):List Pt:=il s t.d t.root
abbrev dz (s:ay) (n:fv):List Pt:=di s (cU n)
abbrev nodeAt (s:ay) (t:bf) (k:Nat):fv:=(bA (getM s t k)).1
def gH (s:ay) (t:bf) (E:Nat→Bool) (r:Nat):Nat:=((List.range 16).map fun k=>bif E k then 0 else bo (dz s (nodeAt s t k)) r).sum
theorem UT {f g:Nat→Nat}:∀{l:List Nat},(∀k∈l,f k≤g k)→(l.map f).sum≤(l.map g).sum
 |[],_=>ZB5 _
 |k::l,h=>by
  simp only [ZE7,List.sum_cons]
  have h1:=h k (by simp)
  have h2:=UT (f:=f) (g:=g) (l:=l) fun x hx=>h x (by simp [hx])
  omega
theorem NV {f g:Nat→Nat}{l:List Nat}(h:∀k∈l,f k=g k):(l.map f).sum=(l.map g).sum:=by
 have h1:=UT (f:=f) (g:=g) (l:=l) fun k hk=>ZA8 (h k hk)
 have h2:=UT (f:=g) (g:=f) (l:=l) fun k hk=>ZA8 (h k hk).symm
 omega
theorem H9 {f:Nat→Nat}{k:Nat}:∀{l:List Nat},k∈l→f k≤(l.map f).sum
 |x::l,h=>by
  simp only [ZE7,List.sum_cons]
  rcases ZB8.1 h with rfl |h
  ·omega
  ·have:=H9 (f:=f) h;omega
theorem NU {f g:Nat→Nat}{i:Nat}:∀{l:List Nat},l.Nodup→i∈l→(∀k∈l,k≠i→f k=g k)→f i=0→(l.map g).sum=(l.map f).sum+g i
 |x::l,hn,hi,h,h0=>by
  simp only [ZE7,List.sum_cons]
  have hn':=List.nodup_cons.1 hn
  by_cases e:x=i
  ·subst e
   have:(l.map f).sum=(l.map g).sum:=NV fun k hk=>h k (by simp [hk]) (fun e=>hn'.1 (e ▸ hk))
   omega
  ·have CY:i∈l:=by
    rcases ZB8.1 hi with e' |h
    ·exact absurd e'.symm e
    ·exact h
   have:=NU (f:=f) (g:=g) hn'.2 CY (fun k hk fB=>h k (by simp [hk]) fB) h0
   have:=h x (by simp) e
   omega
structure FI (s:ay) (t:bf) (E:Nat→Bool) (O:Nat→Nat):Prop where
 tree:Tree s t t.d
 nodes:∀k,k<16→E k=false→getM s t k=⟨#[]⟩∨(bA (getM s t k)).2=true∧xK s (nodeAt s t k)
 acc:Acc s (fun r=>O r+bo (di s t) r+gH s t E r)
theorem fI:bA ⟨#[]⟩=(nC,false):=by
 have h:bw ⟨#[]⟩=([],true):=by
  unfold bw
  rw [show JA ((⟨#[]⟩:ByteArray).size+1) ⟨#[]⟩ 0 []=some [] by rw [aew (by decide)]]
  rfl
 rw [tE (by rw [h];decide)]
theorem jV {s:ay}{t:bf}{k:Nat}(h:getM s t k=⟨#[]⟩) (r:Nat):bo (dz s (nodeAt s t k)) r=0:=by
 show bo (dz s (bA (getM s t k)).1) r=0
 rw [h,fI]
 exact mc rfl r
theorem FI.ca {s u:ay}{t:bf}{E:Nat→Bool}{O X:Nat→Nat}(h:FI s t E O) (ht:s.cj≤u.cj) (hk:Kp X s u) (hX:∀r,bo (di s t) r+gH s t E r≤X r):
  Tree u t t.d∧(∀k,k<16→getM u t k=getM s t k)∧di u t=di s t∧(∀k,k<16→E k=false→getM u t k=⟨#[]⟩∨(bA (getM u t k)).2=true∧xK u (nodeAt u t k))∧∀r,gH u t E r=gH s t E r:=by
 have h1:=xj h.tree ht hk fun r=>by have:=hX r;show bo (di s t) r≤_;omega
 have tP:∀k,k<16→getM u t k=getM s t k:=fun k rN=>by
  unfold getM
  rw [h1.2.2,mL (s:=s)]
  intro hh
  refine hk _ ?_
  have hm:nth ae (aB s t) k∈aB s t:=bS (ek:=ae) (by rw [gi h.tree.rC.trd];exact rN)
  have c1:=tZ hm hh
  have c2:bo (di s t) (at' (nth ae (aB s t) k))=bo (bz s t) (at' (nth ae (aB s t) k))+bo (aB s t) (at' (nth ae (aB s t) k)):=F0 h.tree.rC (at' (nth ae (aB s t) k))
  have c3:=hX (at' (nth ae (aB s t) k))
  omega
 have D6:∀k,k<16→E k=false→getM s t k≠⟨#[]⟩→xK u (nodeAt s t k)∧dz u (nodeAt s t k)=dz s (nodeAt s t k):=fun k rN hE fB=>by
  have hn:=(h.nodes k rN hE).resolve_left fB
  have h2:=xj hn.2.tree ht hk fun r=>by
   have c1:=H9 (f:=fun k=>bif E k then 0 else bo (dz s (nodeAt s t k)) r) (l:=List.range 16) (ZE2.2 rN)
   have c2:=hX r
   have c1:(bif E k then 0 else bo (dz s (nodeAt s t k)) r)≤gH s t E r:=c1
   rw [hE,cond_false] at c1
   show bo (dz s (nodeAt s t k)) r≤_
   omega
  exact⟨⟨hn.2.ok,h2.1⟩,h2.2.1⟩
 refine⟨h1.1,tP,h1.2.1,fun k rN hE=>?_,fun r=>?_⟩
 ·by_cases fB:getM s t k=⟨#[]⟩
  ·left;rw [tP k rN];exact fB
  ·right
   have hn:=(h.nodes k rN hE).resolve_left fB
   unfold nodeAt
   rw [tP k rN]
   exact⟨hn.1,(D6 k rN hE fB).1⟩
 ·unfold gH
  refine NV fun k rN=>?_
  have rN:=ZE2.1 rN
  cases hE:E k with
  |true=>rfl
  |false=>
   simp only [cond_false]
   by_cases fB:getM s t k=⟨#[]⟩
   ·rw [jV (by rw [tP k rN];exact fB),jV fB]
   ·show bo (dz u (bA (getM u t k)).1) r=_
    rw [tP k rN]
    show bo (dz u (nodeAt s t k)) r=_
    rw [(D6 k rN hE fB).2]
abbrev rT (E:Nat→Bool) (i:Nat):Nat→Bool:=fun k=>decide (k=i)||E k
theorem FI.take {s:ay}{t:bf}{E:Nat→Bool}{O:Nat→Nat}{i:Nat}(h:FI s t E O) (hi:i<16) (hE:E i=false):FI s t (rT E i) (fun r=>O r+bo (dz s (nodeAt s t i)) r):=by
 refine⟨h.tree,fun k hk hk2=>h.nodes k hk ?_,h.acc.mono fun r=>?_⟩
 ·unfold rT at hk2
  simp only [ZE1] at hk2;exact hk2.2
 ·have:=NU (f:=fun k=>bif rT E i k then 0 else bo (dz s (nodeAt s t k)) r) (g:=fun k=>bif E k then 0 else bo (dz s (nodeAt s t k)) r) (i:=i) (l:=List.range 16) List.nodup_range (ZE2.2 hi) (fun k _ fB=>by
   have:rT E i k=E k:=by unfold rT;rw [decide_eq_false fB];rfl
   simp only [this]) (by
   have:rT E i i=true:=by unfold rT;rw [decide_eq_true rfl];rfl
   simp only [this,cond_true])
  have e:gH s t E r=gH s t (rT E i) r+bo (dz s (nodeAt s t i)) r:=by
   have h2:=this
   simp only [hE,cond_false] at h2
   exact h2
  show O r+bo (dz s (nodeAt s t i)) r+bo (di s t) r+gH s t (rT E i) r≤O r+bo (di s t) r+gH s t E r
  omega
theorem FI.more {s:ay}{t:bf}{E:Nat→Bool}{O O':Nat→Nat}(h:FI s t E O) (hO:∀r,O' r≤O r):FI s t E O':=
 ⟨h.tree,h.nodes,h.acc.mono fun r=>by have:=hO r;show O' r+_+_≤O r+_+_;omega⟩
theorem FI.other {s u:ay}{t:bf}{E:Nat→Bool}{O O':Nat→Nat}(h:FI s t E O) (ht:u.cj=s.cj) (hk:Kp (fun r=>O' r+bo (di s t) r+gH s t E r) s u) {Y:Nat→Nat}(ha:Acc u (fun r=>O' r+bo (di s t) r+gH s t E r+Y r)):FI u t E (fun r=>O' r+Y r):=by
 have hK:=h.ca (Int.le_of_eq ht.symm) hk fun r=>by show _≤O' r+_+_;omega
 refine⟨hK.1,hK.2.2.2.1,ha.mono fun r=>?_⟩
 rw [hK.2.2.1,hK.2.2.2.2 r];omega
theorem F3 {s:ay}{t:bf}{d:Nat}(h:Tree s t d):il s d t.root=di s t:=by rw [h.rC.ajC]
theorem FI.akx {s:ay}{t:bf}{E:Nat→Bool}{O:Nat→Nat}{t2:bf}{k:Int}{text:ByteArray}(h:FI s t E (fun r=>O r+bo (di s t2) r)) (h2:Tree s t2 t2.d) (hk0:0≤k) (hk:k≤15) (hz:(aY s t2 k text).2.2=true):
  ∃d,aim s t2 (fun r=>O r+bo (di s t) r+gH s t E r) k.toNat text (bO t2 k) (aY s t2 k text).1 (aY s t2 k text).2.1 d∧FI (aY s t2 k text).1 t E (fun r=>O r+bo (di (aY s t2 k text).1 (aY s t2 k text).2.1) r)∧Tree (aY s t2 k text).1 (aY s t2 k text).2.1 (aY s t2 k text).2.1.d:=by
 obtain⟨d,hP⟩:=BS (X:=fun r=>O r+bo (di s t) r+gH s t E r) (h.acc.mono fun r=>by show O r+bo (di s t) r+gH s t E r+bo (di s t2) r≤O r+bo (di s t2) r+bo (di s t) r+gH s t E r;omega) h2 hk0 hk hz
 refine⟨d,hP,?_,hP.tree.at⟩
 have:=h.other (O':=O) (Y:=fun r=>bo (il _ d _) r) hP.same.cj hP.kp hP.acc
 rw [F3 hP.tree] at this
 exact this
theorem FI.alm {s:ay}{t:bf}{E:Nat→Bool}{O:Nat→Nat}{t2:bf}{many:Int}(h:FI s t E (fun r=>O r+bo (di s t2) r)) (h2:Tree s t2 t2.d) (h0:0≤many) (h1:many≤16) (hz:(cG s t2 many).2.2=true):
  ∃d,aj4 s t2 (fun r=>O r+bo (di s t) r+gH s t E r) many (cG s t2 many).1 (cG s t2 many).2.1 d∧FI (cG s t2 many).1 t E (fun r=>O r+bo (di (cG s t2 many).1 (cG s t2 many).2.1) r)∧Tree (cG s t2 many).1 (cG s t2 many).2.1 (cG s t2 many).2.1.d:=by
 obtain⟨d,hP⟩:=ND (X:=fun r=>O r+bo (di s t) r+gH s t E r) (h.acc.mono fun r=>by show O r+bo (di s t) r+gH s t E r+bo (di s t2) r≤O r+bo (di s t2) r+bo (di s t) r+gH s t E r;omega) h2 h0 h1 hz
 refine⟨d,hP,?_,hP.tree.at⟩
 have:=h.other (O':=O) (Y:=fun r=>bo (il _ d _) r) hP.same.cj hP.kp hP.acc
 rw [F3 hP.tree] at this
 exact this
theorem FI.next {s:ay}{t:bf}{E:Nat→Bool}{O:Nat→Nat}(h:FI s t E O) (ht:s.cj<1000000):FI (ij s) t E O∧∀k,k<16→getM (ij s) t k=getM s t k:=by
 obtain⟨ha,hk,htx,_,_⟩:=yy h.acc ht
 have hK:=h.ca (by rw [htx];omega) hk fun r=>by show _≤O r+_+_;omega
 exact⟨⟨hK.1,hK.2.2.2.1,ha.mono fun r=>by rw [hK.2.2.1,hK.2.2.2.2 r];exact ZB5 _⟩,hK.2.1⟩
end GL
namespace GL
theorem xK.kp {s u:ay}{n:fv}{X:Nat→Nat}(h:xK s n) (ht:s.cj≤u.cj) (hk:Kp X s u) (hX:∀r,bo (dz s n) r≤X r):xK u n∧dz u n=dz s n:=by
 have:=xj h.tree ht hk hX
 exact⟨⟨h.ok,this.1⟩,this.2.1⟩
structure ain (s:ay) (t:bf) (E:Nat→Bool) (O:Nat→Nat) (i:Nat) (text:ByteArray) (u:ay) (t':bf):Prop where
 fi:FI u t' E O
 at_:getM u t' i=text
 other:∀k,k<16→k≠i→getM u t' k=getM s t k
 kp:Kp O s u
 same:dR s u
 many:t'.many=bO t i
theorem FI.aiJ {s:ay}{t:bf}{E:Nat→Bool}{O:Nat→Nat}{i:Nat}{text:ByteArray}(h:FI s t E O) (hi:i<16) (hE:E i=true) (hz:(aY s t i text).2.2=true):ain s t E O i text (aY s t i text).1 (aY s t i text).2.1:=by
 obtain⟨d,hP⟩:=BS (X:=fun r=>O r+gH s t E r) (h.acc.mono fun r=>by show O r+gH s t E r+bo (di s t) r≤O r+bo (di s t) r+gH s t E r;omega) h.tree (by omega) (by omega) hz
 generalize (aY s t i text).1=u at *
 generalize (aY s t i text).2.1=t' at *
 have htx:s.cj≤u.cj:=by rw [hP.same.cj];exact ZC1 _
 have tP:∀k,k<16→k≠i→getM u t' k=getM s t k:=fun k hk fB=>by
  rw [hP.get k hk,if_neg (by rw [ZA5];exact fB)]
 have D6:∀k,k<16→E k=false→getM s t k≠⟨#[]⟩→xK u (nodeAt s t k)∧dz u (nodeAt s t k)=dz s (nodeAt s t k):=fun k rN hEk fB=>by
  have hn:=(h.nodes k rN hEk).resolve_left fB
  refine hn.2.kp htx hP.kp fun r=>?_
  have c1:=H9 (f:=fun k=>bif E k then 0 else bo (dz s (nodeAt s t k)) r) (l:=List.range 16) (ZE2.2 rN)
  have c1:(bif E k then 0 else bo (dz s (nodeAt s t k)) r)≤gH s t E r:=c1
  rw [hEk,cond_false] at c1
  show bo (dz s (nodeAt s t k)) r≤O r+_
  omega
 refine⟨⟨hP.tree.at,fun k hk hEk=>?_,?_⟩,?_,tP,hP.kp.mono fun r=>ZD3 _ _,hP.same,hP.many⟩
 ·have fB:k≠i:=fun e=>by rw [e,hE] at hEk;cases hEk
  by_cases h0:getM s t k=⟨#[]⟩
  ·left;rw [tP k hk fB];exact h0
  ·right
   have hn:=(h.nodes k hk hEk).resolve_left h0
   unfold nodeAt
   rw [tP k hk fB]
   exact⟨hn.1,(D6 k hk hEk h0).1⟩
 ·refine hP.acc.mono fun r=>?_
  have e:gH u t' E r=gH s t E r:=by
   unfold gH
   refine NV fun k hk=>?_
   have hk:=ZE2.1 hk
   cases hEk:E k with
   |true=>rfl
   |false=>
    have fB:k≠i:=fun e=>by rw [e,hE] at hEk;cases hEk
    simp only [cond_false]
    by_cases h0:getM s t k=⟨#[]⟩
    ·rw [jV (by rw [tP k hk fB];exact h0),jV h0]
    ·show bo (dz u (bA (getM u t' k)).1) r=_
     rw [tP k hk fB]
     show bo (dz u (nodeAt s t k)) r=_
     rw [(D6 k hk hEk h0).2]
  rw [e,F3 hP.tree]
  show O r+_+_≤O r+_+_;omega
 ·rw [hP.get i hi,if_pos (by rw [ZA5])]
abbrev vT (E:Nat→Bool) (i:Nat):Nat→Bool:=fun k=> !(decide (k=i))&&E k
theorem QG {s:ay}{t:bf}{E:Nat→Bool}{i:Nat}(hi:i<16) (hE:E i=true) (r:Nat):gH s t (vT E i) r=gH s t E r+bo (dz s (nodeAt s t i)) r:=by
 have h:=NU (f:=fun k=>bif E k then 0 else bo (dz s (nodeAt s t k)) r) (g:=fun k=>bif vT E i k then 0 else bo (dz s (nodeAt s t k)) r) (i:=i) (l:=List.range 16) List.nodup_range (ZE2.2 hi) (fun k _ fB=>by
  have:vT E i k=E k:=by unfold vT;rw [decide_eq_false fB];rfl
  simp only [this]) (by simp only [hE,cond_true])
 have hd:vT E i i=false:=by unfold vT;rw [decide_eq_true rfl];rfl
 simp only [hd,cond_false] at h
 exact h
theorem FI.back {s:ay}{t:bf}{E:Nat→Bool}{O:Nat→Nat}{i:Nat}{n:fv}(h:FI s t E (fun r=>O r+bo (dz s n) r)) (hi:i<16) (hE:E i=true) (hg:bA (getM s t i)=(n,true)) (hn:xK s n):FI s t (vT E i) O:=by
 have hna:nodeAt s t i=n:=by show (bA (getM s t i)).1=n;rw [hg]
 refine⟨h.tree,fun k hk hEk=>?_,h.acc.mono fun r=>?_⟩
 ·by_cases e:k=i
  ·subst e;right;rw [hna,hg];exact⟨rfl,hn⟩
  ·refine h.nodes k hk ?_
   have:vT E i k=E k:=by unfold vT;rw [decide_eq_false e];rfl
   rw [←this];exact hEk
 ·rw [QG hi hE,hna]
  show O r+_+_≤O r+_+_+_;omega
theorem FI.agZ {s:ay}{t:bf}{E:Nat→Bool}{O:Nat→Nat}{i:Nat}(h:FI s t E O) (hi:i<16) (hE:E i=true) (hg:getM s t i=⟨#[]⟩):FI s t (vT E i) O:=by
 refine⟨h.tree,fun k hk hEk=>?_,h.acc.mono fun r=>?_⟩
 ·by_cases e:k=i
  ·subst e;left;exact hg
  ·refine h.nodes k hk ?_
   have:vT E i k=E k:=by unfold vT;rw [decide_eq_false e];rfl
   rw [←this];exact hEk
 ·rw [QG hi hE,jV hg]
  show O r+bo (di s t) r+(gH s t E r+0)≤O r+bo (di s t) r+gH s t E r;omega
theorem aam {E:Nat→Bool}{i:Nat}(h:E i=false):vT (rT E i) i=E:=by
 funext k
 unfold vT rT
 by_cases e:k=i
 ·subst e;rw [decide_eq_true rfl,h];rfl
 ·rw [decide_eq_false e];rfl
theorem FI.YY {s:ay}{t:bf}{E:Nat→Bool}{O:Nat→Nat}{i:Nat}{n:fv}(h:FI s t E (fun r=>O r+bo (dz s n) r)) (hi:i<16) (hE:E i=true) (hn:cy n=true→xK s n) (hz:(aY s t i (aC n)).2.2=true):
  FI (aY s t i (aC n)).1 (aY s t i (aC n)).2.1 (vT E i) O∧ain s t E O i (aC n) (aY s t i (aC n)).1 (aY s t i (aC n)).2.1:=by
 have hP:=h.aiJ (text:=aC n) hi hE hz
 have hP0:ain s t E O i (aC n) (aY s t i (aC n)).1 (aY s t i (aC n)).2.1:=⟨hP.fi.more fun r=>ZD3 _ _,hP.at_,hP.other,hP.kp.mono fun r=>ZD3 _ _,hP.same,hP.many⟩
 refine⟨?_,hP0⟩
 cases ho:cy n with
 |false=>
  have he:aC n=⟨#[]⟩:=by unfold aC;rw [ho];rfl
  exact hP0.fi.agZ hi hE (by rw [hP.at_,he])
 |true=>
  have hk:=(hn ho).kp (u:=(aY s t i (aC n)).1) (by rw [hP.same.cj];exact ZC1 _) hP.kp fun r=>Nat.le_add_left _ _
  refine (hP.fi.more fun r=>?_).back (n:=n) hi hE (by rw [hP.at_];exact tD ho) hk.1
  rw [hk.2];exact ZB5 _
end GL
end Go.Proofs.YtkgpljpmdkflmaaGreatDoor
