/- FnTreeOk returns true for every code (its row lists package variables, tied by the card): part 25. -/
import Derived.Test.YtbfgjadbfjkcdaaGreatDoorPas
import Derived.Test.YtbfgjadbfjkcdaaGreatDoorPat
import Derived.Test.YtbfgjadbfjkcdaaGreatDoorPax
set_option maxHeartbeats 20000000
set_option linter.all false
namespace Go.Proofs.YtbfgjadbfjkcdaaGreatDoor
namespace GL
structure Tree (s:ay) (t:bf) (d:Nat):Prop where
 rH:oP s t d
 m0:0≤t.many
 m1:t.many≤16
 dm:bl t.many=((d:Nat):Int)
 tail:∀i,t.many.toNat≤i→au (nth ae (aB s t) i)=true
theorem Tree.ok {s:ay}{t:bf}{d:Nat}(h:Tree s t d):t.ok:=⟨h.rH.trd,h.m0,h.m1⟩
theorem ZV {l m:List Pt}{i:Nat}(h:l.length≤i):nth ae (l++m) i=nth ae m (i-l.length):=by
 unfold nth;rw [ZC6 h]
theorem CJ (n i:Nat):nth ae (cw n) i=bO:=by
 by_cases h:i<(cw n).length
 ·exact (ZD6.1 (bT (ek:=ae) h)).2
 ·exact tD (ek:=ae) (by omega)
theorem MX (a b:Nat):cw a++cw b=cw (a+b):=by
 unfold cw;rw [List.replicate_append_replicate]
theorem ace (n:Nat):(cw n).length=n:=ZG1
theorem Laid.wide {s:ay}{Y:Nat→Nat}{l:List Pt}{many:Int}{u:ay}{t':bf}{d:Nat}(h:Laid s Y l many u t' d):aB u t'=l++cw (16-l.length)∧l.length≤16:=by
 obtain⟨k,hk⟩:=h.lv
 have hw:=mG h.rH
 have hl:=gj (s:=u) h.rH.trd
 rw [hw,hk,ZD2,MX] at hl
 rw [ZA0,ace] at hl
 refine⟨?_,by omega⟩
 rw [hw,hk,ZD2,MX]
 congr 2;omega
theorem Laid.tree {s:ay}{Y:Nat→Nat}{l:List Pt}{many:Int}{u:ay}{t':bf}{d:Nat}(h:Laid s Y l many u t' d) (h0:0≤many) (h1:many≤16) (hl:l.length=many.toNat):Tree u t' d:=by
 refine⟨h.rH,by rw [h.many];exact h0,by rw [h.many];exact h1,by rw [h.many];exact h.dm,fun i hi=>?_⟩
 rw [h.many] at hi
 rw [h.wide.1,ZV (by omega),CJ];rfl
theorem KW {s:ay}:∀{n:Nat}{p q:Pt},rE s n p→q∈xr s n p→rE s 0 q
 |0,p,q,h,hq=>by rw [ZC7.1 (show q∈[p] from hq)];exact h
 |n+1,p,q,h,hq=>by
  obtain⟨x,hx,hxq⟩:=List.mem_flatMap.1 (show q∈(lG s n p).flatMap (xr s n) from hq)
  exact KW (h.2.2 x hx) hxq
theorem uU {s:ay}{t:bf}{d:Nat}(h:oP s t d):∀q∈aB s t,rE s 0 q:=fun q hq=>by
 rw [mG h] at hq
 rcases ZB5.1 hq with hq |hq
 ·exact KW h.snd hq
 ·rw [show q=bO from (ZD6.1 hq).2];exact kB s 0
theorem GC {s:ay}{t:bf}{d:Nat}(h:oP s t d) (r:Nat):bq (im s d t.root) r=bq (bA s t) r+bq (aB s t) r:=by
 rw [mH,C0 h,mG h,bK,fN];omega
theorem QJ {s u:ay}{t:bf}{d:Nat}{O:Nat→Nat}(h:oP s t d) (ht:s.ck≤u.ck) (hk:Kp O s u) (hO:∀r,bq (im s d t.root) r≤O r):oP u t d∧im u d t.root=im s d t.root∧aB u t=aB s t∧∀r,bq (bA u t) r=bq (bA s t) r:=by
 have hs:=uu h.snd ht hk hO
 have h':oP u t d:=⟨h.dep,h.le,hs.1⟩
 refine⟨h',hs.2.1,by rw [mG h',mG h,hs.2.2.1],fun r=>?_⟩
 rw [←C0 h',←C0 h,hs.2.2.2]
theorem xo {s u:ay}{t:bf}{d:Nat}{O:Nat→Nat}(h:Tree s t d) (ht:s.ck≤u.ck) (hk:Kp O s u) (hO:∀r,bq (im s d t.root) r≤O r):Tree u t d∧im u d t.root=im s d t.root∧aB u t=aB s t:=by
 have h':=QJ h.rH ht hk hO
 exact⟨⟨h'.1,h.m0,h.m1,h.dm,by rw [h'.2.2.1];exact h.tail⟩,h'.2.1,h'.2.2.1⟩
theorem aaK {p:Pt}{r:Nat}:∀{l:List Pt}{k:Nat},k<l.length→bq (l.set k p) r+bq [nth ae l k] r=bq l r+bq [p] r
 |q::l,0,_=>by
  show bq (p::l) r+bq [q] r=_
  rw [dQ p l,dQ q l];omega
 |q::l,k+1,h=>by
  have ih:=aaK (p:=p) (r:=r) (l:=l) (k:=k) (by simp at h;omega)
  show bq (q::l.set k p) r+bq [nth ae l k] r=_
  rw [dQ q (l.set k p),dQ q l];omega
theorem afr (l:List Pt) (n r:Nat):bq (l.take n) r≤bq l r:=P8 (List.take_sublist n l) r
theorem tI {l:List Pt}{k n:Nat}{p q:Pt}(h:q∈(l.set k p).take n):q=p∨q∈l:=by
 rcases List.mem_or_eq_of_mem_set (ZE6 h) with h |h
 ·exact .inr h
 ·exact .inl h
theorem BY {s:ay}{t:bf}{L:List Pt}{k:Nat}{p old:Pt}{many:Int}{O X:Nat→Nat}{dt:Nat}(ha:Acc s O) (ht:oP s t dt) (C1:0≤many) (hm:many≤16) (hL:L.length=16) (hold:a6 old=true) (hs:∀q∈(L.set k p).take many.toNat,rE s 0 q)
  (hX:∀r,X r+bq ((L.set k p).take many.toNat) r+bq (bif ptrEq p old then [] else [old]) r+bq (bA s t) r≤O r) (ho:∀r,bq (im s dt t.root) r≤O r) (hz:(pW s t L k p many old).2.2=true):
  ∃d,Laid s (fun r=>X r+bq ((L.set k p).take many.toNat) r) ((L.set k p).take many.toNat) many (pW s t L k p many old).1 (pW s t L k p many old).2.1 d:=by
 unfold pW at hz ⊢
 cases hl: !(bS s t (L.set k p) many).2.2 with
 |true=>rw [hl] at hz;cases hz
 |false=>
  have alo:=MJ (L:=L.set k p) (Y:=fun r=>X r+bq ((L.set k p).take many.toNat) r+bq (bif ptrEq p old then [] else [old]) r) ha ht C1 hm (by rw [ZC3];omega) hs hX (fun r=>by show _≤X r+_+_;omega) ho (oN hl)
  obtain⟨d,hd⟩:=alo
  refine⟨d,?_⟩
  simp only [cond_false]
  generalize (bS s t (L.set k p) many).1=u at *
  generalize (bS s t (L.set k p) many).2.1=t' at *
  cases he:ptrEq p old with
  |true=>
   rw [he] at hd
   show Laid s _ _ many u t' d
   exact⟨hd.rH,hd.dm,hd.many,hd.lv,hd.acc.mono fun r=>by show X r+_+_≤X r+_+bq [] r+_;rw [rB];omega,hd.kp.mono fun r=>ZD3 _ _,hd.same⟩
  |false=>
   rw [he] at hd
   show Laid s _ _ many (cN u old) t' d
   have hf:=C8 (p:=old) (O':=fun r=>X r+bq ((L.set k p).take many.toNat) r+bq (uO u d t'.root) r) hd.acc hold (fun r=>by
    show X r+_+_+_≤X r+_+bq [old] r+_;omega)
   obtain⟨j,hj⟩:=hd.lv
   have hk:=QJ hd.rH (Int.le_of_eq hf.2.2.ck.symm) hf.2.1 fun r=>by
    rw [mH,hj,bK,fN]
    show _≤X r+_+_;omega
   have hks:=uu hd.rH.snd (by rw [hf.2.2.ck];exact ZC1 _) hf.2.1 fun r=>by
    rw [mH,hj,bK,fN]
    show _≤X r+_+_;omega
   exact⟨hk.1,hd.dm,hd.many,⟨j,by rw [hks.2.2.1,hj]⟩,by rw [hks.2.2.2];exact hf.1,(hd.kp.mono fun r=>ZD3 _ _).trans (hf.2.1.mono fun r=>ZD3 _ _),hd.same.trans hf.2.2⟩
structure aiN (s:ay) (t:bf) (X:Nat→Nat) (k:Nat) (text:ByteArray) (many:Int) (u:ay) (t':bf) (d:Nat):Prop where
 tree:Tree u t' d
 acc:Acc u (fun r=>X r+bq (im u d t'.root) r)
 kp:Kp X s u
 same:dR s u
 many:t'.many=many
 get:∀j,j<16→getM u t' j=if j=k then text else getM s t j
theorem zN {l:List Pt}{n i:Nat}(h:i<n):nth ae (l.take n) i=nth ae l i:=by
 unfold nth;rw [List.getElem?_take_of_lt h]
theorem yB {l m:List Pt}{i:Nat}(h:i<l.length):nth ae (l++m) i=nth ae l i:=by
 unfold nth;rw [ZC2 h]
theorem Laid.put {s0 s:ay}{t:bf}{X:Nat→Nat}{k:Nat}{p:Pt}{many:Int}{u:ay}{t':bf}{d dt:Nat}{text:ByteArray}(h:Laid s (fun r=>X r+bq (((aB s0 t).set k p).take many.toNat) r) (((aB s0 t).set k p).take many.toNat) many u t' d) (ht:oP s0 t dt) (C1:0≤many) (hm:many≤16) (hk:k<16) (hkm:(k:Int)<many) (htl:∀i,many.toNat≤i→au (nth ae (aB s0 t) i)=true) (hX:Kp X s0 s) (hS:dR s0 s) (hr:(bH s p).1=text) (hq:∀j,j≠k→au (nth ae (aB s0 t) j)=false→bH s (nth ae (aB s0 t) j)=bH s0 (nth ae (aB s0 t) j)):aiN s0 t X k text many u t' d:=by
 have hlen:=gj (s:=s0) ht.trd
 have hl:(((aB s0 t).set k p).take many.toNat).length=many.toNat:=by rw [ZB8,ZC3];omega
 have hT:=h.tree C1 hm hl
 have hw:=h.wide.1
 have xM:∀j,j<many.toNat→nth ae (aB u t') j=nth ae ((aB s0 t).set k p) j:=fun j hj=>by
  rw [hw,yB (by omega),zN hj]
 have uE:∀q∈((aB s0 t).set k p).take many.toNat,bH u q=bH s q:=fun q hq=>mO fun hh=>h.kp _ (by
  have:=ub hq hh
  show 0<X _+_;omega)
 refine⟨hT,?_,hX.trans (h.kp.mono fun r=>ZD3 _ _),hS.trans h.same,h.many,fun j hj=>?_⟩
 ·refine h.acc.mono fun r=>?_
  obtain⟨i,hi⟩:=h.lv
  rw [mH,hi,bK,fN]
  show _≤X r+_+_;omega
 ·unfold getM
  by_cases hjm:j<many.toNat
  ·rw [xM j hjm]
   have yT:nth ae ((aB s0 t).set k p) j∈((aB s0 t).set k p).take many.toNat:=by
    rw [←zN hjm];exact bT (ek:=ae) (by omega)
   rw [uE _ yT]
   by_cases e:j=k
   ·subst e
    rw [if_pos rfl,nC (ek:=ae) (by omega)];exact hr
   ·rw [if_neg e,ix (ek:=ae) (fun h=>e h.symm)]
    cases hh:au (nth ae (aB s0 t) j) with
    |true=>rw [fT hh,fT hh]
    |false=>rw [hq j e hh]
  ·have e:j≠k:=by omega
   rw [if_neg e]
   have h1:au (nth ae (aB u t') j)=true:=hT.tail j (by rw [h.many];omega)
   rw [fT h1,fT (htl j (by omega))]
theorem BX {s:ay}{t:bf}{X:Nat→Nat}{k:Int}{text:ByteArray}{dt:Nat}(ha:Acc s (fun r=>X r+bq (im s dt t.root) r)) (ht:Tree s t dt) (hk0:0≤k) (hk:k≤15) (hz:(aY s t k text).2.2=true):
  ∃d,aiN s t X k.toNat text (bP t k) (aY s t k text).1 (aY s t k text).2.1 d:=by
 have C1:0≤bP t k:=by unfold bP;have:=ht.m0;omega
 have hm1:bP t k≤16:=by unfold bP;have:=ht.m1;omega
 have hkm:(k.toNat:Int)<bP t k:=by unfold bP;omega
 have htm:t.many.toNat≤(bP t k).toNat:=by unfold bP;omega
 have hlen:=gj (s:=s) ht.rH.trd
 have hold:a6 (dW s t k)=true:=oJ (lH ht.rH.trd) _
 have htl:∀i,(bP t k).toNat≤i→au (nth ae (aB s t) i)=true:=fun i hi=>ht.tail i (by omega)
 have cr:∀r,bq (im s dt t.root) r=bq (bA s t) r+bq (aB s t) r:=GC ht.rH
 have aeo:∀(p:Pt) (r:Nat),bq ((aB s t).set k.toNat p) r+bq [dW s t k] r=bq (aB s t) r+bq [p] r:=fun p r=>aaK (by omega)
 have htk:=fun (p:Pt) (r:Nat)=>afr ((aB s t).set k.toNat p) (bP t k).toNat r
 have I9:∀{P:Prop},decide (gW s t k=text)=true→decide (gW s t k≠text)=true→P:=fun h1 h2=>absurd (aE h1) (aE h2)
 unfold aY at hz ⊢
 cases h1:decide (gW s t k=text) with
 |true=>
  have ajr:(bH s (dW s t k)).1=text:=aE h1
  rw [decide_eq_false (p:=gW s t k≠text) (fun h=>h (aE h1))] at hz ⊢
  cases h2:decide (bP t k=t.many) with
  |true=>
   have h2:=aE h2
   refine⟨dt,⟨ht,ha,Kp.refl _ _,dR.refl _,h2.symm,fun j hj=>?_⟩⟩
   show getM s t j=_
   by_cases e:j=k.toNat
   ·rw [if_pos e,e];exact ajr
   ·rw [if_neg e]
  |false=>
   rw [h1,h2] at hz
   obtain⟨d,hd⟩:=BY (X:=X) ha ht.rH C1 hm1 hlen hold (fun q hq=>by
    rcases tI hq with rfl |hq
    ·exact uU ht.rH _ (bT (ek:=ae) (by omega))
    ·exact uU ht.rH q hq) (fun r=>by
    have a1:=cr r
    have a2:=aeo (dW s t k) r
    have a3:=htk (dW s t k) r
    rw [si.2 rfl]
    show X r+_+bq [] r+_≤X r+_
    rw [rB];omega) (fun r=>by show _≤X r+_;omega) hz
   exact⟨d,hd.put ht.rH C1 hm1 (by omega) hkm htl (Kp.refl _ _) (dR.refl _) ajr fun j _ _=>rfl⟩
 |false=>
  rw [decide_eq_true (p:=gW s t k≠text) (aA h1)] at hz ⊢
  rw [h1] at hz
  cases h3:decide (text≠⟨#[]⟩) with
  |false=>
   have ajt:text=⟨#[]⟩:=Classical.byContradiction (aA h3)
   rw [h3] at hz
   obtain⟨d,hd⟩:=BY (X:=X) ha ht.rH C1 hm1 hlen hold (fun q hq=>by
    rcases tI hq with rfl |hq
    ·exact kB s 0
    ·exact uU ht.rH q hq) (fun r=>by
    have a1:=cr r
    have a2:=aeo bO r
    have a3:=htk bO r
    rw [mj (p:=bO) rfl] at a2
    have a4:bq (bif ptrEq bO (dW s t k) then [] else [dW s t k]) r≤bq [dW s t k] r:=by
     cases ptrEq bO (dW s t k) with
     |true=>exact ZA8 _
     |false=>exact ZB6 _
    show X r+_+_+_≤X r+_
    omega) (fun r=>by show _≤X r+_;omega) hz
   exact⟨d,hd.put ht.rH C1 hm1 (by omega) hkm htl (Kp.refl _ _) (dR.refl _) (by rw [fT rfl,ajt]) fun j _ _=>rfl⟩
  |true=>
   rw [h3] at hz
   cases hw: !(bg s text 0).2.2 with
   |true=>rw [hw] at hz;cases hz
   |false=>
    rw [hw] at hz
    obtain⟨akL,wkp,acF,_,_,wfr⟩:=xS ha (oN hw)
    simp only [Bool.false_and,cond_false,cond_true] at hz ⊢
    generalize (bg s text 0).1=s1 at *
    generalize (bg s text 0).2.1=p at *
    have hT:=QJ ht.rH (Int.le_of_eq acF.ck.symm) wkp fun r=>Nat.le_add_left _ _
    have hq1:∀q∈aB s t,rE s1 0 q:=by rw [←hT.2.2.1];exact uU hT.1
    obtain⟨d,hd⟩:=BY (X:=X) akL hT.1 C1 hm1 hlen hold (fun q hq=>by
     rcases tI hq with rfl |hq
     ·exact⟨wfr.ok,fun hh=>⟨wfr.lv,by rw [wfr.EV,acF.ck];exact ZC1 _,by rw [wK hh wfr.row wfr.fits]⟩⟩
     ·exact hq1 q hq) (fun r=>by
     have a1:=cr r
     have a2:=aeo p r
     have a3:=htk p r
     have a4:bq (bif ptrEq p (dW s t k) then [] else [dW s t k]) r≤bq [dW s t k] r:=by
      cases ptrEq p (dW s t k) with
      |true=>exact ZA8 _
      |false=>exact ZB6 _
     rw [hT.2.2.2 r]
     show X r+_+_+_≤X r+_+_
     omega) (fun r=>by rw [hT.2.1];show _≤X r+_+_;omega) hz
    refine⟨d,hd.put ht.rH C1 hm1 (by omega) hkm htl (wkp.mono fun r=>ZD3 _ _) acF (by rw [wK wfr.nh wfr.row wfr.fits]) fun j _ hh=>?_⟩
    refine mO fun _=>wkp _ ?_
    have hj:j<(aB s t).length:=by
     rw [hlen]
     refine Classical.byContradiction fun FX=>?_
     rw [show nth ae (aB s t) j=bO from tD (ek:=ae) (by omega)] at hh
     cases hh
    have c1:=ub (bT (ek:=ae) hj) hh
    have c2:=cr (at' (nth ae (aB s t) j))
    have c3:bq (aB s t) (at' (nth ae (aB s t) j))≤X (at' (nth ae (aB s t) j))+bq (im s dt t.root) (at' (nth ae (aB s t) j)):=by omega
    exact ZG2 c1 c3
end GL
namespace GL
theorem vN:∀(l:List Pt) (s:ay),dz l s=l.foldl cN s
 |[],_=>rfl
 |p::l,s=>vN l (cN s p)
structure aks (s:ay) (t:bf) (X:Nat→Nat) (mn:Int) (u:ay) (t':bf) (d:Nat):Prop where
 tree:Tree u t' d
 acc:Acc u (fun r=>X r+bq (im u d t'.root) r)
 kp:Kp X s u
 same:dR s u
 many:t'.many=mn
 get:∀j,j<16→getM u t' j=if (j:Int)<mn then getM s t j else ⟨#[]⟩
theorem ng {s:ay}{t:bf}{d:Nat}(h:Tree s t d) {j:Nat}(hj:t.many≤(j:Int)):getM s t j=⟨#[]⟩:=by
 unfold getM
 rw [fT (h.tail j (by have:=h.m0;omega))]
theorem NR {s:ay}{t:bf}{X:Nat→Nat}{many:Int}{dt:Nat}(ha:Acc s (fun r=>X r+bq (im s dt t.root) r)) (ht:Tree s t dt) (h0:0≤many) (h1:many≤16) (hz:(cH s t many).2.2=true):
  ∃d,aks s t X many (cH s t many).1 (cH s t many).2.1 d:=by
 cases h2:decide (many=t.many) with
 |true=>
  rw [afl h2]
  have h2:=aE h2
  refine⟨dt,⟨ht,ha,Kp.refl _ _,dR.refl _,h2.symm,fun j hj=>?_⟩⟩
  show getM s t j=_
  by_cases e:(j:Int)<many
  ·rw [if_pos e]
  ·rw [if_neg e];exact ng ht (by omega)
 |false=>
  cases h3: !(bS s t (aB s t) many).2.2 with
  |true=>rw [afk h2 h3] at hz;cases hz
  |false=>
   rw [afj h2 h3]
   have hlen:=gj (s:=s) ht.rH.trd
   have cr:=GC ht.rH
   have hsp:∀r,bq (aB s t) r=bq ((aB s t).take many.toNat) r+bq ((aB s t).drop many.toNat) r:=fun r=>by
    rw [←bK,List.take_append_drop]
   obtain⟨d,hd⟩:=MJ (L:=aB s t) (Y:=fun r=>X r+bq ((aB s t).take many.toNat) r+bq ((aB s t).drop many.toNat) r) ha ht.rH h0 h1 (by omega) (fun q hq=>uU ht.rH q (ZE6 hq)) (fun r=>by
    have a1:=cr r
    have a2:=hsp r
    show X r+_+_+_≤X r+_;omega) (fun r=>by show _≤X r+_+_;omega) (fun r=>Nat.le_add_left _ _) (oN h3)
   simp only
   generalize (bS s t (aB s t) many).1=u at *
   generalize (bS s t (aB s t) many).2.1=t' at *
   rw [vN]
   have hl:((aB s t).take many.toNat).length=many.toNat:=by rw [ZB8];omega
   have hf:=yW (l:=(aB s t).drop many.toNat) (O':=fun r=>X r+bq ((aB s t).take many.toNat) r+bq (uO u d t'.root) r) hd.acc (fun p hp=>lH ht.rH.trd p (ZF4 hp)) (fun r=>by
    show X r+_+_+_≤X r+_+_+_;omega)
   obtain⟨k,hk⟩:=hd.lv
   have hT:=hd.tree h0 h1 hl
   have qU:∀r,bq (im u d t'.root) r=bq (uO u d t'.root) r+bq ((aB s t).take many.toNat) r:=fun r=>by
    rw [mH,hk,bK,fN];omega
   have uE:=xo hT (Int.le_of_eq hf.2.2.ck.symm) hf.2.1 fun r=>by rw [qU];show _≤X r+_+_;omega
   refine⟨d,⟨uE.1,?_,(hd.kp.mono fun r=>by show X r≤X r+_+_;omega).trans (hf.2.1.mono fun r=>by show X r≤X r+_+_;omega),hd.same.trans hf.2.2,hd.many,fun j hj=>?_⟩⟩
   ·refine hf.1.mono fun r=>?_
    rw [uE.2.1,qU]
    show X r+_≤X r+_+_;omega
   ·by_cases e:(j:Int)<many
    ·rw [if_pos e]
     unfold getM
     rw [uE.2.2,hd.wide.1,yB (by omega),zN (by omega)]
     rw [mO (s:=s)]
     intro hh
     have yU:j<(aB s t).length:=by omega
     have yT:nth ae (aB s t) j∈(aB s t).take many.toNat:=by
      have h5:nth ae ((aB s t).take many.toNat) j=nth ae (aB s t) j:=zN (by omega)
      rw [←h5];exact bT (ek:=ae) (by omega)
     have hc:=ub yT hh
     have k1:=hd.kp (at' (nth ae (aB s t) j)) (show 0<X (at' (nth ae (aB s t) j))+bq ((aB s t).take many.toNat) (at' (nth ae (aB s t) j))+bq ((aB s t).drop many.toNat) (at' (nth ae (aB s t) j)) by omega)
     have k2:=hf.2.1 (at' (nth ae (aB s t) j)) (show 0<X (at' (nth ae (aB s t) j))+bq ((aB s t).take many.toNat) (at' (nth ae (aB s t) j))+bq (uO u d t'.root) (at' (nth ae (aB s t) j)) by omega)
     exact k2.trans k1
    ·rw [if_neg e]
     exact ng uE.1 (by rw [hd.many];omega)
theorem YE {s:ay}{a:Nat}(oS:s.wf) (ha:a<64) (h1:1≤qO s a) (hup:qO s a≤1000000):(gf s a).wf∧(∀r,qO (gf s a) r=if a=r then qO s r-1 else qO s r)∧(∀r,qO (gf s a) r≠0∨a≠r→nth ab (gf s a).rows r=nth ab s.rows r):=by
 have hlen:a<s.refs.length:=by rw [oS.n.2.1];exact ha
 have hw:xC (qO s a-1)=qO s a-1:=F8 (by omega) (by omega)
 have hrf:(gf s a).refs=s.refs.set a (qO s a-1):=by
  show s.refs.set a (xC (qO s a-1))=_
  rw [hw]
 have vL:∀r,qO (gf s a) r=if a=r then qO s r-1 else qO s r:=fun r=>by
  show nth ag (gf s a).refs r=_
  rw [hrf]
  by_cases e:a=r
  ·subst e;rw [nC (ek:=ag) hlen,if_pos rfl]
  ·rw [ix (ek:=ag) e,if_neg e];rfl
 have hl:=xl s a
 refine⟨⟨⟨hl.1.trans oS.n.1,hl.2.1.trans oS.n.2.1,hl.2.2.trans oS.n.2.2⟩,?_⟩,vL,fun r hr=>?_⟩
 ·show∀x∈(bif uI s a then s.rows.set a ByteArray.empty else s.rows),_
  cases uI s a with
  |true=>exact VI oS.sz (ZA8 _)
  |false=>exact oS.sz
 ·show nth ab (bif uI s a then s.rows.set a ByteArray.empty else s.rows) r=_
  cases hb:uI s a with
  |false=>rfl
  |true=>
   have hz:qO (gf s a) a=0:=aE hb
   have e:a≠r:=fun e=>by
    rcases hr with hr |hr
    ·rw [←e] at hr;exact hr hz
    ·exact hr e
   exact ix (ek:=ab) e
theorem L7 {O:Nat→Nat}:∀{l:List Pt}{s:ay},s.wf→(∀r,qO s r≤1000000)→(∀p∈l,a6 p=true∧au p=false)→(∀r,((bq l r+bq s.dead r+O r:Nat):Int)≤qO s r)→
  (ka l s).wf∧(∀r,qO (ka l s) r≤1000000)∧(∀r,((bq s.dead r+O r:Nat):Int)≤qO (ka l s) r)∧Kp O s (ka l s)∧(ka l s).dead=s.dead∧(ka l s).gone=s.gone∧dR s (ka l s)
 |[],s,oS,hup,_,hsl=>⟨oS,hup,fun r=>by have:=hsl r;rw [rB] at this;show ((bq s.dead r+O r:Nat):Int)≤qO s r;omega,Kp.refl _ _,rfl,rfl,dR.refl _⟩
 |p::l,s,oS,hup,cA,hsl=>by
  have hp:=cA p (by simp)
  have xM:=sA hp.1
  have h1:=hsl (at' p)
  rw [dQ,rU hp.2] at h1
  obtain⟨d1,d2,d3⟩:=YE oS xM (by omega) (hup _)
  have ajy:∀r,((bq l r+bq (gf s (at' p)).dead r+O r:Nat):Int)≤qO (gf s (at' p)) r:=fun r=>by
   show ((bq l r+bq s.dead r+O r:Nat):Int)≤_
   have:=hsl r
   rw [dQ] at this
   rw [d2]
   by_cases e:at' p=r
   ·subst e;rw [rU hp.2] at this;rw [if_pos rfl];omega
   ·rw [if_neg e];rw [y9 e] at this;omega
  obtain⟨e1,e2,e3,e4,e5,e6,e7⟩:=L7 (l:=l) (s:=gf s (at' p)) d1 (fun r=>by
   rw [d2];have:=hup r;by_cases e:at' p=r
   ·rw [if_pos e];omega
   ·rw [if_neg e];exact this) (fun q hq=>cA q (by simp [hq])) ajy
  refine⟨e1,e2,e3,?_,e5,e6,⟨e7.ck,e7.bY,e7.same⟩⟩
  refine Kp.trans (fun r hr=>d3 r ?_) e4
  have:=ajy r
  left;omega
theorem yG {s:ay}{O:Nat→Nat}(h:Acc s O) (ht:s.ck<1000000):Acc (ik s) O∧Kp O s (ik s)∧(ik s).ck=s.ck+1∧(ik s).bY=s.bY∧(ik s).same=s.same:=by
 obtain⟨e1,e2,e3,e4,e5,e6,e7⟩:=L7 (O:=O) h.wf h.up (fun p hp=>h.ok p (by simp [hp])) h.sl
 refine⟨⟨⟨e1.n,e1.sz⟩,e2,?_,fun r=>?_,fun p hp=>?_⟩,e4,?_,e7.bY,e7.same⟩
 ·show 1≤(ka s.gone s).ck+1∧(ka s.gone s).ck+1≤1000000
  rw [e7.ck];have:=h.ck;omega
 ·show ((bq [] r+bq (ka s.gone s).dead r+O r:Nat):Int)≤_
  rw [e5,rB];have:=e3 r
  show _≤qO (ka s.gone s) r
  omega
 ·have hp:p∈[]++(ka s.gone s).dead:=hp
  rw [e5] at hp
  exact h.ok p (by simp at hp;simp [hp])
 ·show (ka s.gone s).ck+1=_
  rw [e7.ck]
abbrev nhB (p:Pt):Bool:= !(au p)
theorem ux (s:ay):∀(n:Nat),(im s n bO).filter nhB=[]
 |0=>rfl
 |n+1=>by
  show (bO::(lG s n bO).flatMap (im s n)).filter nhB=[]
  rw [oA rfl]
  have h:=ux s n
  simp only [cw,List.replicate,ZD5,List.flatMap_nil,List.filter_append,h,List.filter_cons_of_neg (show¬nhB bO=true by decide),ZE4,List.filter_nil]
def aba:Nat→Nat
 |0=>1
 |n+1=>1+4*aba n
theorem NZ {s:ay}{n:Nat}(one:∀{p:Pt},rE s n p→∃k,k≤aba n∧∀(f:Nat) (rest out:List Pt),j8 (f+k) s (p::rest) out=j8 f s rest (out++(im s n p).filter nhB)):∀{l:List Pt},(∀q∈l,rE s n q)→∃k,k≤l.length*aba n∧∀(f:Nat) (rest out:List Pt),j8 (f+k) s (l++rest) out=j8 f s rest (out++(l.flatMap (im s n)).filter nhB)
 |[],_=>⟨0,ZA8 _,fun f rest out=>by simp⟩
 |q::l,h=>by
  obtain⟨k1,h1,e1⟩:=one (h q (by simp))
  obtain⟨k2,h2,e2⟩:=NZ one (l:=l) fun x hx=>h x (by simp [hx])
  refine⟨k2+k1,by rw [ZA1,Nat.succ_mul];omega,fun f rest out=>?_⟩
  rw [←ZF8,ZG5,e1,e2,ZD5,List.filter_append,ZD2]
theorem U4 {s:ay}:∀{n:Nat}{p:Pt},rE s n p→∃k,k≤aba n∧∀(f:Nat) (rest out:List Pt),j8 (f+k) s (p::rest) out=j8 f s rest (out++(im s n p).filter nhB)
 |0,p,h=>by
  refine⟨1,ZB6 _,fun f rest out=>?_⟩
  cases hh:au p with
  |true=>
   rw [j8,hh,show (im s 0 p).filter nhB=[] by show [p].filter nhB=[];simp [nhB,hh]]
   simp
  |false=>
   have h0:=(h.2 hh).1
   rw [j8,hh,decide_eq_false (p:=p.2.2.2.2>0) (by omega),show (im s 0 p).filter nhB=[p] by show [p].filter nhB=[p];simp [nhB,hh]]
   rfl
 |n+1,p,h=>by
  cases hh:au p with
  |true=>
   refine⟨1,by show 1≤1+_;omega,fun f rest out=>?_⟩
   rw [j8,hh,iu hh,ux,ZE4];rfl
  |false=>
   have hb:=oz hh (h.2.1 hh)
   have FW:p.2.2.2.2=(((n+1):Nat):Int):=hb.2.1
   obtain⟨k,hk,e⟩:=NZ (s:=s) (n:=n) (fun h=>U4 h) (l:=lG s n p) h.2.2
   have h4:=F5 h
   refine⟨k+1,by rw [h4] at hk;show _≤1+4*aba n;omega,fun f rest out=>?_⟩
   rw [←ZF8,j8,hh,FW,decide_eq_true (p:=(((n+1):Nat):Int)>0) (by omega)]
   show j8 (f+k) s (lG s n p++rest) (out++[p])=_
   rw [e]
   show j8 f s rest (out++[p]++_)=j8 f s rest (out++(p::(lG s n p).flatMap (im s n)).filter nhB)
   rw [List.filter_cons_of_pos (by simp [nhB,hh]),ZD2];rfl
theorem U3 {s:ay}{t:bf}{d:Nat}(h:oP s t d):NO s t=true∧allM s t=(im s d t.root).filter nhB:=by
 obtain⟨k,hk,e⟩:=U4 h.snd
 have hp:aba d≤21:=by
  have:=h.le
  match d,this with
  |0,_=>decide
  |1,_=>decide
  |2,_=>decide
 obtain⟨g,hg⟩:∃g,40=g+1+k:=⟨39-k,by omega⟩
 have he:j8 40 s [t.root] []=some ((im s d t.root).filter nhB):=by
  rw [hg,e (g+1) [] []];rfl
 unfold NO allM
 rw [he];exact⟨rfl,rfl⟩
theorem MH {s:ay}{many:Int}:∀{l:List Pt}{i:Int},(∀j,j<l.length→au (nth ae l j)=false→rE s 0 (nth ae l j)∧i+j<many)→kb s many i l=true
 |[],i,_=>rfl
 |p::l,i,h=>by
  have mf:kb s many (i+1) l=true:=MH fun j hj hh=>by
   have:=h (j+1) (by simp;omega) hh
   exact⟨this.1,by have:=this.2;omega⟩
  cases hh:au p with
  |true=>rw [FP hh];exact mf
  |false=>
   obtain⟨h1,h2⟩:=h 0 (by simp) hh
   have h3:=h1.2 hh
   have h2:i+((0:Nat):Int)<many:=h2
   rw [PD hh (PE (by rw [show (bH s p).2=true from h3.2.2];rfl) (decide_eq_false (fun fB=>fB h3.1)) (decide_eq_false (by have:p.2.1≤s.ck:=h3.2.1;omega)) (decide_eq_false (by omega)))]
   exact mf
theorem Tree.oI {s:ay}{t:bf}{d:Nat}(h:Tree s t d):oI s t=true:=by
 have ⟨h1,h2⟩:=EA h.rH
 have hw:=mG h.rH
 rw [ZQ (zM (by rw [cz.2 ⟨h.m0,h.m1⟩];rfl) (decide_eq_false (by rw [h.dm,h.rH.dep];simp)) (by rw [h.rH.snd.pok];rfl)) (by rw [h1];rfl),h1]
 refine MH fun j hj hh=>⟨KW h.rH.snd (bT (ek:=ae) hj),?_⟩
 refine Classical.byContradiction fun FX=>?_
 have:=h.tail j (by have:=h.m0;omega)
 rw [hw,yB hj] at this
 rw [hh] at this
 cases this
end GL
namespace GL
abbrev cU (n:fu):bf:=(n.2.2.2.1,n.2.2.2.2.1,n.2.2.2.2.2.1,n.2.2.2.2.2.2.1,n.2.2.2.2.2.2.2.1,n.2.2.2.2.2.2.2.2.1,n.2.2.2.2.2.2.2.2.2)
abbrev bf.d (t:bf):Nat:=t.depth.toNat
theorem oP.aj0 {s:ay}{t:bf}{d:Nat}(h:oP s t d):d=t.d:=by have:=h.dep;show d=t.depth.toNat;omega
theorem Tree.at {s:ay}{t:bf}{d:Nat}(h:Tree s t d):Tree s t t.d:=by rw [←h.rH.aj0];exact h
structure xR (s:ay) (n:fu):Prop where
 ok:cy n=true
 tree:Tree s (cU n) (cU n).d
abbrev di (s:ay) (t:bf):List Pt:=im s t.d t.root
abbrev dA (s:ay) (n:fu):List Pt:=di s (cU n)
abbrev nodeAt (s:ay) (t:bf) (k:Nat):fu:=(bB (getM s t k)).1
def gJ (s:ay) (t:bf) (E:Nat→Bool) (r:Nat):Nat:=((List.range 16).map fun k=>bif E k then 0 else bq (dA s (nodeAt s t k)) r).sum
theorem VE {f g:Nat→Nat}:∀{l:List Nat},(∀k∈l,f k≤g k)→(l.map f).sum≤(l.map g).sum
 |[],_=>ZB6 _
 |k::l,h=>by
  simp only [ZE8,List.sum_cons]
  have h1:=h k (by simp)
  have h2:=VE (f:=f) (g:=g) (l:=l) fun x hx=>h x (by simp [hx])
  omega
theorem N8 {f g:Nat→Nat}{l:List Nat}(h:∀k∈l,f k=g k):(l.map f).sum=(l.map g).sum:=by
 have h1:=VE (f:=f) (g:=g) (l:=l) fun k hk=>ZA9 (h k hk)
 have h2:=VE (f:=g) (g:=f) (l:=l) fun k hk=>ZA9 (h k hk).symm
 omega
theorem IK {f:Nat→Nat}{k:Nat}:∀{l:List Nat},k∈l→f k≤(l.map f).sum
 |x::l,h=>by
  simp only [ZE8,List.sum_cons]
  rcases ZB9.1 h with rfl |h
  ·omega
  ·have:=IK (f:=f) h;omega
theorem N7 {f g:Nat→Nat}{i:Nat}:∀{l:List Nat},l.Nodup→i∈l→(∀k∈l,k≠i→f k=g k)→f i=0→(l.map g).sum=(l.map f).sum+g i
 |x::l,hn,hi,h,h0=>by
  simp only [ZE8,List.sum_cons]
  have hn':=List.nodup_cons.1 hn
  by_cases e:x=i
  ·subst e
   have:(l.map f).sum=(l.map g).sum:=N8 fun k hk=>h k (by simp [hk]) (fun e=>hn'.1 (e ▸ hk))
   omega
  ·have C3:i∈l:=by
    rcases ZB9.1 hi with e' |h
    ·exact absurd e'.symm e
    ·exact h
   have:=N7 (f:=f) (g:=g) hn'.2 C3 (fun k hk fB=>h k (by simp [hk]) fB) h0
   have:=h x (by simp) e
   omega
structure FI (s:ay) (t:bf) (E:Nat→Bool) (O:Nat→Nat):Prop where
 tree:Tree s t t.d
 nodes:∀k,k<16→E k=false→getM s t k=⟨#[]⟩∨(bB (getM s t k)).2=true∧xR s (nodeAt s t k)
 acc:Acc s (fun r=>O r+bq (di s t) r+gJ s t E r)
theorem fI:bB ⟨#[]⟩=(nG,false):=by
 have h:bz ⟨#[]⟩=([],true):=by
  unfold bz
  rw [show JL ((⟨#[]⟩:ByteArray).size+1) ⟨#[]⟩ 0 []=some [] by rw [aeV (by decide)]]
  rfl
 rw [tG (by rw [h];decide)]
theorem jU {s:ay}{t:bf}{k:Nat}(h:getM s t k=⟨#[]⟩) (r:Nat):bq (dA s (nodeAt s t k)) r=0:=by
 show bq (dA s (bB (getM s t k)).1) r=0
 rw [h,fI]
 exact mj rfl r
theorem FI.bY {s u:ay}{t:bf}{E:Nat→Bool}{O X:Nat→Nat}(h:FI s t E O) (ht:s.ck≤u.ck) (hk:Kp X s u) (hX:∀r,bq (di s t) r+gJ s t E r≤X r):
  Tree u t t.d∧(∀k,k<16→getM u t k=getM s t k)∧di u t=di s t∧(∀k,k<16→E k=false→getM u t k=⟨#[]⟩∨(bB (getM u t k)).2=true∧xR u (nodeAt u t k))∧∀r,gJ u t E r=gJ s t E r:=by
 have h1:=xo h.tree ht hk fun r=>by have:=hX r;show bq (di s t) r≤_;omega
 have tR:∀k,k<16→getM u t k=getM s t k:=fun k rS=>by
  unfold getM
  rw [h1.2.2,mO (s:=s)]
  intro hh
  refine hk _ ?_
  have hm:nth ae (aB s t) k∈aB s t:=bT (ek:=ae) (by rw [gj h.tree.rH.trd];exact rS)
  have c1:=ub hm hh
  have c2:bq (di s t) (at' (nth ae (aB s t) k))=bq (bA s t) (at' (nth ae (aB s t) k))+bq (aB s t) (at' (nth ae (aB s t) k)):=GC h.tree.rH (at' (nth ae (aB s t) k))
  have c3:=hX (at' (nth ae (aB s t) k))
  omega
 have EF:∀k,k<16→E k=false→getM s t k≠⟨#[]⟩→xR u (nodeAt s t k)∧dA u (nodeAt s t k)=dA s (nodeAt s t k):=fun k rS hE fB=>by
  have hn:=(h.nodes k rS hE).resolve_left fB
  have h2:=xo hn.2.tree ht hk fun r=>by
   have c1:=IK (f:=fun k=>bif E k then 0 else bq (dA s (nodeAt s t k)) r) (l:=List.range 16) (ZE2.2 rS)
   have c2:=hX r
   have c1:(bif E k then 0 else bq (dA s (nodeAt s t k)) r)≤gJ s t E r:=c1
   rw [hE,cond_false] at c1
   show bq (dA s (nodeAt s t k)) r≤_
   omega
  exact⟨⟨hn.2.ok,h2.1⟩,h2.2.1⟩
 refine⟨h1.1,tR,h1.2.1,fun k rS hE=>?_,fun r=>?_⟩
 ·by_cases fB:getM s t k=⟨#[]⟩
  ·left;rw [tR k rS];exact fB
  ·right
   have hn:=(h.nodes k rS hE).resolve_left fB
   unfold nodeAt
   rw [tR k rS]
   exact⟨hn.1,(EF k rS hE fB).1⟩
 ·unfold gJ
  refine N8 fun k rS=>?_
  have rS:=ZE2.1 rS
  cases hE:E k with
  |true=>rfl
  |false=>
   simp only [cond_false]
   by_cases fB:getM s t k=⟨#[]⟩
   ·rw [jU (by rw [tR k rS];exact fB),jU fB]
   ·show bq (dA u (bB (getM u t k)).1) r=_
    rw [tR k rS]
    show bq (dA u (nodeAt s t k)) r=_
    rw [(EF k rS hE fB).2]
abbrev rX (E:Nat→Bool) (i:Nat):Nat→Bool:=fun k=>decide (k=i)||E k
theorem FI.take {s:ay}{t:bf}{E:Nat→Bool}{O:Nat→Nat}{i:Nat}(h:FI s t E O) (hi:i<16) (hE:E i=false):FI s t (rX E i) (fun r=>O r+bq (dA s (nodeAt s t i)) r):=by
 refine⟨h.tree,fun k hk hk2=>h.nodes k hk ?_,h.acc.mono fun r=>?_⟩
 ·unfold rX at hk2
  simp only [ZD7] at hk2;exact hk2.2
 ·have:=N7 (f:=fun k=>bif rX E i k then 0 else bq (dA s (nodeAt s t k)) r) (g:=fun k=>bif E k then 0 else bq (dA s (nodeAt s t k)) r) (i:=i) (l:=List.range 16) List.nodup_range (ZE2.2 hi) (fun k _ fB=>by
   have:rX E i k=E k:=by unfold rX;rw [decide_eq_false fB];rfl
   simp only [this]) (by
   have:rX E i i=true:=by unfold rX;rw [decide_eq_true rfl];rfl
   simp only [this,cond_true])
  have e:gJ s t E r=gJ s t (rX E i) r+bq (dA s (nodeAt s t i)) r:=by
   have h2:=this
   simp only [hE,cond_false] at h2
   exact h2
  show O r+bq (dA s (nodeAt s t i)) r+bq (di s t) r+gJ s t (rX E i) r≤O r+bq (di s t) r+gJ s t E r
  omega
theorem FI.more {s:ay}{t:bf}{E:Nat→Bool}{O O':Nat→Nat}(h:FI s t E O) (hO:∀r,O' r≤O r):FI s t E O':=
 ⟨h.tree,h.nodes,h.acc.mono fun r=>by have:=hO r;show O' r+_+_≤O r+_+_;omega⟩
theorem FI.other {s u:ay}{t:bf}{E:Nat→Bool}{O O':Nat→Nat}(h:FI s t E O) (ht:u.ck=s.ck) (hk:Kp (fun r=>O' r+bq (di s t) r+gJ s t E r) s u) {Y:Nat→Nat}(ha:Acc u (fun r=>O' r+bq (di s t) r+gJ s t E r+Y r)):FI u t E (fun r=>O' r+Y r):=by
 have hK:=h.bY (Int.le_of_eq ht.symm) hk fun r=>by show _≤O' r+_+_;omega
 refine⟨hK.1,hK.2.2.2.1,ha.mono fun r=>?_⟩
 rw [hK.2.2.1,hK.2.2.2.2 r];omega
theorem GG {s:ay}{t:bf}{d:Nat}(h:Tree s t d):im s d t.root=di s t:=by rw [h.rH.aj0]
theorem FI.akU {s:ay}{t:bf}{E:Nat→Bool}{O:Nat→Nat}{t2:bf}{k:Int}{text:ByteArray}(h:FI s t E (fun r=>O r+bq (di s t2) r)) (h2:Tree s t2 t2.d) (hk0:0≤k) (hk:k≤15) (hz:(aY s t2 k text).2.2=true):
  ∃d,aiN s t2 (fun r=>O r+bq (di s t) r+gJ s t E r) k.toNat text (bP t2 k) (aY s t2 k text).1 (aY s t2 k text).2.1 d∧FI (aY s t2 k text).1 t E (fun r=>O r+bq (di (aY s t2 k text).1 (aY s t2 k text).2.1) r)∧Tree (aY s t2 k text).1 (aY s t2 k text).2.1 (aY s t2 k text).2.1.d:=by
 obtain⟨d,hP⟩:=BX (X:=fun r=>O r+bq (di s t) r+gJ s t E r) (h.acc.mono fun r=>by show O r+bq (di s t) r+gJ s t E r+bq (di s t2) r≤O r+bq (di s t2) r+bq (di s t) r+gJ s t E r;omega) h2 hk0 hk hz
 refine⟨d,hP,?_,hP.tree.at⟩
 have:=h.other (O':=O) (Y:=fun r=>bq (im _ d _) r) hP.same.ck hP.kp hP.acc
 rw [GG hP.tree] at this
 exact this
theorem FI.alL {s:ay}{t:bf}{E:Nat→Bool}{O:Nat→Nat}{t2:bf}{many:Int}(h:FI s t E (fun r=>O r+bq (di s t2) r)) (h2:Tree s t2 t2.d) (h0:0≤many) (h1:many≤16) (hz:(cH s t2 many).2.2=true):
  ∃d,aks s t2 (fun r=>O r+bq (di s t) r+gJ s t E r) many (cH s t2 many).1 (cH s t2 many).2.1 d∧FI (cH s t2 many).1 t E (fun r=>O r+bq (di (cH s t2 many).1 (cH s t2 many).2.1) r)∧Tree (cH s t2 many).1 (cH s t2 many).2.1 (cH s t2 many).2.1.d:=by
 obtain⟨d,hP⟩:=NR (X:=fun r=>O r+bq (di s t) r+gJ s t E r) (h.acc.mono fun r=>by show O r+bq (di s t) r+gJ s t E r+bq (di s t2) r≤O r+bq (di s t2) r+bq (di s t) r+gJ s t E r;omega) h2 h0 h1 hz
 refine⟨d,hP,?_,hP.tree.at⟩
 have:=h.other (O':=O) (Y:=fun r=>bq (im _ d _) r) hP.same.ck hP.kp hP.acc
 rw [GG hP.tree] at this
 exact this
theorem FI.next {s:ay}{t:bf}{E:Nat→Bool}{O:Nat→Nat}(h:FI s t E O) (ht:s.ck<1000000):FI (ik s) t E O∧∀k,k<16→getM (ik s) t k=getM s t k:=by
 obtain⟨ha,hk,htx,_,_⟩:=yG h.acc ht
 have hK:=h.bY (by rw [htx];omega) hk fun r=>by show _≤O r+_+_;omega
 exact⟨⟨hK.1,hK.2.2.2.1,ha.mono fun r=>by rw [hK.2.2.1,hK.2.2.2.2 r];exact ZB6 _⟩,hK.2.1⟩
end GL
namespace GL
theorem xR.kp {s u:ay}{n:fu}{X:Nat→Nat}(h:xR s n) (ht:s.ck≤u.ck) (hk:Kp X s u) (hX:∀r,bq (dA s n) r≤X r):xR u n∧dA u n=dA s n:=by
 have:=xo h.tree ht hk hX
 exact⟨⟨h.ok,this.1⟩,this.2.1⟩
structure aiO (s:ay) (t:bf) (E:Nat→Bool) (O:Nat→Nat) (i:Nat) (text:ByteArray) (u:ay) (t':bf):Prop where
 fi:FI u t' E O
 at_:getM u t' i=text
 other:∀k,k<16→k≠i→getM u t' k=getM s t k
 kp:Kp O s u
 same:dR s u
 many:t'.many=bP t i
theorem FI.ai8 {s:ay}{t:bf}{E:Nat→Bool}{O:Nat→Nat}{i:Nat}{text:ByteArray}(h:FI s t E O) (hi:i<16) (hE:E i=true) (hz:(aY s t i text).2.2=true):aiO s t E O i text (aY s t i text).1 (aY s t i text).2.1:=by
 obtain⟨d,hP⟩:=BX (X:=fun r=>O r+gJ s t E r) (h.acc.mono fun r=>by show O r+gJ s t E r+bq (di s t) r≤O r+bq (di s t) r+gJ s t E r;omega) h.tree (by omega) (by omega) hz
 generalize (aY s t i text).1=u at *
 generalize (aY s t i text).2.1=t' at *
 have htx:s.ck≤u.ck:=by rw [hP.same.ck];exact ZC1 _
 have tR:∀k,k<16→k≠i→getM u t' k=getM s t k:=fun k hk fB=>by
  rw [hP.get k hk,if_neg (by rw [ZA5];exact fB)]
 have EF:∀k,k<16→E k=false→getM s t k≠⟨#[]⟩→xR u (nodeAt s t k)∧dA u (nodeAt s t k)=dA s (nodeAt s t k):=fun k rS hEk fB=>by
  have hn:=(h.nodes k rS hEk).resolve_left fB
  refine hn.2.kp htx hP.kp fun r=>?_
  have c1:=IK (f:=fun k=>bif E k then 0 else bq (dA s (nodeAt s t k)) r) (l:=List.range 16) (ZE2.2 rS)
  have c1:(bif E k then 0 else bq (dA s (nodeAt s t k)) r)≤gJ s t E r:=c1
  rw [hEk,cond_false] at c1
  show bq (dA s (nodeAt s t k)) r≤O r+_
  omega
 refine⟨⟨hP.tree.at,fun k hk hEk=>?_,?_⟩,?_,tR,hP.kp.mono fun r=>ZD3 _ _,hP.same,hP.many⟩
 ·have fB:k≠i:=fun e=>by rw [e,hE] at hEk;cases hEk
  by_cases h0:getM s t k=⟨#[]⟩
  ·left;rw [tR k hk fB];exact h0
  ·right
   have hn:=(h.nodes k hk hEk).resolve_left h0
   unfold nodeAt
   rw [tR k hk fB]
   exact⟨hn.1,(EF k hk hEk h0).1⟩
 ·refine hP.acc.mono fun r=>?_
  have e:gJ u t' E r=gJ s t E r:=by
   unfold gJ
   refine N8 fun k hk=>?_
   have hk:=ZE2.1 hk
   cases hEk:E k with
   |true=>rfl
   |false=>
    have fB:k≠i:=fun e=>by rw [e,hE] at hEk;cases hEk
    simp only [cond_false]
    by_cases h0:getM s t k=⟨#[]⟩
    ·rw [jU (by rw [tR k hk fB];exact h0),jU h0]
    ·show bq (dA u (bB (getM u t' k)).1) r=_
     rw [tR k hk fB]
     show bq (dA u (nodeAt s t k)) r=_
     rw [(EF k hk hEk h0).2]
  rw [e,GG hP.tree]
  show O r+_+_≤O r+_+_;omega
 ·rw [hP.get i hi,if_pos (by rw [ZA5])]
abbrev vX (E:Nat→Bool) (i:Nat):Nat→Bool:=fun k=> !(decide (k=i))&&E k
theorem QX {s:ay}{t:bf}{E:Nat→Bool}{i:Nat}(hi:i<16) (hE:E i=true) (r:Nat):gJ s t (vX E i) r=gJ s t E r+bq (dA s (nodeAt s t i)) r:=by
 have h:=N7 (f:=fun k=>bif E k then 0 else bq (dA s (nodeAt s t k)) r) (g:=fun k=>bif vX E i k then 0 else bq (dA s (nodeAt s t k)) r) (i:=i) (l:=List.range 16) List.nodup_range (ZE2.2 hi) (fun k _ fB=>by
  have:vX E i k=E k:=by unfold vX;rw [decide_eq_false fB];rfl
  simp only [this]) (by simp only [hE,cond_true])
 have hd:vX E i i=false:=by unfold vX;rw [decide_eq_true rfl];rfl
 simp only [hd,cond_false] at h
 exact h
theorem FI.back {s:ay}{t:bf}{E:Nat→Bool}{O:Nat→Nat}{i:Nat}{n:fu}(h:FI s t E (fun r=>O r+bq (dA s n) r)) (hi:i<16) (hE:E i=true) (hg:bB (getM s t i)=(n,true)) (hn:xR s n):FI s t (vX E i) O:=by
 have hna:nodeAt s t i=n:=by show (bB (getM s t i)).1=n;rw [hg]
 refine⟨h.tree,fun k hk hEk=>?_,h.acc.mono fun r=>?_⟩
 ·by_cases e:k=i
  ·subst e;right;rw [hna,hg];exact⟨rfl,hn⟩
  ·refine h.nodes k hk ?_
   have:vX E i k=E k:=by unfold vX;rw [decide_eq_false e];rfl
   rw [←this];exact hEk
 ·rw [QX hi hE,hna]
  show O r+_+_≤O r+_+_+_;omega
theorem FI.ahp {s:ay}{t:bf}{E:Nat→Bool}{O:Nat→Nat}{i:Nat}(h:FI s t E O) (hi:i<16) (hE:E i=true) (hg:getM s t i=⟨#[]⟩):FI s t (vX E i) O:=by
 refine⟨h.tree,fun k hk hEk=>?_,h.acc.mono fun r=>?_⟩
 ·by_cases e:k=i
  ·subst e;left;exact hg
  ·refine h.nodes k hk ?_
   have:vX E i k=E k:=by unfold vX;rw [decide_eq_false e];rfl
   rw [←this];exact hEk
 ·rw [QX hi hE,jU hg]
  show O r+bq (di s t) r+(gJ s t E r+0)≤O r+bq (di s t) r+gJ s t E r;omega
theorem aaG {E:Nat→Bool}{i:Nat}(h:E i=false):vX (rX E i) i=E:=by
 funext k
 unfold vX rX
 by_cases e:k=i
 ·subst e;rw [decide_eq_true rfl,h];rfl
 ·rw [decide_eq_false e];rfl
theorem FI.ZJ {s:ay}{t:bf}{E:Nat→Bool}{O:Nat→Nat}{i:Nat}{n:fu}(h:FI s t E (fun r=>O r+bq (dA s n) r)) (hi:i<16) (hE:E i=true) (hn:cy n=true→xR s n) (hz:(aY s t i (aC n)).2.2=true):
  FI (aY s t i (aC n)).1 (aY s t i (aC n)).2.1 (vX E i) O∧aiO s t E O i (aC n) (aY s t i (aC n)).1 (aY s t i (aC n)).2.1:=by
 have hP:=h.ai8 (text:=aC n) hi hE hz
 have hP0:aiO s t E O i (aC n) (aY s t i (aC n)).1 (aY s t i (aC n)).2.1:=⟨hP.fi.more fun r=>ZD3 _ _,hP.at_,hP.other,hP.kp.mono fun r=>ZD3 _ _,hP.same,hP.many⟩
 refine⟨?_,hP0⟩
 cases ho:cy n with
 |false=>
  have he:aC n=⟨#[]⟩:=by unfold aC;rw [ho];rfl
  exact hP0.fi.ahp hi hE (by rw [hP.at_,he])
 |true=>
  have hk:=(hn ho).kp (u:=(aY s t i (aC n)).1) (by rw [hP.same.ck];exact ZC1 _) hP.kp fun r=>Nat.le_add_left _ _
  refine (hP.fi.more fun r=>?_).back (n:=n) hi hE (by rw [hP.at_];exact tF ho) hk.1
  rw [hk.2];exact ZB6 _
end GL
end Go.Proofs.YtbfgjadbfjkcdaaGreatDoor
