/- A drawn law returns true for every code (its row lists package variables, tied by the card): part 28. -/
import Derived.Test.YtclcgjhhehbdeaaGreatDoorPav
import Derived.Test.YtclcgjhhehbdeaaGreatDoorPaw
import Derived.Test.YtclcgjhhehbdeaaGreatDoorPba
set_option maxHeartbeats 20000000
set_option maxRecDepth 100000
set_option linter.all false
namespace Go.Proofs.YtclcgjhhehbdeaaGreatDoor
namespace GL
structure Tree (s:ay) (t:bf) (d:Nat):Prop where
 rr:oF s t d
 m0:0≤t.many
 m1:t.many≤16
 dm:bj t.many=((d:Nat):Int)
 tail:∀i,t.many.toNat≤i→au (nth ae (aB s t) i)=true
theorem Tree.ok {s:ay}{t:bf}{d:Nat}(h:Tree s t d):t.ok:=⟨h.rr.trd,h.m0,h.m1⟩
theorem Y7 {l m:List Pt}{i:Nat}(h:l.length≤i):nth ae (l++m) i=nth ae m (i-l.length):=by
 unfold nth;rw [ZC6 h]
theorem B9 (n i:Nat):nth ae (cu n) i=bM:=by
 by_cases h:i<(cu n).length
 ·exact (ZD6.1 (bR (ek:=ae) h)).2
 ·exact tn (ek:=ae) (by omega)
theorem MG (a b:Nat):cu a++cu b=cu (a+b):=by
 unfold cu;rw [List.replicate_append_replicate]
theorem abL (n:Nat):(cu n).length=n:=ZG0
theorem Laid.wide {s:ay}{Y:Nat→Nat}{l:List Pt}{many:Int}{u:ay}{t':bf}{d:Nat}(h:Laid s Y l many u t' d):aB u t'=l++cu (16-l.length)∧l.length≤16:=by
 obtain⟨k,hk⟩:=h.lv
 have hw:=mw h.rr
 have hl:=gh (s:=u) h.rr.trd
 rw [hw,hk,ZD2,MG] at hl
 rw [ZA0,abL] at hl
 refine⟨?_,by omega⟩
 rw [hw,hk,ZD2,MG]
 congr 2;omega
theorem Laid.tree {s:ay}{Y:Nat→Nat}{l:List Pt}{many:Int}{u:ay}{t':bf}{d:Nat}(h:Laid s Y l many u t' d) (h0:0≤many) (h1:many≤16) (hl:l.length=many.toNat):Tree u t' d:=by
 refine⟨h.rr,by rw [h.many];exact h0,by rw [h.many];exact h1,by rw [h.many];exact h.dm,fun i hi=>?_⟩
 rw [h.many] at hi
 rw [h.wide.1,Y7 (by omega),B9];rfl
theorem KF {s:ay}:∀{n:Nat}{p q:Pt},rn s n p→q∈xf s n p→rn s 0 q
 |0,p,q,h,hq=>by rw [ZC7.1 (show q∈[p] from hq)];exact h
 |n+1,p,q,h,hq=>by
  obtain⟨x,hx,hxq⟩:=List.mem_flatMap.1 (show q∈(lu s n p).flatMap (xf s n) from hq)
  exact KF (h.2.2 x hx) hxq
theorem uL {s:ay}{t:bf}{d:Nat}(h:oF s t d):∀q∈aB s t,rn s 0 q:=fun q hq=>by
 rw [mw h] at hq
 rcases ZB4.1 hq with hq |hq
 ·exact KF h.snd hq
 ·rw [show q=bM from (ZD6.1 hq).2];exact kq s 0
theorem FW {s:ay}{t:bf}{d:Nat}(h:oF s t d) (r:Nat):bn (ik s d t.root) r=bn (bw s t) r+bn (aB s t) r:=by
 rw [mx,CO h,mw h,bI,fM];omega
theorem PY {s u:ay}{t:bf}{d:Nat}{O:Nat→Nat}(h:oF s t d) (ht:s.cg≤u.cg) (hk:Kp O s u) (hO:∀r,bn (ik s d t.root) r≤O r):oF u t d∧ik u d t.root=ik s d t.root∧aB u t=aB s t∧∀r,bn (bw u t) r=bn (bw s t) r:=by
 have hs:=ug h.snd ht hk hO
 have h':oF u t d:=⟨h.dep,h.le,hs.1⟩
 refine⟨h',hs.2.1,by rw [mw h',mw h,hs.2.2.1],fun r=>?_⟩
 rw [←CO h',←CO h,hs.2.2.2]
theorem xc {s u:ay}{t:bf}{d:Nat}{O:Nat→Nat}(h:Tree s t d) (ht:s.cg≤u.cg) (hk:Kp O s u) (hO:∀r,bn (ik s d t.root) r≤O r):Tree u t d∧ik u d t.root=ik s d t.root∧aB u t=aB s t:=by
 have h':=PY h.rr ht hk hO
 exact⟨⟨h'.1,h.m0,h.m1,h.dm,by rw [h'.2.2.1];exact h.tail⟩,h'.2.1,h'.2.2.1⟩
theorem aam {p:Pt}{r:Nat}:∀{l:List Pt}{k:Nat},k<l.length→bn (l.set k p) r+bn [nth ae l k] r=bn l r+bn [p] r
 |q::l,0,_=>by
  show bn (p::l) r+bn [q] r=_
  rw [dO p l,dO q l];omega
 |q::l,k+1,h=>by
  have ih:=aam (p:=p) (r:=r) (l:=l) (k:=k) (by simp at h;omega)
  show bn (q::l.set k p) r+bn [nth ae l k] r=_
  rw [dO q (l.set k p),dO q l];omega
theorem aeY (l:List Pt) (n r:Nat):bn (l.take n) r≤bn l r:=PN (List.take_sublist n l) r
theorem tA {l:List Pt}{k n:Nat}{p q:Pt}(h:q∈(l.set k p).take n):q=p∨q∈l:=by
 rcases List.mem_or_eq_of_mem_set (ZE6 h) with h |h
 ·exact .inr h
 ·exact .inl h
theorem BO {s:ay}{t:bf}{L:List Pt}{k:Nat}{p old:Pt}{many:Int}{O X:Nat→Nat}{dt:Nat}(ha:Acc s O) (ht:oF s t dt) (CQ:0≤many) (hm:many≤16) (hL:L.length=16) (hold:aZ old=true) (hs:∀q∈(L.set k p).take many.toNat,rn s 0 q)
  (hX:∀r,X r+bn ((L.set k p).take many.toNat) r+bn (bif ptrEq p old then [] else [old]) r+bn (bw s t) r≤O r) (ho:∀r,bn (ik s dt t.root) r≤O r) (hz:(pN s t L k p many old).2.2=true):
  ∃d,Laid s (fun r=>X r+bn ((L.set k p).take many.toNat) r) ((L.set k p).take many.toNat) many (pN s t L k p many old).1 (pN s t L k p many old).2.1 d:=by
 unfold pN at hz ⊢
 cases hl: !(bQ s t (L.set k p) many).2.2 with
 |true=>rw [hl] at hz;cases hz
 |false=>
  have akW:=L2 (L:=L.set k p) (Y:=fun r=>X r+bn ((L.set k p).take many.toNat) r+bn (bif ptrEq p old then [] else [old]) r) ha ht CQ hm (by rw [ZC3];omega) hs hX (fun r=>by show _≤X r+_+_;omega) ho (oD hl)
  obtain⟨d,hd⟩:=akW
  refine⟨d,?_⟩
  simp only [cond_false]
  generalize (bQ s t (L.set k p) many).1=u at *
  generalize (bQ s t (L.set k p) many).2.1=t' at *
  cases he:ptrEq p old with
  |true=>
   rw [he] at hd
   show Laid s _ _ many u t' d
   exact⟨hd.rr,hd.dm,hd.many,hd.lv,hd.acc.mono fun r=>by show X r+_+_≤X r+_+bn [] r+_;rw [rk];omega,hd.kp.mono fun r=>ZD3 _ _,hd.same⟩
  |false=>
   rw [he] at hd
   show Laid s _ _ many (cM u old) t' d
   have hf:=CY (p:=old) (O':=fun r=>X r+bn ((L.set k p).take many.toNat) r+bn (uF u d t'.root) r) hd.acc hold (fun r=>by
    show X r+_+_+_≤X r+_+bn [old] r+_;omega)
   obtain⟨j,hj⟩:=hd.lv
   have hk:=PY hd.rr (Int.le_of_eq hf.2.2.cg.symm) hf.2.1 fun r=>by
    rw [mx,hj,bI,fM]
    show _≤X r+_+_;omega
   have hks:=ug hd.rr.snd (by rw [hf.2.2.cg];exact ZC1 _) hf.2.1 fun r=>by
    rw [mx,hj,bI,fM]
    show _≤X r+_+_;omega
   exact⟨hk.1,hd.dm,hd.many,⟨j,by rw [hks.2.2.1,hj]⟩,by rw [hks.2.2.2];exact hf.1,(hd.kp.mono fun r=>ZD3 _ _).trans (hf.2.1.mono fun r=>ZD3 _ _),hd.same.trans hf.2.2⟩
structure ail (s:ay) (t:bf) (X:Nat→Nat) (k:Nat) (text:ByteArray) (many:Int) (u:ay) (t':bf) (d:Nat):Prop where
 tree:Tree u t' d
 acc:Acc u (fun r=>X r+bn (ik u d t'.root) r)
 kp:Kp X s u
 same:dP s u
 many:t'.many=many
 get:∀j,j<16→getM u t' j=if j=k then text else getM s t j
theorem zw {l:List Pt}{n i:Nat}(h:i<n):nth ae (l.take n) i=nth ae l i:=by
 unfold nth;rw [List.getElem?_take_of_lt h]
theorem yl {l m:List Pt}{i:Nat}(h:i<l.length):nth ae (l++m) i=nth ae l i:=by
 unfold nth;rw [ZC2 h]
theorem Laid.put {s0 s:ay}{t:bf}{X:Nat→Nat}{k:Nat}{p:Pt}{many:Int}{u:ay}{t':bf}{d dt:Nat}{text:ByteArray}(h:Laid s (fun r=>X r+bn (((aB s0 t).set k p).take many.toNat) r) (((aB s0 t).set k p).take many.toNat) many u t' d) (ht:oF s0 t dt) (CQ:0≤many) (hm:many≤16) (hk:k<16) (hkm:(k:Int)<many) (htl:∀i,many.toNat≤i→au (nth ae (aB s0 t) i)=true) (hX:Kp X s0 s) (hS:dP s0 s) (hr:(bF s p).1=text) (hq:∀j,j≠k→au (nth ae (aB s0 t) j)=false→bF s (nth ae (aB s0 t) j)=bF s0 (nth ae (aB s0 t) j)):ail s0 t X k text many u t' d:=by
 have hlen:=gh (s:=s0) ht.trd
 have hl:(((aB s0 t).set k p).take many.toNat).length=many.toNat:=by rw [ZC0,ZC3];omega
 have hT:=h.tree CQ hm hl
 have hw:=h.wide.1
 have xy:∀j,j<many.toNat→nth ae (aB u t') j=nth ae ((aB s0 t).set k p) j:=fun j hj=>by
  rw [hw,yl (by omega),zw hj]
 have uv:∀q∈((aB s0 t).set k p).take many.toNat,bF u q=bF s q:=fun q hq=>mE fun hh=>h.kp _ (by
  have:=tT hq hh
  show 0<X _+_;omega)
 refine⟨hT,?_,hX.trans (h.kp.mono fun r=>ZD3 _ _),hS.trans h.same,h.many,fun j hj=>?_⟩
 ·refine h.acc.mono fun r=>?_
  obtain⟨i,hi⟩:=h.lv
  rw [mx,hi,bI,fM]
  show _≤X r+_+_;omega
 ·unfold getM
  by_cases hjm:j<many.toNat
  ·rw [xy j hjm]
   have yE:nth ae ((aB s0 t).set k p) j∈((aB s0 t).set k p).take many.toNat:=by
    rw [←zw hjm];exact bR (ek:=ae) (by omega)
   rw [uv _ yE]
   by_cases e:j=k
   ·subst e
    rw [if_pos rfl,nq (ek:=ae) (by omega)];exact hr
   ·rw [if_neg e,iv (ek:=ae) (fun h=>e h.symm)]
    cases hh:au (nth ae (aB s0 t) j) with
    |true=>rw [fS hh,fS hh]
    |false=>rw [hq j e hh]
  ·have e:j≠k:=by omega
   rw [if_neg e]
   have h1:au (nth ae (aB u t') j)=true:=hT.tail j (by rw [h.many];omega)
   rw [fS h1,fS (htl j (by omega))]
theorem BN {s:ay}{t:bf}{X:Nat→Nat}{k:Int}{text:ByteArray}{dt:Nat}(ha:Acc s (fun r=>X r+bn (ik s dt t.root) r)) (ht:Tree s t dt) (hk0:0≤k) (hk:k≤15) (hz:(aY s t k text).2.2=true):
  ∃d,ail s t X k.toNat text (bN t k) (aY s t k text).1 (aY s t k text).2.1 d:=by
 have CQ:0≤bN t k:=by unfold bN;have:=ht.m0;omega
 have hm1:bN t k≤16:=by unfold bN;have:=ht.m1;omega
 have hkm:(k.toNat:Int)<bN t k:=by unfold bN;omega
 have htm:t.many.toNat≤(bN t k).toNat:=by unfold bN;omega
 have hlen:=gh (s:=s) ht.rr.trd
 have hold:aZ (dU s t k)=true:=oy (lx ht.rr.trd) _
 have htl:∀i,(bN t k).toNat≤i→au (nth ae (aB s t) i)=true:=fun i hi=>ht.tail i (by omega)
 have cm:∀r,bn (ik s dt t.root) r=bn (bw s t) r+bn (aB s t) r:=FW ht.rr
 have adX:∀(p:Pt) (r:Nat),bn ((aB s t).set k.toNat p) r+bn [dU s t k] r=bn (aB s t) r+bn [p] r:=fun p r=>aam (by omega)
 have htk:=fun (p:Pt) (r:Nat)=>aeY ((aB s t).set k.toNat p) (bN t k).toNat r
 have IT:∀{P:Prop},decide (gT s t k=text)=true→decide (gT s t k≠text)=true→P:=fun h1 h2=>absurd (aJ h1) (aJ h2)
 unfold aY at hz ⊢
 cases h1:decide (gT s t k=text) with
 |true=>
  have ai1:(bF s (dU s t k)).1=text:=aJ h1
  rw [decide_eq_false (p:=gT s t k≠text) (fun h=>h (aJ h1))] at hz ⊢
  cases h2:decide (bN t k=t.many) with
  |true=>
   have h2:=aJ h2
   refine⟨dt,⟨ht,ha,Kp.refl _ _,dP.refl _,h2.symm,fun j hj=>?_⟩⟩
   show getM s t j=_
   by_cases e:j=k.toNat
   ·rw [if_pos e,e];exact ai1
   ·rw [if_neg e]
  |false=>
   rw [h1,h2] at hz
   obtain⟨d,hd⟩:=BO (X:=X) ha ht.rr CQ hm1 hlen hold (fun q hq=>by
    rcases tA hq with rfl |hq
    ·exact uL ht.rr _ (bR (ek:=ae) (by omega))
    ·exact uL ht.rr q hq) (fun r=>by
    have a1:=cm r
    have a2:=adX (dU s t k) r
    have a3:=htk (dU s t k) r
    rw [r7.2 rfl]
    show X r+_+bn [] r+_≤X r+_
    rw [rk];omega) (fun r=>by show _≤X r+_;omega) hz
   exact⟨d,hd.put ht.rr CQ hm1 (by omega) hkm htl (Kp.refl _ _) (dP.refl _) ai1 fun j _ _=>rfl⟩
 |false=>
  rw [decide_eq_true (p:=gT s t k≠text) (aA h1)] at hz ⊢
  rw [h1] at hz
  cases h3:decide (text≠⟨#[]⟩) with
  |false=>
   have ai3:text=⟨#[]⟩:=Classical.byContradiction (aA h3)
   rw [h3] at hz
   obtain⟨d,hd⟩:=BO (X:=X) ha ht.rr CQ hm1 hlen hold (fun q hq=>by
    rcases tA hq with rfl |hq
    ·exact kq s 0
    ·exact uL ht.rr q hq) (fun r=>by
    have a1:=cm r
    have a2:=adX bM r
    have a3:=htk bM r
    rw [l5 (p:=bM) rfl] at a2
    have a4:bn (bif ptrEq bM (dU s t k) then [] else [dU s t k]) r≤bn [dU s t k] r:=by
     cases ptrEq bM (dU s t k) with
     |true=>exact ZA7 _
     |false=>exact ZB5 _
    show X r+_+_+_≤X r+_
    omega) (fun r=>by show _≤X r+_;omega) hz
   exact⟨d,hd.put ht.rr CQ hm1 (by omega) hkm htl (Kp.refl _ _) (dP.refl _) (by rw [fS rfl,ai3]) fun j _ _=>rfl⟩
  |true=>
   rw [h3] at hz
   cases hw: !(bd s text 0).2.2 with
   |true=>rw [hw] at hz;cases hz
   |false=>
    rw [hw] at hz
    obtain⟨akk,wkp,acd,_,_,wfr⟩:=xE ha (oD hw)
    simp only [Bool.false_and,cond_false,cond_true] at hz ⊢
    generalize (bd s text 0).1=s1 at *
    generalize (bd s text 0).2.1=p at *
    have hT:=PY ht.rr (Int.le_of_eq acd.cg.symm) wkp fun r=>Nat.le_add_left _ _
    have hq1:∀q∈aB s t,rn s1 0 q:=by rw [←hT.2.2.1];exact uL hT.1
    obtain⟨d,hd⟩:=BO (X:=X) akk hT.1 CQ hm1 hlen hold (fun q hq=>by
     rcases tA hq with rfl |hq
     ·exact⟨wfr.ok,fun hh=>⟨wfr.lv,by rw [wfr.EE,acd.cg];exact ZC1 _,by rw [wy hh wfr.row wfr.fits]⟩⟩
     ·exact hq1 q hq) (fun r=>by
     have a1:=cm r
     have a2:=adX p r
     have a3:=htk p r
     have a4:bn (bif ptrEq p (dU s t k) then [] else [dU s t k]) r≤bn [dU s t k] r:=by
      cases ptrEq p (dU s t k) with
      |true=>exact ZA7 _
      |false=>exact ZB5 _
     rw [hT.2.2.2 r]
     show X r+_+_+_≤X r+_+_
     omega) (fun r=>by rw [hT.2.1];show _≤X r+_+_;omega) hz
    refine⟨d,hd.put ht.rr CQ hm1 (by omega) hkm htl (wkp.mono fun r=>ZD3 _ _) acd (by rw [wy wfr.nh wfr.row wfr.fits]) fun j _ hh=>?_⟩
    refine mE fun _=>wkp _ ?_
    have hj:j<(aB s t).length:=by
     rw [hlen]
     refine Classical.byContradiction fun FF=>?_
     rw [show nth ae (aB s t) j=bM from tn (ek:=ae) (by omega)] at hh
     cases hh
    have c1:=tT (bR (ek:=ae) hj) hh
    have c2:=cm (at' (nth ae (aB s t) j))
    have c3:bn (aB s t) (at' (nth ae (aB s t) j))≤X (at' (nth ae (aB s t) j))+bn (ik s dt t.root) (at' (nth ae (aB s t) j)):=by omega
    exact ZG1 c1 c3
end GL
namespace GL
theorem vC:∀(l:List Pt) (s:ay),dw l s=l.foldl cM s
 |[],_=>rfl
 |p::l,s=>vC l (cM s p)
structure aj1 (s:ay) (t:bf) (X:Nat→Nat) (mn:Int) (u:ay) (t':bf) (d:Nat):Prop where
 tree:Tree u t' d
 acc:Acc u (fun r=>X r+bn (ik u d t'.root) r)
 kp:Kp X s u
 same:dP s u
 many:t'.many=mn
 get:∀j,j<16→getM u t' j=if (j:Int)<mn then getM s t j else ⟨#[]⟩
theorem mS {s:ay}{t:bf}{d:Nat}(h:Tree s t d) {j:Nat}(hj:t.many≤(j:Int)):getM s t j=⟨#[]⟩:=by
 unfold getM
 rw [fS (h.tail j (by have:=h.m0;omega))]
theorem M9 {s:ay}{t:bf}{X:Nat→Nat}{many:Int}{dt:Nat}(ha:Acc s (fun r=>X r+bn (ik s dt t.root) r)) (ht:Tree s t dt) (h0:0≤many) (h1:many≤16) (hz:(cF s t many).2.2=true):
  ∃d,aj1 s t X many (cF s t many).1 (cF s t many).2.1 d:=by
 cases h2:decide (many=t.many) with
 |true=>
  rw [aeS h2]
  have h2:=aJ h2
  refine⟨dt,⟨ht,ha,Kp.refl _ _,dP.refl _,h2.symm,fun j hj=>?_⟩⟩
  show getM s t j=_
  by_cases e:(j:Int)<many
  ·rw [if_pos e]
  ·rw [if_neg e];exact mS ht (by omega)
 |false=>
  cases h3: !(bQ s t (aB s t) many).2.2 with
  |true=>rw [aeR h2 h3] at hz;cases hz
  |false=>
   rw [aeQ h2 h3]
   have hlen:=gh (s:=s) ht.rr.trd
   have cm:=FW ht.rr
   have hsp:∀r,bn (aB s t) r=bn ((aB s t).take many.toNat) r+bn ((aB s t).drop many.toNat) r:=fun r=>by
    rw [←bI,List.take_append_drop]
   obtain⟨d,hd⟩:=L2 (L:=aB s t) (Y:=fun r=>X r+bn ((aB s t).take many.toNat) r+bn ((aB s t).drop many.toNat) r) ha ht.rr h0 h1 (by omega) (fun q hq=>uL ht.rr q (ZE6 hq)) (fun r=>by
    have a1:=cm r
    have a2:=hsp r
    show X r+_+_+_≤X r+_;omega) (fun r=>by show _≤X r+_+_;omega) (fun r=>Nat.le_add_left _ _) (oD h3)
   simp only
   generalize (bQ s t (aB s t) many).1=u at *
   generalize (bQ s t (aB s t) many).2.1=t' at *
   rw [vC]
   have hl:((aB s t).take many.toNat).length=many.toNat:=by rw [ZC0];omega
   have hf:=yH (l:=(aB s t).drop many.toNat) (O':=fun r=>X r+bn ((aB s t).take many.toNat) r+bn (uF u d t'.root) r) hd.acc (fun p hp=>lx ht.rr.trd p (ZF2 hp)) (fun r=>by
    show X r+_+_+_≤X r+_+_+_;omega)
   obtain⟨k,hk⟩:=hd.lv
   have hT:=hd.tree h0 h1 hl
   have uD:∀r,bn (ik u d t'.root) r=bn (uF u d t'.root) r+bn ((aB s t).take many.toNat) r:=fun r=>by
    rw [mx,hk,bI,fM];omega
   have uv:=xc hT (Int.le_of_eq hf.2.2.cg.symm) hf.2.1 fun r=>by rw [uD];show _≤X r+_+_;omega
   refine⟨d,⟨uv.1,?_,(hd.kp.mono fun r=>by show X r≤X r+_+_;omega).trans (hf.2.1.mono fun r=>by show X r≤X r+_+_;omega),hd.same.trans hf.2.2,hd.many,fun j hj=>?_⟩⟩
   ·refine hf.1.mono fun r=>?_
    rw [uv.2.1,uD]
    show X r+_≤X r+_+_;omega
   ·by_cases e:(j:Int)<many
    ·rw [if_pos e]
     unfold getM
     rw [uv.2.2,hd.wide.1,yl (by omega),zw (by omega)]
     rw [mE (s:=s)]
     intro hh
     have yF:j<(aB s t).length:=by omega
     have yE:nth ae (aB s t) j∈(aB s t).take many.toNat:=by
      have h5:nth ae ((aB s t).take many.toNat) j=nth ae (aB s t) j:=zw (by omega)
      rw [←h5];exact bR (ek:=ae) (by omega)
     have hc:=tT yE hh
     have k1:=hd.kp (at' (nth ae (aB s t) j)) (show 0<X (at' (nth ae (aB s t) j))+bn ((aB s t).take many.toNat) (at' (nth ae (aB s t) j))+bn ((aB s t).drop many.toNat) (at' (nth ae (aB s t) j)) by omega)
     have k2:=hf.2.1 (at' (nth ae (aB s t) j)) (show 0<X (at' (nth ae (aB s t) j))+bn ((aB s t).take many.toNat) (at' (nth ae (aB s t) j))+bn (uF u d t'.root) (at' (nth ae (aB s t) j)) by omega)
     exact k2.trans k1
    ·rw [if_neg e]
     exact mS uv.1 (by rw [hd.many];omega)
theorem XQ {s:ay}{a:Nat}(oJ:s.wf) (ha:a<64) (h1:1≤qE s a) (hup:qE s a≤1000000):(gd s a).wf∧(∀r,qE (gd s a) r=if a=r then qE s r-1 else qE s r)∧(∀r,qE (gd s a) r≠0∨a≠r→nth ab (gd s a).rows r=nth ab s.rows r):=by
 have hlen:a<s.refs.length:=by rw [oJ.n.2.1];exact ha
 have hw:xo (qE s a-1)=qE s a-1:=FR (by omega) (by omega)
 have hrf:(gd s a).refs=s.refs.set a (qE s a-1):=by
  show s.refs.set a (xo (qE s a-1))=_
  rw [hw]
 have vA:∀r,qE (gd s a) r=if a=r then qE s r-1 else qE s r:=fun r=>by
  show nth ag (gd s a).refs r=_
  rw [hrf]
  by_cases e:a=r
  ·subst e;rw [nq (ek:=ag) hlen,if_pos rfl]
  ·rw [iv (ek:=ag) e,if_neg e];rfl
 have hl:=wZ s a
 refine⟨⟨⟨hl.1.trans oJ.n.1,hl.2.1.trans oJ.n.2.1,hl.2.2.trans oJ.n.2.2⟩,?_⟩,vA,fun r hr=>?_⟩
 ·show∀x∈(bif uy s a then s.rows.set a ByteArray.empty else s.rows),_
  cases uy s a with
  |true=>exact UU oJ.sz (ZA7 _)
  |false=>exact oJ.sz
 ·show nth ab (bif uy s a then s.rows.set a ByteArray.empty else s.rows) r=_
  cases hb:uy s a with
  |false=>rfl
  |true=>
   have hz:qE (gd s a) a=0:=aJ hb
   have e:a≠r:=fun e=>by
    rcases hr with hr |hr
    ·rw [←e] at hr;exact hr hz
    ·exact hr e
   exact iv (ek:=ab) e
theorem LP {O:Nat→Nat}:∀{l:List Pt}{s:ay},s.wf→(∀r,qE s r≤1000000)→(∀p∈l,aZ p=true∧au p=false)→(∀r,((bn l r+bn s.dead r+O r:Nat):Int)≤qE s r)→
  (j5 l s).wf∧(∀r,qE (j5 l s) r≤1000000)∧(∀r,((bn s.dead r+O r:Nat):Int)≤qE (j5 l s) r)∧Kp O s (j5 l s)∧(j5 l s).dead=s.dead∧(j5 l s).gone=s.gone∧dP s (j5 l s)
 |[],s,oJ,hup,_,hsl=>⟨oJ,hup,fun r=>by have:=hsl r;rw [rk] at this;show ((bn s.dead r+O r:Nat):Int)≤qE s r;omega,Kp.refl _ _,rfl,rfl,dP.refl _⟩
 |p::l,s,oJ,hup,cG,hsl=>by
  have hp:=cG p (by simp)
  have xy:=sk hp.1
  have h1:=hsl (at' p)
  rw [dO,rI hp.2] at h1
  obtain⟨d1,d2,d3⟩:=XQ oJ xy (by omega) (hup _)
  have ai7:∀r,((bn l r+bn (gd s (at' p)).dead r+O r:Nat):Int)≤qE (gd s (at' p)) r:=fun r=>by
   show ((bn l r+bn s.dead r+O r:Nat):Int)≤_
   have:=hsl r
   rw [dO] at this
   rw [d2]
   by_cases e:at' p=r
   ·subst e;rw [rI hp.2] at this;rw [if_pos rfl];omega
   ·rw [if_neg e];rw [yP e] at this;omega
  obtain⟨e1,e2,e3,e4,e5,e6,e7⟩:=LP (l:=l) (s:=gd s (at' p)) d1 (fun r=>by
   rw [d2];have:=hup r;by_cases e:at' p=r
   ·rw [if_pos e];omega
   ·rw [if_neg e];exact this) (fun q hq=>cG q (by simp [hq])) ai7
  refine⟨e1,e2,e3,?_,e5,e6,⟨e7.cg,e7.bZ,e7.same⟩⟩
  refine Kp.trans (fun r hr=>d3 r ?_) e4
  have:=ai7 r
  left;omega
theorem yq {s:ay}{O:Nat→Nat}(h:Acc s O) (ht:s.cg<1000000):Acc (ie s) O∧Kp O s (ie s)∧(ie s).cg=s.cg+1∧(ie s).bZ=s.bZ∧(ie s).same=s.same:=by
 obtain⟨e1,e2,e3,e4,e5,e6,e7⟩:=LP (O:=O) h.wf h.up (fun p hp=>h.ok p (by simp [hp])) h.sl
 refine⟨⟨⟨e1.n,e1.sz⟩,e2,?_,fun r=>?_,fun p hp=>?_⟩,e4,?_,e7.bZ,e7.same⟩
 ·show 1≤(j5 s.gone s).cg+1∧(j5 s.gone s).cg+1≤1000000
  rw [e7.cg];have:=h.cg;omega
 ·show ((bn [] r+bn (j5 s.gone s).dead r+O r:Nat):Int)≤_
  rw [e5,rk];have:=e3 r
  show _≤qE (j5 s.gone s) r
  omega
 ·have hp:p∈[]++(j5 s.gone s).dead:=hp
  rw [e5] at hp
  exact h.ok p (by simp at hp;simp [hp])
 ·show (j5 s.gone s).cg+1=_
  rw [e7.cg]
abbrev nhB (p:Pt):Bool:= !(au p)
theorem ui (s:ay):∀(n:Nat),(ik s n bM).filter nhB=[]
 |0=>rfl
 |n+1=>by
  show (bM::(lu s n bM).flatMap (ik s n)).filter nhB=[]
  rw [oi rfl]
  have h:=ui s n
  simp only [cu,List.replicate,ZD5,List.flatMap_nil,List.filter_append,h,List.filter_cons_of_neg (show¬nhB bM=true by decide),ZE5,List.filter_nil]
def aaM:Nat→Nat
 |0=>1
 |n+1=>1+4*aaM n
theorem NI {s:ay}{n:Nat}(one:∀{p:Pt},rn s n p→∃k,k≤aaM n∧∀(f:Nat) (rest out:List Pt),j4 (f+k) s (p::rest) out=j4 f s rest (out++(ik s n p).filter nhB)):∀{l:List Pt},(∀q∈l,rn s n q)→∃k,k≤l.length*aaM n∧∀(f:Nat) (rest out:List Pt),j4 (f+k) s (l++rest) out=j4 f s rest (out++(l.flatMap (ik s n)).filter nhB)
 |[],_=>⟨0,ZA7 _,fun f rest out=>by simp⟩
 |q::l,h=>by
  obtain⟨k1,h1,e1⟩:=one (h q (by simp))
  obtain⟨k2,h2,e2⟩:=NI one (l:=l) fun x hx=>h x (by simp [hx])
  refine⟨k2+k1,by rw [ZA1,Nat.succ_mul];omega,fun f rest out=>?_⟩
  rw [←ZF7,ZG4,e1,e2,ZD5,List.filter_append,ZD2]
theorem UH {s:ay}:∀{n:Nat}{p:Pt},rn s n p→∃k,k≤aaM n∧∀(f:Nat) (rest out:List Pt),j4 (f+k) s (p::rest) out=j4 f s rest (out++(ik s n p).filter nhB)
 |0,p,h=>by
  refine⟨1,ZB5 _,fun f rest out=>?_⟩
  cases hh:au p with
  |true=>
   rw [j4,hh,show (ik s 0 p).filter nhB=[] by show [p].filter nhB=[];simp [nhB,hh]]
   simp
  |false=>
   have h0:=(h.2 hh).1
   rw [j4,hh,decide_eq_false (p:=p.2.2.2.2>0) (by omega),show (ik s 0 p).filter nhB=[p] by show [p].filter nhB=[p];simp [nhB,hh]]
   rfl
 |n+1,p,h=>by
  cases hh:au p with
  |true=>
   refine⟨1,by show 1≤1+_;omega,fun f rest out=>?_⟩
   rw [j4,hh,iq hh,ui,ZE5];rfl
  |false=>
   have hb:=oh hh (h.2.1 hh)
   have FE:p.2.2.2.2=(((n+1):Nat):Int):=hb.2.1
   obtain⟨k,hk,e⟩:=NI (s:=s) (n:=n) (fun h=>UH h) (l:=lu s n p) h.2.2
   have h4:=FO h
   refine⟨k+1,by rw [h4] at hk;show _≤1+4*aaM n;omega,fun f rest out=>?_⟩
   rw [←ZF7,j4,hh,FE,decide_eq_true (p:=(((n+1):Nat):Int)>0) (by omega)]
   show j4 (f+k) s (lu s n p++rest) (out++[p])=_
   rw [e]
   show j4 f s rest (out++[p]++_)=j4 f s rest (out++(p::(lu s n p).flatMap (ik s n)).filter nhB)
   rw [List.filter_cons_of_pos (by simp [nhB,hh]),ZD2];rfl
theorem UG {s:ay}{t:bf}{d:Nat}(h:oF s t d):M6 s t=true∧allM s t=(ik s d t.root).filter nhB:=by
 obtain⟨k,hk,e⟩:=UH h.snd
 have hp:aaM d≤21:=by
  have:=h.le
  match d,this with
  |0,_=>decide
  |1,_=>decide
  |2,_=>decide
 obtain⟨g,hg⟩:∃g,40=g+1+k:=⟨39-k,by omega⟩
 have he:j4 40 s [t.root] []=some ((ik s d t.root).filter nhB):=by
  rw [hg,e (g+1) [] []];rfl
 unfold M6 allM
 rw [he];exact⟨rfl,rfl⟩
theorem L0 {s:ay}{many:Int}:∀{l:List Pt}{i:Int},(∀j,j<l.length→au (nth ae l j)=false→rn s 0 (nth ae l j)∧i+j<many)→j6 s many i l=true
 |[],i,_=>rfl
 |p::l,i,h=>by
  have lY:j6 s many (i+1) l=true:=L0 fun j hj hh=>by
   have:=h (j+1) (by simp;omega) hh
   exact⟨this.1,by have:=this.2;omega⟩
  cases hh:au p with
  |true=>rw [E8 hh];exact lY
  |false=>
   obtain⟨h1,h2⟩:=h 0 (by simp) hh
   have h3:=h1.2 hh
   have h2:i+((0:Nat):Int)<many:=h2
   rw [OU hh (OV (by rw [show (bF s p).2=true from h3.2.2];rfl) (decide_eq_false (fun fy=>fy h3.1)) (decide_eq_false (by have:p.2.1≤s.cg:=h3.2.1;omega)) (decide_eq_false (by omega)))]
   exact lY
theorem Tree.qF {s:ay}{t:bf}{d:Nat}(h:Tree s t d):qF s t=true:=by
 have ⟨h1,h2⟩:=DW h.rr
 have hw:=mw h.rr
 rw [Y2 (zu (by rw [cC.2 ⟨h.m0,h.m1⟩];rfl) (decide_eq_false (by rw [h.dm,h.rr.dep];simp)) (by rw [h.rr.snd.pok];rfl)) (by rw [h1];rfl),h1]
 refine L0 fun j hj hh=>⟨KF h.rr.snd (bR (ek:=ae) hj),?_⟩
 refine Classical.byContradiction fun FF=>?_
 have:=h.tail j (by have:=h.m0;omega)
 rw [hw,yl hj] at this
 rw [hh] at this
 cases this
end GL
namespace GL
abbrev cT (n:ft):bf:=(n.2.2.2.1,n.2.2.2.2.1,n.2.2.2.2.2.1,n.2.2.2.2.2.2.1,n.2.2.2.2.2.2.2.1,n.2.2.2.2.2.2.2.2.1,n.2.2.2.2.2.2.2.2.2)
abbrev bf.d (t:bf):Nat:=t.depth.toNat
theorem oF.ajz {s:ay}{t:bf}{d:Nat}(h:oF s t d):d=t.d:=by have:=h.dep;show d=t.depth.toNat;omega
theorem Tree.at {s:ay}{t:bf}{d:Nat}(h:Tree s t d):Tree s t t.d:=by rw [←h.rr.ajz];exact h
structure xD (s:ay) (n:ft):Prop where
 ok:cy n=true
 tree:Tree s (cT n) (cT n).d
abbrev di (s:ay) (t:bf):List Pt:=ik s t.d t.root
abbrev dy (s:ay) (n:ft):List Pt:=di s (cT n)
abbrev nodeAt (s:ay) (t:bf) (k:Nat):ft:=(bz (getM s t k)).1
def gF (s:ay) (t:bf) (E:Nat→Bool) (r:Nat):Nat:=((List.range 16).map fun k=>bif E k then 0 else bn (dy s (nodeAt s t k)) r).sum
theorem UQ {f g:Nat→Nat}:∀{l:List Nat},(∀k∈l,f k≤g k)→(l.map f).sum≤(l.map g).sum
 |[],_=>ZB5 _
 |k::l,h=>by
  simp only [ZE7,List.sum_cons]
  have h1:=h k (by simp)
  have h2:=UQ (f:=f) (g:=g) (l:=l) fun x hx=>h x (by simp [hx])
  omega
theorem NR {f g:Nat→Nat}{l:List Nat}(h:∀k∈l,f k=g k):(l.map f).sum=(l.map g).sum:=by
 have h1:=UQ (f:=f) (g:=g) (l:=l) fun k hk=>ZA8 (h k hk)
 have h2:=UQ (f:=g) (g:=f) (l:=l) fun k hk=>ZA8 (h k hk).symm
 omega
theorem H4 {f:Nat→Nat}{k:Nat}:∀{l:List Nat},k∈l→f k≤(l.map f).sum
 |x::l,h=>by
  simp only [ZE7,List.sum_cons]
  rcases ZB8.1 h with rfl |h
  ·omega
  ·have:=H4 (f:=f) h;omega
theorem NQ {f g:Nat→Nat}{i:Nat}:∀{l:List Nat},l.Nodup→i∈l→(∀k∈l,k≠i→f k=g k)→f i=0→(l.map g).sum=(l.map f).sum+g i
 |x::l,hn,hi,h,h0=>by
  simp only [ZE7,List.sum_cons]
  have hn':=List.nodup_cons.1 hn
  by_cases e:x=i
  ·subst e
   have:(l.map f).sum=(l.map g).sum:=NR fun k hk=>h k (by simp [hk]) (fun e=>hn'.1 (e ▸ hk))
   omega
  ·have CS:i∈l:=by
    rcases ZB8.1 hi with e' |h
    ·exact absurd e'.symm e
    ·exact h
   have:=NQ (f:=f) (g:=g) hn'.2 CS (fun k hk fy=>h k (by simp [hk]) fy) h0
   have:=h x (by simp) e
   omega
structure FI (s:ay) (t:bf) (E:Nat→Bool) (O:Nat→Nat):Prop where
 tree:Tree s t t.d
 nodes:∀k,k<16→E k=false→getM s t k=⟨#[]⟩∨(bz (getM s t k)).2=true∧xD s (nodeAt s t k)
 acc:Acc s (fun r=>O r+bn (di s t) r+gF s t E r)
theorem fG:bz ⟨#[]⟩=(nu,false):=by
 have h:bq ⟨#[]⟩=([],true):=by
  unfold bq
  rw [show I5 ((⟨#[]⟩:ByteArray).size+1) ⟨#[]⟩ 0 []=some [] by rw [aes (by decide)]]
  rfl
 rw [tv (by rw [h];decide)]
theorem jQ {s:ay}{t:bf}{k:Nat}(h:getM s t k=⟨#[]⟩) (r:Nat):bn (dy s (nodeAt s t k)) r=0:=by
 show bn (dy s (bz (getM s t k)).1) r=0
 rw [h,fG]
 exact l5 rfl r
theorem FI.bZ {s u:ay}{t:bf}{E:Nat→Bool}{O X:Nat→Nat}(h:FI s t E O) (ht:s.cg≤u.cg) (hk:Kp X s u) (hX:∀r,bn (di s t) r+gF s t E r≤X r):
  Tree u t t.d∧(∀k,k<16→getM u t k=getM s t k)∧di u t=di s t∧(∀k,k<16→E k=false→getM u t k=⟨#[]⟩∨(bz (getM u t k)).2=true∧xD u (nodeAt u t k))∧∀r,gF u t E r=gF s t E r:=by
 have h1:=xc h.tree ht hk fun r=>by have:=hX r;show bn (di s t) r≤_;omega
 have tJ:∀k,k<16→getM u t k=getM s t k:=fun k rG=>by
  unfold getM
  rw [h1.2.2,mE (s:=s)]
  intro hh
  refine hk _ ?_
  have hm:nth ae (aB s t) k∈aB s t:=bR (ek:=ae) (by rw [gh h.tree.rr.trd];exact rG)
  have c1:=tT hm hh
  have c2:bn (di s t) (at' (nth ae (aB s t) k))=bn (bw s t) (at' (nth ae (aB s t) k))+bn (aB s t) (at' (nth ae (aB s t) k)):=FW h.tree.rr (at' (nth ae (aB s t) k))
  have c3:=hX (at' (nth ae (aB s t) k))
  omega
 have D1:∀k,k<16→E k=false→getM s t k≠⟨#[]⟩→xD u (nodeAt s t k)∧dy u (nodeAt s t k)=dy s (nodeAt s t k):=fun k rG hE fy=>by
  have hn:=(h.nodes k rG hE).resolve_left fy
  have h2:=xc hn.2.tree ht hk fun r=>by
   have c1:=H4 (f:=fun k=>bif E k then 0 else bn (dy s (nodeAt s t k)) r) (l:=List.range 16) (ZE2.2 rG)
   have c2:=hX r
   have c1:(bif E k then 0 else bn (dy s (nodeAt s t k)) r)≤gF s t E r:=c1
   rw [hE,cond_false] at c1
   show bn (dy s (nodeAt s t k)) r≤_
   omega
  exact⟨⟨hn.2.ok,h2.1⟩,h2.2.1⟩
 refine⟨h1.1,tJ,h1.2.1,fun k rG hE=>?_,fun r=>?_⟩
 ·by_cases fy:getM s t k=⟨#[]⟩
  ·left;rw [tJ k rG];exact fy
  ·right
   have hn:=(h.nodes k rG hE).resolve_left fy
   unfold nodeAt
   rw [tJ k rG]
   exact⟨hn.1,(D1 k rG hE fy).1⟩
 ·unfold gF
  refine NR fun k rG=>?_
  have rG:=ZE2.1 rG
  cases hE:E k with
  |true=>rfl
  |false=>
   simp only [cond_false]
   by_cases fy:getM s t k=⟨#[]⟩
   ·rw [jQ (by rw [tJ k rG];exact fy),jQ fy]
   ·show bn (dy u (bz (getM u t k)).1) r=_
    rw [tJ k rG]
    show bn (dy u (nodeAt s t k)) r=_
    rw [(D1 k rG hE fy).2]
abbrev rM (E:Nat→Bool) (i:Nat):Nat→Bool:=fun k=>decide (k=i)||E k
theorem FI.take {s:ay}{t:bf}{E:Nat→Bool}{O:Nat→Nat}{i:Nat}(h:FI s t E O) (hi:i<16) (hE:E i=false):FI s t (rM E i) (fun r=>O r+bn (dy s (nodeAt s t i)) r):=by
 refine⟨h.tree,fun k hk hk2=>h.nodes k hk ?_,h.acc.mono fun r=>?_⟩
 ·unfold rM at hk2
  simp only [ZE1] at hk2;exact hk2.2
 ·have:=NQ (f:=fun k=>bif rM E i k then 0 else bn (dy s (nodeAt s t k)) r) (g:=fun k=>bif E k then 0 else bn (dy s (nodeAt s t k)) r) (i:=i) (l:=List.range 16) List.nodup_range (ZE2.2 hi) (fun k _ fy=>by
   have:rM E i k=E k:=by unfold rM;rw [decide_eq_false fy];rfl
   simp only [this]) (by
   have:rM E i i=true:=by unfold rM;rw [decide_eq_true rfl];rfl
   simp only [this,cond_true])
  have e:gF s t E r=gF s t (rM E i) r+bn (dy s (nodeAt s t i)) r:=by
   have h2:=this
   simp only [hE,cond_false] at h2
   exact h2
  show O r+bn (dy s (nodeAt s t i)) r+bn (di s t) r+gF s t (rM E i) r≤O r+bn (di s t) r+gF s t E r
  omega
theorem FI.more {s:ay}{t:bf}{E:Nat→Bool}{O O':Nat→Nat}(h:FI s t E O) (hO:∀r,O' r≤O r):FI s t E O':=
 ⟨h.tree,h.nodes,h.acc.mono fun r=>by have:=hO r;show O' r+_+_≤O r+_+_;omega⟩
theorem FI.other {s u:ay}{t:bf}{E:Nat→Bool}{O O':Nat→Nat}(h:FI s t E O) (ht:u.cg=s.cg) (hk:Kp (fun r=>O' r+bn (di s t) r+gF s t E r) s u) {Y:Nat→Nat}(ha:Acc u (fun r=>O' r+bn (di s t) r+gF s t E r+Y r)):FI u t E (fun r=>O' r+Y r):=by
 have hK:=h.bZ (Int.le_of_eq ht.symm) hk fun r=>by show _≤O' r+_+_;omega
 refine⟨hK.1,hK.2.2.2.1,ha.mono fun r=>?_⟩
 rw [hK.2.2.1,hK.2.2.2.2 r];omega
theorem FZ {s:ay}{t:bf}{d:Nat}(h:Tree s t d):ik s d t.root=di s t:=by rw [h.rr.ajz]
theorem FI.aku {s:ay}{t:bf}{E:Nat→Bool}{O:Nat→Nat}{t2:bf}{k:Int}{text:ByteArray}(h:FI s t E (fun r=>O r+bn (di s t2) r)) (h2:Tree s t2 t2.d) (hk0:0≤k) (hk:k≤15) (hz:(aY s t2 k text).2.2=true):
  ∃d,ail s t2 (fun r=>O r+bn (di s t) r+gF s t E r) k.toNat text (bN t2 k) (aY s t2 k text).1 (aY s t2 k text).2.1 d∧FI (aY s t2 k text).1 t E (fun r=>O r+bn (di (aY s t2 k text).1 (aY s t2 k text).2.1) r)∧Tree (aY s t2 k text).1 (aY s t2 k text).2.1 (aY s t2 k text).2.1.d:=by
 obtain⟨d,hP⟩:=BN (X:=fun r=>O r+bn (di s t) r+gF s t E r) (h.acc.mono fun r=>by show O r+bn (di s t) r+gF s t E r+bn (di s t2) r≤O r+bn (di s t2) r+bn (di s t) r+gF s t E r;omega) h2 hk0 hk hz
 refine⟨d,hP,?_,hP.tree.at⟩
 have:=h.other (O':=O) (Y:=fun r=>bn (ik _ d _) r) hP.same.cg hP.kp hP.acc
 rw [FZ hP.tree] at this
 exact this
theorem FI.ali {s:ay}{t:bf}{E:Nat→Bool}{O:Nat→Nat}{t2:bf}{many:Int}(h:FI s t E (fun r=>O r+bn (di s t2) r)) (h2:Tree s t2 t2.d) (h0:0≤many) (h1:many≤16) (hz:(cF s t2 many).2.2=true):
  ∃d,aj1 s t2 (fun r=>O r+bn (di s t) r+gF s t E r) many (cF s t2 many).1 (cF s t2 many).2.1 d∧FI (cF s t2 many).1 t E (fun r=>O r+bn (di (cF s t2 many).1 (cF s t2 many).2.1) r)∧Tree (cF s t2 many).1 (cF s t2 many).2.1 (cF s t2 many).2.1.d:=by
 obtain⟨d,hP⟩:=M9 (X:=fun r=>O r+bn (di s t) r+gF s t E r) (h.acc.mono fun r=>by show O r+bn (di s t) r+gF s t E r+bn (di s t2) r≤O r+bn (di s t2) r+bn (di s t) r+gF s t E r;omega) h2 h0 h1 hz
 refine⟨d,hP,?_,hP.tree.at⟩
 have:=h.other (O':=O) (Y:=fun r=>bn (ik _ d _) r) hP.same.cg hP.kp hP.acc
 rw [FZ hP.tree] at this
 exact this
theorem FI.next {s:ay}{t:bf}{E:Nat→Bool}{O:Nat→Nat}(h:FI s t E O) (ht:s.cg<1000000):FI (ie s) t E O∧∀k,k<16→getM (ie s) t k=getM s t k:=by
 obtain⟨ha,hk,htx,_,_⟩:=yq h.acc ht
 have hK:=h.bZ (by rw [htx];omega) hk fun r=>by show _≤O r+_+_;omega
 exact⟨⟨hK.1,hK.2.2.2.1,ha.mono fun r=>by rw [hK.2.2.1,hK.2.2.2.2 r];exact ZB5 _⟩,hK.2.1⟩
end GL
namespace GL
theorem xD.kp {s u:ay}{n:ft}{X:Nat→Nat}(h:xD s n) (ht:s.cg≤u.cg) (hk:Kp X s u) (hX:∀r,bn (dy s n) r≤X r):xD u n∧dy u n=dy s n:=by
 have:=xc h.tree ht hk hX
 exact⟨⟨h.ok,this.1⟩,this.2.1⟩
structure aim (s:ay) (t:bf) (E:Nat→Bool) (O:Nat→Nat) (i:Nat) (text:ByteArray) (u:ay) (t':bf):Prop where
 fi:FI u t' E O
 at_:getM u t' i=text
 other:∀k,k<16→k≠i→getM u t' k=getM s t k
 kp:Kp O s u
 same:dP s u
 many:t'.many=bN t i
theorem FI.aiI {s:ay}{t:bf}{E:Nat→Bool}{O:Nat→Nat}{i:Nat}{text:ByteArray}(h:FI s t E O) (hi:i<16) (hE:E i=true) (hz:(aY s t i text).2.2=true):aim s t E O i text (aY s t i text).1 (aY s t i text).2.1:=by
 obtain⟨d,hP⟩:=BN (X:=fun r=>O r+gF s t E r) (h.acc.mono fun r=>by show O r+gF s t E r+bn (di s t) r≤O r+bn (di s t) r+gF s t E r;omega) h.tree (by omega) (by omega) hz
 generalize (aY s t i text).1=u at *
 generalize (aY s t i text).2.1=t' at *
 have htx:s.cg≤u.cg:=by rw [hP.same.cg];exact ZC1 _
 have tJ:∀k,k<16→k≠i→getM u t' k=getM s t k:=fun k hk fy=>by
  rw [hP.get k hk,if_neg (by rw [ZA5];exact fy)]
 have D1:∀k,k<16→E k=false→getM s t k≠⟨#[]⟩→xD u (nodeAt s t k)∧dy u (nodeAt s t k)=dy s (nodeAt s t k):=fun k rG hEk fy=>by
  have hn:=(h.nodes k rG hEk).resolve_left fy
  refine hn.2.kp htx hP.kp fun r=>?_
  have c1:=H4 (f:=fun k=>bif E k then 0 else bn (dy s (nodeAt s t k)) r) (l:=List.range 16) (ZE2.2 rG)
  have c1:(bif E k then 0 else bn (dy s (nodeAt s t k)) r)≤gF s t E r:=c1
  rw [hEk,cond_false] at c1
  show bn (dy s (nodeAt s t k)) r≤O r+_
  omega
 refine⟨⟨hP.tree.at,fun k hk hEk=>?_,?_⟩,?_,tJ,hP.kp.mono fun r=>ZD3 _ _,hP.same,hP.many⟩
 ·have fy:k≠i:=fun e=>by rw [e,hE] at hEk;cases hEk
  by_cases h0:getM s t k=⟨#[]⟩
  ·left;rw [tJ k hk fy];exact h0
  ·right
   have hn:=(h.nodes k hk hEk).resolve_left h0
   unfold nodeAt
   rw [tJ k hk fy]
   exact⟨hn.1,(D1 k hk hEk h0).1⟩
 ·refine hP.acc.mono fun r=>?_
  have e:gF u t' E r=gF s t E r:=by
   unfold gF
   refine NR fun k hk=>?_
   have hk:=ZE2.1 hk
   cases hEk:E k with
   |true=>rfl
   |false=>
    have fy:k≠i:=fun e=>by rw [e,hE] at hEk;cases hEk
    simp only [cond_false]
    by_cases h0:getM s t k=⟨#[]⟩
    ·rw [jQ (by rw [tJ k hk fy];exact h0),jQ h0]
    ·show bn (dy u (bz (getM u t' k)).1) r=_
     rw [tJ k hk fy]
     show bn (dy u (nodeAt s t k)) r=_
     rw [(D1 k hk hEk h0).2]
  rw [e,FZ hP.tree]
  show O r+_+_≤O r+_+_;omega
 ·rw [hP.get i hi,if_pos (by rw [ZA5])]
abbrev vM (E:Nat→Bool) (i:Nat):Nat→Bool:=fun k=> !(decide (k=i))&&E k
theorem QC {s:ay}{t:bf}{E:Nat→Bool}{i:Nat}(hi:i<16) (hE:E i=true) (r:Nat):gF s t (vM E i) r=gF s t E r+bn (dy s (nodeAt s t i)) r:=by
 have h:=NQ (f:=fun k=>bif E k then 0 else bn (dy s (nodeAt s t k)) r) (g:=fun k=>bif vM E i k then 0 else bn (dy s (nodeAt s t k)) r) (i:=i) (l:=List.range 16) List.nodup_range (ZE2.2 hi) (fun k _ fy=>by
  have:vM E i k=E k:=by unfold vM;rw [decide_eq_false fy];rfl
  simp only [this]) (by simp only [hE,cond_true])
 have hd:vM E i i=false:=by unfold vM;rw [decide_eq_true rfl];rfl
 simp only [hd,cond_false] at h
 exact h
theorem FI.back {s:ay}{t:bf}{E:Nat→Bool}{O:Nat→Nat}{i:Nat}{n:ft}(h:FI s t E (fun r=>O r+bn (dy s n) r)) (hi:i<16) (hE:E i=true) (hg:bz (getM s t i)=(n,true)) (hn:xD s n):FI s t (vM E i) O:=by
 have hna:nodeAt s t i=n:=by show (bz (getM s t i)).1=n;rw [hg]
 refine⟨h.tree,fun k hk hEk=>?_,h.acc.mono fun r=>?_⟩
 ·by_cases e:k=i
  ·subst e;right;rw [hna,hg];exact⟨rfl,hn⟩
  ·refine h.nodes k hk ?_
   have:vM E i k=E k:=by unfold vM;rw [decide_eq_false e];rfl
   rw [←this];exact hEk
 ·rw [QC hi hE,hna]
  show O r+_+_≤O r+_+_+_;omega
theorem FI.agX {s:ay}{t:bf}{E:Nat→Bool}{O:Nat→Nat}{i:Nat}(h:FI s t E O) (hi:i<16) (hE:E i=true) (hg:getM s t i=⟨#[]⟩):FI s t (vM E i) O:=by
 refine⟨h.tree,fun k hk hEk=>?_,h.acc.mono fun r=>?_⟩
 ·by_cases e:k=i
  ·subst e;left;exact hg
  ·refine h.nodes k hk ?_
   have:vM E i k=E k:=by unfold vM;rw [decide_eq_false e];rfl
   rw [←this];exact hEk
 ·rw [QC hi hE,jQ hg]
  show O r+bn (di s t) r+(gF s t E r+0)≤O r+bn (di s t) r+gF s t E r;omega
theorem aai {E:Nat→Bool}{i:Nat}(h:E i=false):vM (rM E i) i=E:=by
 funext k
 unfold vM rM
 by_cases e:k=i
 ·subst e;rw [decide_eq_true rfl,h];rfl
 ·rw [decide_eq_false e];rfl
theorem FI.YU {s:ay}{t:bf}{E:Nat→Bool}{O:Nat→Nat}{i:Nat}{n:ft}(h:FI s t E (fun r=>O r+bn (dy s n) r)) (hi:i<16) (hE:E i=true) (hn:cy n=true→xD s n) (hz:(aY s t i (aC n)).2.2=true):
  FI (aY s t i (aC n)).1 (aY s t i (aC n)).2.1 (vM E i) O∧aim s t E O i (aC n) (aY s t i (aC n)).1 (aY s t i (aC n)).2.1:=by
 have hP:=h.aiI (text:=aC n) hi hE hz
 have hP0:aim s t E O i (aC n) (aY s t i (aC n)).1 (aY s t i (aC n)).2.1:=⟨hP.fi.more fun r=>ZD3 _ _,hP.at_,hP.other,hP.kp.mono fun r=>ZD3 _ _,hP.same,hP.many⟩
 refine⟨?_,hP0⟩
 cases ho:cy n with
 |false=>
  have he:aC n=⟨#[]⟩:=by unfold aC;rw [ho];rfl
  exact hP0.fi.agX hi hE (by rw [hP.at_,he])
 |true=>
  have hk:=(hn ho).kp (u:=(aY s t i (aC n)).1) (by rw [hP.same.cg];exact ZC1 _) hP.kp fun r=>Nat.le_add_left _ _
  refine (hP.fi.more fun r=>?_).back (n:=n) hi hE (by rw [hP.at_];exact tu ho) hk.1
  rw [hk.2];exact ZB5 _
end GL
end Go.Proofs.YtclcgjhhehbdeaaGreatDoor
