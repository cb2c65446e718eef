/- Part 16 of the proof of a drawn law. -/
import Derived.Test.YtnkbdhldiinfdaaGreatDoorPam
import Derived.Test.YtnkbdhldiinfdaaGreatDoorPan
import Derived.Test.YtnkbdhldiinfdaaGreatDoorPao
set_option maxHeartbeats 20000000
set_option maxRecDepth 100000
set_option linter.all false
namespace Go.Proofs.YtnkbdhldiinfdaaGreatDoor
namespace GL
theorem rv.bt {s:ay}{n:Nat}{p:Pt}(h:rv s (n+1) p):(bg s p ((((n+1):Nat):Int))).2=true:=by
 cases hh:au p with
 |true=>rw [kt hh]
 |false=>exact h.2.1 hh
theorem wx {s:ay}{n:Nat}:∀{l acc:List Pt},(∀q∈l,rv s (n+1) q)→fx s ((((n+1):Nat):Int)) l acc=some (acc++l.flatMap (lz s n))
 |[],acc,_=>by rw [List.flatMap_nil,ZE5];rfl
 |p::l,acc,h=>by
  rw [NY (by rw [(h p (by simp)).bt];rfl),wx λq hq=>h q (by simp [hq]),ZD5,ZD2]
theorem FU {s:ay}{n:Nat}{p:Pt}(h:rv s (n+1) p):(lz s n p).length=4:=(iG s p ((((n+1):Nat):Int))).2 h.bt
theorem TX {s:ay}{n:Nat}:∀{l:List Pt},(∀q∈l,rv s (n+1) q)→(l.flatMap (lz s n)).length=4*l.length
 |[],_=>rfl
 |p::l,h=>by
  rw [ZD5,ZA0,FU (h p (by simp)),TX λq hq=>h q (by simp [hq]),ZA1];omega
theorem aiC (s:ay) (p:Pt):xj s 2 p=(lz s 1 p).flatMap (lz s 0):=by
 show (lz s 1 p).flatMap (xj s 1)=_
 rw [jA λq _=>YN s q]
theorem D0 {s:ay}{t:bf}{d:Nat}(h:oJ s t d):bA s t=(xj s d t.root,true)∧(xj s d t.root).length=4 ^ d:=by
 have hd:=h.dep
 have hl:=h.le
 have hs:=h.snd
 unfold bA
 rw [hd]
 match d,hl with
 |0,_=>exact⟨vt (by decide),rfl⟩
 |1,_=>
  have h1:=wx (s:=s) (n:=0) (l:=[t.root]) (acc:=[]) (λq hq=>by rw [ZC7.1 hq];exact hs)
  rw [CI (by decide) h1,vt (by decide),YN]
  rw [ZD0,ZD5,List.flatMap_nil,ZE5]
  exact⟨rfl,FU hs⟩
 |2,_=>
  have h1:=wx (s:=s) (n:=1) (l:=[t.root]) (acc:=[]) (λq hq=>by rw [ZC7.1 hq];exact hs)
  rw [ZD0,ZD5,List.flatMap_nil,ZE5] at h1
  have h2:=wx (s:=s) (n:=0) (l:=lz s 1 t.root) (acc:=[]) hs.2.2
  rw [CI (by decide) h1,show (((2:Nat):Int)-1)=(((0+1):Nat):Int) from rfl,CI (by decide) h2,vt (by decide),aiC,ZD0]
  refine⟨ζ,?_⟩
  rw [TX hs.2.2,FU hs]
theorem mA {s:ay}{t:bf}{d:Nat}(h:oJ s t d):aB s t=xj s d t.root++cu (16-4 ^ d):=by
 have ⟨h1,h2⟩:=D0 h
 unfold aB
 rw [h1]
 simp only
 rw [h2];congr 2;omega
theorem oJ.trd {s:ay}{t:bf}{d:Nat}(h:oJ s t d):t.rd:=⟨by have:=h.dep;have:=h.le;omega,h.snd.pok⟩
theorem yN {st:List Pt}:∀{l:List Pt}{s:ay}{O X:Nat→Nat},Acc s O→(∀p∈l,aZ p=true)→(∀r,X r+bn (l.filter λo=> !(gW st o)) r≤O r)→Acc (dX l st s) X∧Kp X s (dX l st s)∧dQ s (dX l st s)
 |[],s,O,X,h,_,hO=>⟨h.mono λr=>by have:=hO r;omega,Kp.refl _ _,dQ.refl _⟩
 |o::l,s,O,X,h,hl,hO=>by
  cases hk:gW st o with
  |true=>
   rw [TR hk]
   exact yN h (λp hp=>hl p (by simp [hp])) λr=>by
    have:=hO r
    rw [List.filter_cons_of_neg (by rw [hk];decide)] at this
    exact this
  |false=>
   rw [TS hk]
   have h1:=C2 (O':=λr=>X r+bn (l.filter λo=> !(gW st o)) r) h (hl o (by simp)) (λr=>by
    have:=hO r
    rw [List.filter_cons_of_pos (by rw [hk];rfl),dP] at this
    show X r+_+_≤_;omega)
   have h2:=yN (X:=X) h1.1 (λp hp=>hl p (by simp [hp])) λr=>ZB5 _
   exact⟨h2.1,(h1.2.1.mono λr=>ZD3 _ _).trans h2.2.1,h1.2.2.trans h2.2.2⟩
theorem NH (f:Pt→Bool) (r:Nat):∀(l:List Pt),bn l r=bn (l.filter f) r+bn (l.filter λo=> !(f o)) r
 |[]=>rfl
 |o::l=>by
  have ih:=NH f r l
  rw [dP]
  cases h:f o with
  |true=>rw [List.filter_cons_of_pos h,List.filter_cons_of_neg (by rw [h];decide),dP o (l.filter f)];omega
  |false=>rw [List.filter_cons_of_neg (by rw [h];decide),List.filter_cons_of_pos (by rw [h];rfl),dP o (l.filter _)];omega
theorem adO {st:List Pt}{p:Pt}(h:p∈st):gW st p=true:=by
 unfold gW
 rw [List.any_eq_true]
 exact⟨p,h,sb.2 rfl⟩
theorem afy {st inner:List Pt}(h:rV st inner) (r:Nat):bn st r≤bn (inner.filter (gW st)) r:=by
 have h1:=h (λp=>decide (at' p=r)&&gW st p)
 have e1:st.countP (λp=> !(au p)&&(decide (at' p=r)&&gW st p))=bn st r:=by
  unfold bn
  refine List.countP_congr λp hp=>?_
  unfold K2
  rw [adO hp,Bool.and_true]
 have e2:inner.countP (λp=> !(au p)&&(decide (at' p=r)&&gW st p))=bn (inner.filter (gW st)) r:=by
  unfold bn
  rw [List.countP_filter]
  congr 1
  funext p
  unfold K2
  rw [Bool.and_assoc]
 omega
structure Laid (s:ay) (Y:Nat→Nat) (l:List Pt) (many:Int) (u:ay) (t':bf) (d:Nat):Prop where
 rz:oJ u t' d
 dm:bj many=((d:Nat):Int)
 many:t'.many=many
 lv:∃k,xj u d t'.root=l++cu k
 acc:Acc u (λr=>Y r+bn (uJ u d t'.root) r)
 kp:Kp Y s u
 same:dQ s u
theorem L8 {s:ay}{t:bf}{L:List Pt}{many:Int}{O Y:Nat→Nat}{dt:Nat}(ha:Acc s O) (ht:oJ s t dt) (xB:0≤many) (hm:many≤16) (hL:many.toNat≤L.length) (hs:∀q∈L.take many.toNat,rv s 0 q) (hY:∀r,Y r+bn (bw s t) r≤O r) (hYl:∀r,bn (L.take many.toNat) r≤Y r) (ho:∀r,bn (im s dt t.root) r≤O r) (hz:(bQ s t L many).2.2=true):
  ∃d,Laid s Y (L.take many.toNat) many (bQ s t L many).1 (bQ s t L many).2.1 d:=by
 unfold bQ at hz ⊢
 cases hf:mm 3 s t (bj many) 1 (L.take many.toNat) [] with
 |mk u r=>
  rw [hf] at hz
  cases r with
  |none=>cases hz
  |some q=>
   obtain⟨nn,st⟩:=q
   obtain⟨d,fr,hd,hd2,hR⟩:=abG hf ha ht xB hm (by rw [ZB9];omega) hs (λr=>by have:=hY r;have:=hYl r;omega) ho
   show∃d,Laid s Y (L.take many.toNat) many (dX (bw s t) st u) (LY (rootOf nn) (bj many) many) d
   obtain⟨k,hk⟩:=hR.lv
   have hX:=yN (st:=st) (l:=bw s t) (X:=λr=>Y r+bn ((bw s t).filter (gW st)) r+bn fr r) hR.acc (ML ht.trd) λr=>by
    have:=hY r
    have:=NH (gW st) r (bw s t)
    show Y r+_+_+_≤O r+bn fr r
    omega
   have af4:∀r,bn (uJ u d (rootOf nn)) r≤bn fr r+bn ((bw s t).filter (gW st)) r:=λr=>by
    have:=hR.num r
    have:=afy hR.dom r
    omega
   have uz:=uk hR.snd (by rw [hX.2.2.cg];exact ZC1 _) hX.2.1 λr=>by
    rw [mB,hk,bI,fN]
    have:=af4 r
    have:=hYl r
    show _≤Y r+_+_
    omega
   refine⟨d,⟨⟨hd,hd2,uz.1⟩,hd,ζ,⟨k,?_⟩,?_,?_,hR.same.trans hX.2.2⟩⟩
   ·show xj (dX (bw s t) st u) d (rootOf nn)=_
    rw [uz.2.2.1,hk]
   ·refine hX.1.mono λr=>?_
    show Y r+bn (uJ (dX (bw s t) st u) d (rootOf nn)) r≤_
    rw [uz.2.2.2]
    have:=af4 r
    show _≤Y r+_+_
    omega
   ·exact (hR.kp.mono λr=>by have:=hY r;omega).trans (hX.2.1.mono λr=>by show _≤Y r+_+_;omega)
end GL
namespace GL
structure Tree (s:ay) (t:bf) (d:Nat):Prop where
 rz:oJ s t d
 m0:0≤t.many
 m1:t.many≤16
 dm:bj t.many=((d:Nat):Int)
 tail:∀i,t.many.toNat≤i→au (nth ae (aB s t) i)=true
theorem Tree.ok {s:ay}{t:bf}{d:Nat}(h:Tree s t d):t.ok:=⟨h.rz.trd,h.m0,h.m1⟩
theorem ZE {l m:List Pt}{i:Nat}(h:l.length≤i):nth ae (l++m) i=nth ae m (i-l.length):=by
 unfold nth;rw [ZC6 h]
theorem CE (n i:Nat):nth ae (cu n) i=bM:=by
 by_cases h:i<(cu n).length
 ·exact (ZD6.1 (bR (ek:=ae) h)).2
 ·exact tz (ek:=ae) (by omega)
theorem MM (a b:Nat):cu a++cu b=cu (a+b):=by
 unfold cu;rw [List.replicate_append_replicate]
theorem abS (n:Nat):(cu n).length=n:=ZG2
theorem Laid.wide {s:ay}{Y:Nat→Nat}{l:List Pt}{many:Int}{u:ay}{t':bf}{d:Nat}(h:Laid s Y l many u t' d):aB u t'=l++cu (16-l.length)∧l.length≤16:=by
 obtain⟨k,hk⟩:=h.lv
 have hw:=mA h.rz
 have hl:=gi (s:=u) h.rz.trd
 rw [hw,hk,ZD2,MM] at hl
 rw [ZA0,abS] at hl
 refine⟨?_,by omega⟩
 rw [hw,hk,ZD2,MM]
 congr 2;omega
theorem Laid.tree {s:ay}{Y:Nat→Nat}{l:List Pt}{many:Int}{u:ay}{t':bf}{d:Nat}(h:Laid s Y l many u t' d) (h0:0≤many) (h1:many≤16) (hl:l.length=many.toNat):Tree u t' d:=by
 refine⟨h.rz,by rw [h.many];exact h0,by rw [h.many];exact h1,by rw [h.many];exact h.dm,λi hi=>?_⟩
 rw [h.many] at hi
 rw [h.wide.1,ZE (by omega),CE];rfl
theorem KL {s:ay}:∀{n:Nat}{p q:Pt},rv s n p→q∈xj s n p→rv s 0 q
 |0,p,q,h,hq=>by rw [ZC7.1 (show q∈[p] from hq)];exact h
 |n+1,p,q,h,hq=>by
  obtain⟨x,hx,hxq⟩:=List.mem_flatMap.1 (show q∈(lz s n p).flatMap (xj s n) from hq)
  exact KL (h.2.2 x hx) hxq
theorem uP {s:ay}{t:bf}{d:Nat}(h:oJ s t d):∀q∈aB s t,rv s 0 q:=λq hq=>by
 rw [mA h] at hq
 rcases ZB4.1 hq with hq |hq
 ·exact KL h.snd hq
 ·rw [show q=bM from (ZD6.1 hq).2];exact ku s 0
theorem F1 {s:ay}{t:bf}{d:Nat}(h:oJ s t d) (r:Nat):bn (im s d t.root) r=bn (bw s t) r+bn (aB s t) r:=by
 rw [mB,CU h,mA h,bI,fN];omega
theorem P4 {s u:ay}{t:bf}{d:Nat}{O:Nat→Nat}(h:oJ s t d) (ht:s.cg≤u.cg) (hk:Kp O s u) (hO:∀r,bn (im s d t.root) r≤O r):oJ u t d∧im u d t.root=im s d t.root∧aB u t=aB s t∧∀r,bn (bw u t) r=bn (bw s t) r:=by
 have hs:=uk h.snd ht hk hO
 have h':oJ u t d:=⟨h.dep,h.le,hs.1⟩
 refine⟨h',hs.2.1,by rw [mA h',mA h,hs.2.2.1],λr=>?_⟩
 rw [←CU h',←CU h,hs.2.2.2]
theorem xg {s u:ay}{t:bf}{d:Nat}{O:Nat→Nat}(h:Tree s t d) (ht:s.cg≤u.cg) (hk:Kp O s u) (hO:∀r,bn (im s d t.root) r≤O r):Tree u t d∧im u d t.root=im s d t.root∧aB u t=aB s t:=by
 have h':=P4 h.rz ht hk hO
 exact⟨⟨h'.1,h.m0,h.m1,h.dm,by rw [h'.2.2.1];exact h.tail⟩,h'.2.1,h'.2.2.1⟩
theorem aat {p:Pt}{r:Nat}:∀{l:List Pt}{k:Nat},k<l.length→bn (l.set k p) r+bn [nth ae l k] r=bn l r+bn [p] r
 |q::l,0,_=>by
  show bn (p::l) r+bn [q] r=_
  rw [dP p l,dP q l];omega
 |q::l,k+1,h=>by
  have ih:=aat (p:=p) (r:=r) (l:=l) (k:=k) (by simp at h;omega)
  show bn (q::l.set k p) r+bn [nth ae l k] r=_
  rw [dP q (l.set k p),dP q l];omega
theorem ae6 (l:List Pt) (n r:Nat):bn (l.take n) r≤bn l r:=PU (List.take_sublist n l) r
theorem tE {l:List Pt}{k n:Nat}{p q:Pt}(h:q∈(l.set k p).take n):q=p∨q∈l:=by
 rcases List.mem_or_eq_of_mem_set (ZE6 h) with h |h
 ·exact .inr h
 ·exact .inl h
theorem BT {s:ay}{t:bf}{L:List Pt}{k:Nat}{p old:Pt}{many:Int}{O X:Nat→Nat}{dt:Nat}(ha:Acc s O) (ht:oJ s t dt) (xB:0≤many) (hm:many≤16) (hL:L.length=16) (hold:aZ old=true) (hs:∀q∈(L.set k p).take many.toNat,rv s 0 q)
  (hX:∀r,X r+bn ((L.set k p).take many.toNat) r+bn (bif ptrEq p old then [] else [old]) r+bn (bw s t) r≤O r) (ho:∀r,bn (im s dt t.root) r≤O r) (hz:(pS s t L k p many old).2.2=true):
  ∃d,Laid s (λr=>X r+bn ((L.set k p).take many.toNat) r) ((L.set k p).take many.toNat) many (pS s t L k p many old).1 (pS s t L k p many old).2.1 d:=by
 unfold pS at hz ⊢
 cases hl: !(bQ s t (L.set k p) many).2.2 with
 |true=>rw [hl] at hz;cases hz
 |false=>
  have ak5:=L8 (L:=L.set k p) (Y:=λr=>X r+bn ((L.set k p).take many.toNat) r+bn (bif ptrEq p old then [] else [old]) r) ha ht xB hm (by rw [ZC3];omega) hs hX (λr=>by show _≤X r+_+_;omega) ho (oH hl)
  obtain⟨d,hd⟩:=ak5
  refine⟨d,?_⟩
  simp only [cond_false]
  generalize (bQ s t (L.set k p) many).1=u at *
  generalize (bQ s t (L.set k p) many).2.1=t' at *
  cases he:ptrEq p old with
  |true=>
   rw [he] at hd
   show Laid s _ _ many u t' d
   exact⟨hd.rz,hd.dm,hd.many,hd.lv,hd.acc.mono λr=>by show X r+_+_≤X r+_+bn [] r+_;rw [rq];omega,hd.kp.mono λr=>ZD3 _ _,hd.same⟩
  |false=>
   rw [he] at hd
   show Laid s _ _ many (cM u old) t' d
   have hf:=C2 (p:=old) (O':=λr=>X r+bn ((L.set k p).take many.toNat) r+bn (uJ u d t'.root) r) hd.acc hold (λr=>by
    show X r+_+_+_≤X r+_+bn [old] r+_;omega)
   obtain⟨j,hj⟩:=hd.lv
   have hk:=P4 hd.rz (Int.le_of_eq hf.2.2.cg.symm) hf.2.1 λr=>by
    rw [mB,hj,bI,fN]
    show _≤X r+_+_;omega
   have hks:=uk hd.rz.snd (by rw [hf.2.2.cg];exact ZC1 _) hf.2.1 λr=>by
    rw [mB,hj,bI,fN]
    show _≤X r+_+_;omega
   exact⟨hk.1,hd.dm,hd.many,⟨j,by rw [hks.2.2.1,hj]⟩,by rw [hks.2.2.2];exact hf.1,(hd.kp.mono λr=>ZD3 _ _).trans (hf.2.1.mono λr=>ZD3 _ _),hd.same.trans hf.2.2⟩
structure aiu (s:ay) (t:bf) (X:Nat→Nat) (k:Nat) (text:ByteArray) (many:Int) (u:ay) (t':bf) (d:Nat):Prop where
 tree:Tree u t' d
 acc:Acc u (λr=>X r+bn (im u d t'.root) r)
 kp:Kp X s u
 same:dQ s u
 many:t'.many=many
 get:∀j,j<16→getM u t' j=if j=k then text else getM s t j
theorem zC {l:List Pt}{n i:Nat}(h:i<n):nth ae (l.take n) i=nth ae l i:=by
 unfold nth;rw [List.getElem?_take_of_lt h]
theorem yq {l m:List Pt}{i:Nat}(h:i<l.length):nth ae (l++m) i=nth ae l i:=by
 unfold nth;rw [ZC2 h]
theorem Laid.put {s0 s:ay}{t:bf}{X:Nat→Nat}{k:Nat}{p:Pt}{many:Int}{u:ay}{t':bf}{d dt:Nat}{text:ByteArray}(h:Laid s (λr=>X r+bn (((aB s0 t).set k p).take many.toNat) r) (((aB s0 t).set k p).take many.toNat) many u t' d) (ht:oJ s0 t dt) (xB:0≤many) (hm:many≤16) (hk:k<16) (hkm:(k:Int)<many) (htl:∀i,many.toNat≤i→au (nth ae (aB s0 t) i)=true) (hX:Kp X s0 s) (hS:dQ s0 s) (hr:(bF s p).1=text) (hq:∀j,j≠k→au (nth ae (aB s0 t) j)=false→bF s (nth ae (aB s0 t) j)=bF s0 (nth ae (aB s0 t) j)):aiu s0 t X k text many u t' d:=by
 have hlen:=gi (s:=s0) ht.trd
 have hl:(((aB s0 t).set k p).take many.toNat).length=many.toNat:=by rw [ZB9,ZC3];omega
 have hT:=h.tree xB hm hl
 have hw:=h.wide.1
 have xD:∀j,j<many.toNat→nth ae (aB u t') j=nth ae ((aB s0 t).set k p) j:=λj hj=>by
  rw [hw,yq (by omega),zC hj]
 have uz:∀q∈((aB s0 t).set k p).take many.toNat,bF u q=bF s q:=λq hq=>mI λhh=>h.kp _ (by
  have:=tX hq hh
  show 0<X _+_;omega)
 refine⟨hT,?_,hX.trans (h.kp.mono λr=>ZD3 _ _),hS.trans h.same,h.many,λj hj=>?_⟩
 ·refine h.acc.mono λr=>?_
  obtain⟨i,hi⟩:=h.lv
  rw [mB,hi,bI,fN]
  show _≤X r+_+_;omega
 ·unfold getM
  by_cases hjm:j<many.toNat
  ·rw [xD j hjm]
   have yJ:nth ae ((aB s0 t).set k p) j∈((aB s0 t).set k p).take many.toNat:=by
    rw [←zC hjm];exact bR (ek:=ae) (by omega)
   rw [uz _ yJ]
   by_cases e:j=k
   ·subst e
    rw [if_pos rfl,nu (ek:=ae) (by omega)];exact hr
   ·rw [if_neg e,ix (ek:=ae) (λh=>e h.symm)]
    cases hh:au (nth ae (aB s0 t) j) with
    |true=>rw [fT hh,fT hh]
    |false=>rw [hq j e hh]
  ·have e:j≠k:=by omega
   rw [if_neg e]
   have h1:au (nth ae (aB u t') j)=true:=hT.tail j (by rw [h.many];omega)
   rw [fT h1,fT (htl j (by omega))]
theorem BS {s:ay}{t:bf}{X:Nat→Nat}{k:Int}{text:ByteArray}{dt:Nat}(ha:Acc s (λr=>X r+bn (im s dt t.root) r)) (ht:Tree s t dt) (hk0:0≤k) (hk:k≤15) (hz:(aY s t k text).2.2=true):
  ∃d,aiu s t X k.toNat text (bN t k) (aY s t k text).1 (aY s t k text).2.1 d:=by
 have xB:0≤bN t k:=by unfold bN;have:=ht.m0;omega
 have EW:bN t k≤16:=by unfold bN;have:=ht.m1;omega
 have hkm:(k.toNat:Int)<bN t k:=by unfold bN;omega
 have htm:t.many.toNat≤(bN t k).toNat:=by unfold bN;omega
 have hlen:=gi (s:=s) ht.rz.trd
 have hold:aZ (dV s t k)=true:=oC (lA ht.rz.trd) _
 have htl:∀i,(bN t k).toNat≤i→au (nth ae (aB s t) i)=true:=λi hi=>ht.tail i (by omega)
 have cm:∀r,bn (im s dt t.root) r=bn (bw s t) r+bn (aB s t) r:=F1 ht.rz
 have ad5:∀(p:Pt) (r:Nat),bn ((aB s t).set k.toNat p) r+bn [dV s t k] r=bn (aB s t) r+bn [p] r:=λp r=>aat (by omega)
 have htk:=λ(p:Pt) (r:Nat)=>ae6 ((aB s t).set k.toNat p) (bN t k).toNat r
 have IZ:∀{P:Prop},decide (gU s t k=text)=true→decide (gU s t k≠text)=true→P:=λh1 h2=>absurd (aJ h1) (aJ h2)
 unfold aY at hz ⊢
 cases h1:decide (gU s t k=text) with
 |true=>
  have ai9:(bF s (dV s t k)).1=text:=aJ h1
  rw [decide_eq_false (p:=gU s t k≠text) (λh=>h (aJ h1))] at hz ⊢
  cases h2:decide (bN t k=t.many) with
  |true=>
   have h2:=aJ h2
   refine⟨dt,⟨ht,ha,Kp.refl _ _,dQ.refl _,h2.symm,λj hj=>?_⟩⟩
   show getM s t j=_
   by_cases e:j=k.toNat
   ·rw [if_pos e,e];exact ai9
   ·rw [if_neg e]
  |false=>
   rw [h1,h2] at hz
   obtain⟨d,hd⟩:=BT (X:=X) ha ht.rz xB EW hlen hold (λq hq=>by
    rcases tE hq with rfl |hq
    ·exact uP ht.rz _ (bR (ek:=ae) (by omega))
    ·exact uP ht.rz q hq) (λr=>by
    have a1:=cm r
    have a2:=ad5 (dV s t k) r
    have a3:=htk (dV s t k) r
    rw [sb.2 rfl]
    show X r+_+bn [] r+_≤X r+_
    rw [rq];omega) (λr=>by show _≤X r+_;omega) hz
   exact⟨d,hd.put ht.rz xB EW (by omega) hkm htl (Kp.refl _ _) (dQ.refl _) ai9 λj _ _=>rfl⟩
 |false=>
  rw [decide_eq_true (p:=gU s t k≠text) (aA h1)] at hz ⊢
  rw [h1] at hz
  cases h3:decide (text≠⟨#[]⟩) with
  |false=>
   have ajb:text=⟨#[]⟩:=Classical.byContradiction (aA h3)
   rw [h3] at hz
   obtain⟨d,hd⟩:=BT (X:=X) ha ht.rz xB EW hlen hold (λq hq=>by
    rcases tE hq with rfl |hq
    ·exact ku s 0
    ·exact uP ht.rz q hq) (λr=>by
    have a1:=cm r
    have a2:=ad5 bM r
    have a3:=htk bM r
    rw [l9 (p:=bM) rfl] at a2
    have a4:bn (bif ptrEq bM (dV s t k) then [] else [dV s t k]) r≤bn [dV s t k] r:=by
     cases ptrEq bM (dV s t k) with
     |true=>exact ZA7 _
     |false=>exact ZB5 _
    show X r+_+_+_≤X r+_
    omega) (λr=>by show _≤X r+_;omega) hz
   exact⟨d,hd.put ht.rz xB EW (by omega) hkm htl (Kp.refl _ _) (dQ.refl _) (by rw [fT rfl,ajb]) λj _ _=>rfl⟩
  |true=>
   rw [h3] at hz
   cases hw: !(bd s text 0).2.2 with
   |true=>rw [hw] at hz;cases hz
   |false=>
    rw [hw] at hz
    obtain⟨akt,wkp,ack,_,_,wfr⟩:=xJ ha (oH hw)
    simp only [Bool.false_and,cond_false,cond_true] at hz ⊢
    generalize (bd s text 0).1=s1 at *
    generalize (bd s text 0).2.1=p at *
    have hT:=P4 ht.rz (Int.le_of_eq ack.cg.symm) wkp λr=>Nat.le_add_left _ _
    have hq1:∀q∈aB s t,rv s1 0 q:=by rw [←hT.2.2.1];exact uP hT.1
    obtain⟨d,hd⟩:=BT (X:=X) akt hT.1 xB EW hlen hold (λq hq=>by
     rcases tE hq with rfl |hq
     ·exact⟨wfr.ok,λhh=>⟨wfr.lv,by rw [wfr.EI,ack.cg];exact ZC1 _,by rw [wC hh wfr.row wfr.fits]⟩⟩
     ·exact hq1 q hq) (λr=>by
     have a1:=cm r
     have a2:=ad5 p r
     have a3:=htk p r
     have a4:bn (bif ptrEq p (dV s t k) then [] else [dV s t k]) r≤bn [dV s t k] r:=by
      cases ptrEq p (dV s t k) with
      |true=>exact ZA7 _
      |false=>exact ZB5 _
     rw [hT.2.2.2 r]
     show X r+_+_+_≤X r+_+_
     omega) (λr=>by rw [hT.2.1];show _≤X r+_+_;omega) hz
    refine⟨d,hd.put ht.rz xB EW (by omega) hkm htl (wkp.mono λr=>ZD3 _ _) ack (by rw [wC wfr.nh wfr.row wfr.fits]) λj _ hh=>?_⟩
    refine mI λ_=>wkp _ ?_
    have hj:j<(aB s t).length:=by
     rw [hlen]
     refine Classical.byContradiction λFL=>?_
     rw [show nth ae (aB s t) j=bM from tz (ek:=ae) (by omega)] at hh
     cases hh
    have c1:=tX (bR (ek:=ae) hj) hh
    have c2:=cm (at' (nth ae (aB s t) j))
    have c3:bn (aB s t) (at' (nth ae (aB s t) j))≤X (at' (nth ae (aB s t) j))+bn (im s dt t.root) (at' (nth ae (aB s t) j)):=by omega
    exact ZG3 c1 c3
end GL
namespace GL
theorem vG:∀(l:List Pt) (s:ay),dx l s=l.foldl cM s
 |[],_=>rfl
 |p::l,s=>vG l (cM s p)
structure aka (s:ay) (t:bf) (X:Nat→Nat) (mn:Int) (u:ay) (t':bf) (d:Nat):Prop where
 tree:Tree u t' d
 acc:Acc u (λr=>X r+bn (im u d t'.root) r)
 kp:Kp X s u
 same:dQ s u
 many:t'.many=mn
 get:∀j,j<16→getM u t' j=if (j:Int)<mn then getM s t j else ⟨#[]⟩
theorem mW {s:ay}{t:bf}{d:Nat}(h:Tree s t d) {j:Nat}(hj:t.many≤(j:Int)):getM s t j=⟨#[]⟩:=by
 unfold getM
 rw [fT (h.tail j (by have:=h.m0;omega))]
theorem NG {s:ay}{t:bf}{X:Nat→Nat}{many:Int}{dt:Nat}(ha:Acc s (λr=>X r+bn (im s dt t.root) r)) (ht:Tree s t dt) (h0:0≤many) (h1:many≤16) (hz:(cF s t many).2.2=true):
  ∃d,aka s t X many (cF s t many).1 (cF s t many).2.1 d:=by
 cases h2:decide (many=t.many) with
 |true=>
  rw [ae0 h2]
  have h2:=aJ h2
  refine⟨dt,⟨ht,ha,Kp.refl _ _,dQ.refl _,h2.symm,λj hj=>?_⟩⟩
  show getM s t j=_
  by_cases e:(j:Int)<many
  ·rw [if_pos e]
  ·rw [if_neg e];exact mW ht (by omega)
 |false=>
  cases h3: !(bQ s t (aB s t) many).2.2 with
  |true=>rw [aeZ h2 h3] at hz;cases hz
  |false=>
   rw [aeY h2 h3]
   have hlen:=gi (s:=s) ht.rz.trd
   have cm:=F1 ht.rz
   have hsp:∀r,bn (aB s t) r=bn ((aB s t).take many.toNat) r+bn ((aB s t).drop many.toNat) r:=λr=>by
    rw [←bI,ZG1]
   obtain⟨d,hd⟩:=L8 (L:=aB s t) (Y:=λr=>X r+bn ((aB s t).take many.toNat) r+bn ((aB s t).drop many.toNat) r) ha ht.rz h0 h1 (by omega) (λq hq=>uP ht.rz q (ZE6 hq)) (λr=>by
    have a1:=cm r
    have a2:=hsp r
    show X r+_+_+_≤X r+_;omega) (λr=>by show _≤X r+_+_;omega) (λr=>Nat.le_add_left _ _) (oH h3)
   simp only
   generalize (bQ s t (aB s t) many).1=u at *
   generalize (bQ s t (aB s t) many).2.1=t' at *
   rw [vG]
   have hl:((aB s t).take many.toNat).length=many.toNat:=by rw [ZB9];omega
   have hf:=yM (l:=(aB s t).drop many.toNat) (O':=λr=>X r+bn ((aB s t).take many.toNat) r+bn (uJ u d t'.root) r) hd.acc (λp hp=>lA ht.rz.trd p (ZF2 hp)) (λr=>by
    show X r+_+_+_≤X r+_+_+_;omega)
   obtain⟨k,hk⟩:=hd.lv
   have hT:=hd.tree h0 h1 hl
   have uH:∀r,bn (im u d t'.root) r=bn (uJ u d t'.root) r+bn ((aB s t).take many.toNat) r:=λr=>by
    rw [mB,hk,bI,fN];omega
   have uz:=xg hT (Int.le_of_eq hf.2.2.cg.symm) hf.2.1 λr=>by rw [uH];show _≤X r+_+_;omega
   refine⟨d,⟨uz.1,?_,(hd.kp.mono λr=>by show X r≤X r+_+_;omega).trans (hf.2.1.mono λr=>by show X r≤X r+_+_;omega),hd.same.trans hf.2.2,hd.many,λj hj=>?_⟩⟩
   ·refine hf.1.mono λr=>?_
    rw [uz.2.1,uH]
    show X r+_≤X r+_+_;omega
   ·by_cases e:(j:Int)<many
    ·rw [if_pos e]
     unfold getM
     rw [uz.2.2,hd.wide.1,yq (by omega),zC (by omega)]
     rw [mI (s:=s)]
     intro hh
     have yK:j<(aB s t).length:=by omega
     have yJ:nth ae (aB s t) j∈(aB s t).take many.toNat:=by
      have h5:nth ae ((aB s t).take many.toNat) j=nth ae (aB s t) j:=zC (by omega)
      rw [←h5];exact bR (ek:=ae) (by omega)
     have hc:=tX yJ hh
     have k1:=hd.kp (at' (nth ae (aB s t) j)) (show 0<X (at' (nth ae (aB s t) j))+bn ((aB s t).take many.toNat) (at' (nth ae (aB s t) j))+bn ((aB s t).drop many.toNat) (at' (nth ae (aB s t) j)) by omega)
     have k2:=hf.2.1 (at' (nth ae (aB s t) j)) (show 0<X (at' (nth ae (aB s t) j))+bn ((aB s t).take many.toNat) (at' (nth ae (aB s t) j))+bn (uJ u d t'.root) (at' (nth ae (aB s t) j)) by omega)
     exact k2.trans k1
    ·rw [if_neg e]
     exact mW uz.1 (by rw [hd.many];omega)
theorem XW {s:ay}{a:Nat}(oN:s.wf) (ha:a<64) (h1:1≤qI s a) (hup:qI s a≤1000000):(gf s a).wf∧(∀r,qI (gf s a) r=if a=r then qI s r-1 else qI s r)∧(∀r,qI (gf s a) r≠0∨a≠r→nth ab (gf s a).rows r=nth ab s.rows r):=by
 have hlen:a<s.refs.length:=by rw [oN.n.2.1];exact ha
 have hw:xu (qI s a-1)=qI s a-1:=FX (by omega) (by omega)
 have hrf:(gf s a).refs=s.refs.set a (qI s a-1):=by
  show s.refs.set a (xu (qI s a-1))=_
  rw [hw]
 have vE:∀r,qI (gf s a) r=if a=r then qI s r-1 else qI s r:=λr=>by
  show nth ag (gf s a).refs r=_
  rw [hrf]
  by_cases e:a=r
  ·subst e;rw [nu (ek:=ag) hlen,if_pos rfl]
  ·rw [ix (ek:=ag) e,if_neg e];rfl
 have hl:=xd s a
 refine⟨⟨⟨hl.1.trans oN.n.1,hl.2.1.trans oN.n.2.1,hl.2.2.trans oN.n.2.2⟩,?_⟩,vE,λr hr=>?_⟩
 ·show∀x∈(bif uC s a then s.rows.set a ByteArray.empty else s.rows),_
  cases uC s a with
  |true=>exact U2 oN.sz (ZA7 _)
  |false=>exact oN.sz
 ·show nth ab (bif uC s a then s.rows.set a ByteArray.empty else s.rows) r=_
  cases hb:uC s a with
  |false=>rfl
  |true=>
   have hz:qI (gf s a) a=0:=aJ hb
   have e:a≠r:=λe=>by
    rcases hr with hr |hr
    ·rw [←e] at hr;exact hr hz
    ·exact hr e
   exact ix (ek:=ab) e
theorem LW {O:Nat→Nat}:∀{l:List Pt}{s:ay},s.wf→(∀r,qI s r≤1000000)→(∀p∈l,aZ p=true∧au p=false)→(∀r,((bn l r+bn s.dead r+O r:Nat):Int)≤qI s r)→
  (j8 l s).wf∧(∀r,qI (j8 l s) r≤1000000)∧(∀r,((bn s.dead r+O r:Nat):Int)≤qI (j8 l s) r)∧Kp O s (j8 l s)∧(j8 l s).dead=s.dead∧(j8 l s).gone=s.gone∧dQ s (j8 l s)
 |[],s,oN,hup,_,hsl=>⟨oN,hup,λr=>by have:=hsl r;rw [rq] at this;show ((bn s.dead r+O r:Nat):Int)≤qI s r;omega,Kp.refl _ _,rfl,rfl,dQ.refl _⟩
 |p::l,s,oN,hup,cG,hsl=>by
  have hp:=cG p (by simp)
  have xD:=sr hp.1
  have h1:=hsl (at' p)
  rw [dP,rM hp.2] at h1
  obtain⟨d1,d2,d3⟩:=XW oN xD (by omega) (hup _)
  have ajf:∀r,((bn l r+bn (gf s (at' p)).dead r+O r:Nat):Int)≤qI (gf s (at' p)) r:=λr=>by
   show ((bn l r+bn s.dead r+O r:Nat):Int)≤_
   have:=hsl r
   rw [dP] at this
   rw [d2]
   by_cases e:at' p=r
   ·subst e;rw [rM hp.2] at this;rw [if_pos rfl];omega
   ·rw [if_neg e];rw [yU e] at this;omega
  obtain⟨e1,e2,e3,e4,e5,e6,e7⟩:=LW (l:=l) (s:=gf s (at' p)) d1 (λr=>by
   rw [d2];have:=hup r;by_cases e:at' p=r
   ·rw [if_pos e];omega
   ·rw [if_neg e];exact this) (λq hq=>cG q (by simp [hq])) ajf
  refine⟨e1,e2,e3,?_,e5,e6,⟨e7.cg,e7.bZ,e7.same⟩⟩
  refine Kp.trans (λr hr=>d3 r ?_) e4
  have:=ajf r
  left;omega
theorem yw {s:ay}{O:Nat→Nat}(h:Acc s O) (ht:s.cg<1000000):Acc (ij s) O∧Kp O s (ij s)∧(ij s).cg=s.cg+1∧(ij s).bZ=s.bZ∧(ij s).same=s.same:=by
 obtain⟨e1,e2,e3,e4,e5,e6,e7⟩:=LW (O:=O) h.wf h.up (λp hp=>h.ok p (by simp [hp])) h.sl
 refine⟨⟨⟨e1.n,e1.sz⟩,e2,?_,λr=>?_,λp hp=>?_⟩,e4,?_,e7.bZ,e7.same⟩
 ·show 1≤(j8 s.gone s).cg+1∧(j8 s.gone s).cg+1≤1000000
  rw [e7.cg];have:=h.cg;omega
 ·show ((bn [] r+bn (j8 s.gone s).dead r+O r:Nat):Int)≤_
  rw [e5,rq];have:=e3 r
  show _≤qI (j8 s.gone s) r
  omega
 ·have hp:p∈[]++(j8 s.gone s).dead:=hp
  rw [e5] at hp
  exact h.ok p (by simp at hp;simp [hp])
 ·show (j8 s.gone s).cg+1=_
  rw [e7.cg]
abbrev nhB (p:Pt):Bool:= !(au p)
theorem uo (s:ay):∀(n:Nat),(im s n bM).filter nhB=[]
 |0=>rfl
 |n+1=>by
  show (bM::(lz s n bM).flatMap (im s n)).filter nhB=[]
  rw [ot rfl]
  have h:=uo s n
  simp only [cu,List.replicate,ZD5,List.flatMap_nil,List.filter_append,h,List.filter_cons_of_neg (show¬nhB bM=true by decide),ZE5,List.filter_nil]
def aaT:Nat→Nat
 |0=>1
 |n+1=>1+4*aaT n
theorem NO {s:ay}{n:Nat}(one:∀{p:Pt},rv s n p→∃k,k≤aaT n∧∀(f:Nat) (rest out:List Pt),j7 (f+k) s (p::rest) out=j7 f s rest (out++(im s n p).filter nhB)):∀{l:List Pt},(∀q∈l,rv s n q)→∃k,k≤l.length*aaT n∧∀(f:Nat) (rest out:List Pt),j7 (f+k) s (l++rest) out=j7 f s rest (out++(l.flatMap (im s n)).filter nhB)
 |[],_=>⟨0,ZA7 _,λf rest out=>by simp⟩
 |q::l,h=>by
  obtain⟨k1,h1,e1⟩:=one (h q (by simp))
  obtain⟨k2,h2,e2⟩:=NO one (l:=l) λx hx=>h x (by simp [hx])
  refine⟨k2+k1,by rw [ZA1,Nat.succ_mul];omega,λf rest out=>?_⟩
  rw [←ZF7,ZG7,e1,e2,ZD5,List.filter_append,ZD2]
theorem UO {s:ay}:∀{n:Nat}{p:Pt},rv s n p→∃k,k≤aaT n∧∀(f:Nat) (rest out:List Pt),j7 (f+k) s (p::rest) out=j7 f s rest (out++(im s n p).filter nhB)
 |0,p,h=>by
  refine⟨1,ZB5 _,λf rest out=>?_⟩
  cases hh:au p with
  |true=>
   rw [j7,hh,show (im s 0 p).filter nhB=[] by show [p].filter nhB=[];simp [nhB,hh]]
   simp
  |false=>
   have h0:=(h.2 hh).1
   rw [j7,hh,decide_eq_false (p:=p.2.2.2.2>0) (by omega),show (im s 0 p).filter nhB=[p] by show [p].filter nhB=[p];simp [nhB,hh]]
   rfl
 |n+1,p,h=>by
  cases hh:au p with
  |true=>
   refine⟨1,by show 1≤1+_;omega,λf rest out=>?_⟩
   rw [j7,hh,iu hh,uo,ZE5];rfl
  |false=>
   have hb:=oq hh (h.2.1 hh)
   have FK:p.2.2.2.2=(((n+1):Nat):Int):=hb.2.1
   obtain⟨k,hk,e⟩:=NO (s:=s) (n:=n) (λh=>UO h) (l:=lz s n p) h.2.2
   have h4:=FU h
   refine⟨k+1,by rw [h4] at hk;show _≤1+4*aaT n;omega,λf rest out=>?_⟩
   rw [←ZF7,j7,hh,FK,decide_eq_true (p:=(((n+1):Nat):Int)>0) (by omega)]
   show j7 (f+k) s (lz s n p++rest) (out++[p])=_
   rw [e]
   show j7 f s rest (out++[p]++_)=j7 f s rest (out++(p::(lz s n p).flatMap (im s n)).filter nhB)
   rw [List.filter_cons_of_pos (by simp [nhB,hh]),ZD2];rfl
theorem UN {s:ay}{t:bf}{d:Nat}(h:oJ s t d):NC s t=true∧allM s t=(im s d t.root).filter nhB:=by
 obtain⟨k,hk,e⟩:=UO h.snd
 have hp:aaT d≤21:=by
  have:=h.le
  match d,this with
  |0,_=>decide
  |1,_=>decide
  |2,_=>decide
 obtain⟨g,hg⟩:∃g,40=g+1+k:=⟨39-k,by omega⟩
 have he:j7 40 s [t.root] []=some ((im s d t.root).filter nhB):=by
  rw [hg,e (g+1) [] []];rfl
 unfold NC allM
 rw [he];exact⟨rfl,rfl⟩
theorem L6 {s:ay}{many:Int}:∀{l:List Pt}{i:Int},(∀j,j<l.length→au (nth ae l j)=false→rv s 0 (nth ae l j)∧i+j<many)→j9 s many i l=true
 |[],i,_=>rfl
 |p::l,i,h=>by
  have l5:j9 s many (i+1) l=true:=L6 λj hj hh=>by
   have:=h (j+1) (by simp;omega) hh
   exact⟨this.1,by have:=this.2;omega⟩
  cases hh:au p with
  |true=>rw [FD hh];exact l5
  |false=>
   obtain⟨h1,h2⟩:=h 0 (by simp) hh
   have h3:=h1.2 hh
   have h2:i+((0:Nat):Int)<many:=h2
   rw [O1 hh (O2 (by rw [show (bF s p).2=true from h3.2.2];rfl) (decide_eq_false (λfA=>fA h3.1)) (decide_eq_false (by have:p.2.1≤s.cg:=h3.2.1;omega)) (decide_eq_false (by omega)))]
   exact l5
theorem Tree.qJ {s:ay}{t:bf}{d:Nat}(h:Tree s t d):qJ s t=true:=by
 have ⟨h1,h2⟩:=D0 h.rz
 have hw:=mA h.rz
 rw [Y9 (zA (by rw [cC.2 ⟨h.m0,h.m1⟩];rfl) (decide_eq_false (by rw [h.dm,h.rz.dep];simp)) (by rw [h.rz.snd.pok];rfl)) (by rw [h1];rfl),h1]
 refine L6 λj hj hh=>⟨KL h.rz.snd (bR (ek:=ae) hj),?_⟩
 refine Classical.byContradiction λFL=>?_
 have:=h.tail j (by have:=h.m0;omega)
 rw [hw,yq hj] at this
 rw [hh] at this
 cases this
end GL
namespace GL
abbrev cT (n:fu):bf:=(n.2.2.2.1,n.2.2.2.2.1,n.2.2.2.2.2.1,n.2.2.2.2.2.2.1,n.2.2.2.2.2.2.2.1,n.2.2.2.2.2.2.2.2.1,n.2.2.2.2.2.2.2.2.2)
abbrev bf.d (t:bf):Nat:=t.depth.toNat
theorem oJ.ajH {s:ay}{t:bf}{d:Nat}(h:oJ s t d):d=t.d:=by have:=h.dep;show d=t.depth.toNat;omega
theorem Tree.at {s:ay}{t:bf}{d:Nat}(h:Tree s t d):Tree s t t.d:=by rw [←h.rz.ajH];exact h
structure xI (s:ay) (n:fu):Prop where
 ok:cy n=true
 tree:Tree s (cT n) (cT n).d
abbrev di (s:ay) (t:bf):List Pt:=im s t.d t.root
abbrev dz (s:ay) (n:fu):List Pt:=di s (cT n)
abbrev nodeAt (s:ay) (t:bf) (k:Nat):fu:=(bz (getM s t k)).1
def gG (s:ay) (t:bf) (E:Nat→Bool) (r:Nat):Nat:=((List.range 16).map λk=>bif E k then 0 else bn (dz s (nodeAt s t k)) r).sum
theorem UY {f g:Nat→Nat}:∀{l:List Nat},(∀k∈l,f k≤g k)→(l.map f).sum≤(l.map g).sum
 |[],_=>ZB5 _
 |k::l,h=>by
  simp only [ZE7,List.sum_cons]
  have h1:=h k (by simp)
  have h2:=UY (f:=f) (g:=g) (l:=l) λx hx=>h x (by simp [hx])
  omega
theorem NX {f g:Nat→Nat}{l:List Nat}(h:∀k∈l,f k=g k):(l.map f).sum=(l.map g).sum:=by
 have h1:=UY (f:=f) (g:=g) (l:=l) λk hk=>ZA8 (h k hk)
 have h2:=UY (f:=g) (g:=f) (l:=l) λk hk=>ZA8 (h k hk).symm
 omega
theorem IA {f:Nat→Nat}{k:Nat}:∀{l:List Nat},k∈l→f k≤(l.map f).sum
 |x::l,h=>by
  simp only [ZE7,List.sum_cons]
  rcases ZB8.1 h with rfl |h
  ·omega
  ·have:=IA (f:=f) h;omega
theorem NW {f g:Nat→Nat}{i:Nat}:∀{l:List Nat},l.Nodup→i∈l→(∀k∈l,k≠i→f k=g k)→f i=0→(l.map g).sum=(l.map f).sum+g i
 |x::l,hn,hi,h,h0=>by
  simp only [ZE7,List.sum_cons]
  have hn':=List.nodup_cons.1 hn
  by_cases e:x=i
  ·subst e
   have:(l.map f).sum=(l.map g).sum:=NX λk hk=>h k (by simp [hk]) (λe=>hn'.1 (e ▸ hk))
   omega
  ·have CX:i∈l:=by
    rcases ZB8.1 hi with e' |h
    ·exact absurd e'.symm e
    ·exact h
   have:=NW (f:=f) (g:=g) hn'.2 CX (λk hk fA=>h k (by simp [hk]) fA) h0
   have:=h x (by simp) e
   omega
structure FI (s:ay) (t:bf) (E:Nat→Bool) (O:Nat→Nat):Prop where
 tree:Tree s t t.d
 nodes:∀k,k<16→E k=false→getM s t k=⟨#[]⟩∨(bz (getM s t k)).2=true∧xI s (nodeAt s t k)
 acc:Acc s (λr=>O r+bn (di s t) r+gG s t E r)
theorem fH:bz ⟨#[]⟩=(nz,false):=by
 have h:bq ⟨#[]⟩=([],true):=by
  unfold bq
  rw [show JB ((⟨#[]⟩:ByteArray).size+1) ⟨#[]⟩ 0 []=some [] by rw [aeA (by decide)]]
  rfl
 rw [tC (by rw [h];decide)]
theorem jT {s:ay}{t:bf}{k:Nat}(h:getM s t k=⟨#[]⟩) (r:Nat):bn (dz s (nodeAt s t k)) r=0:=by
 show bn (dz s (bz (getM s t k)).1) r=0
 rw [h,fH]
 exact l9 rfl r
theorem FI.bZ {s u:ay}{t:bf}{E:Nat→Bool}{O X:Nat→Nat}(h:FI s t E O) (ht:s.cg≤u.cg) (hk:Kp X s u) (hX:∀r,bn (di s t) r+gG s t E r≤X r):
  Tree u t t.d∧(∀k,k<16→getM u t k=getM s t k)∧di u t=di s t∧(∀k,k<16→E k=false→getM u t k=⟨#[]⟩∨(bz (getM u t k)).2=true∧xI u (nodeAt u t k))∧∀r,gG u t E r=gG s t E r:=by
 have h1:=xg h.tree ht hk λr=>by have:=hX r;show bn (di s t) r≤_;omega
 have tN:∀k,k<16→getM u t k=getM s t k:=λk rK=>by
  unfold getM
  rw [h1.2.2,mI (s:=s)]
  intro hh
  refine hk _ ?_
  have hm:nth ae (aB s t) k∈aB s t:=bR (ek:=ae) (by rw [gi h.tree.rz.trd];exact rK)
  have c1:=tX hm hh
  have c2:bn (di s t) (at' (nth ae (aB s t) k))=bn (bw s t) (at' (nth ae (aB s t) k))+bn (aB s t) (at' (nth ae (aB s t) k)):=F1 h.tree.rz (at' (nth ae (aB s t) k))
  have c3:=hX (at' (nth ae (aB s t) k))
  omega
 have D5:∀k,k<16→E k=false→getM s t k≠⟨#[]⟩→xI u (nodeAt s t k)∧dz u (nodeAt s t k)=dz s (nodeAt s t k):=λk rK hE fA=>by
  have hn:=(h.nodes k rK hE).resolve_left fA
  have h2:=xg hn.2.tree ht hk λr=>by
   have c1:=IA (f:=λk=>bif E k then 0 else bn (dz s (nodeAt s t k)) r) (l:=List.range 16) (ZE2.2 rK)
   have c2:=hX r
   have c1:(bif E k then 0 else bn (dz s (nodeAt s t k)) r)≤gG s t E r:=c1
   rw [hE,cond_false] at c1
   show bn (dz s (nodeAt s t k)) r≤_
   omega
  exact⟨⟨hn.2.ok,h2.1⟩,h2.2.1⟩
 refine⟨h1.1,tN,h1.2.1,λk rK hE=>?_,λr=>?_⟩
 ·by_cases fA:getM s t k=⟨#[]⟩
  ·left;rw [tN k rK];exact fA
  ·right
   have hn:=(h.nodes k rK hE).resolve_left fA
   unfold nodeAt
   rw [tN k rK]
   exact⟨hn.1,(D5 k rK hE fA).1⟩
 ·unfold gG
  refine NX λk rK=>?_
  have rK:=ZE2.1 rK
  cases hE:E k with
  |true=>rfl
  |false=>
   simp only [cond_false]
   by_cases fA:getM s t k=⟨#[]⟩
   ·rw [jT (by rw [tN k rK];exact fA),jT fA]
   ·show bn (dz u (bz (getM u t k)).1) r=_
    rw [tN k rK]
    show bn (dz u (nodeAt s t k)) r=_
    rw [(D5 k rK hE fA).2]
abbrev rQ (E:Nat→Bool) (i:Nat):Nat→Bool:=λk=>decide (k=i)||E k
theorem FI.take {s:ay}{t:bf}{E:Nat→Bool}{O:Nat→Nat}{i:Nat}(h:FI s t E O) (hi:i<16) (hE:E i=false):FI s t (rQ E i) (λr=>O r+bn (dz s (nodeAt s t i)) r):=by
 refine⟨h.tree,λk hk hk2=>h.nodes k hk ?_,h.acc.mono λr=>?_⟩
 ·unfold rQ at hk2
  simp only [ZE1] at hk2;exact hk2.2
 ·have:=NW (f:=λk=>bif rQ E i k then 0 else bn (dz s (nodeAt s t k)) r) (g:=λk=>bif E k then 0 else bn (dz s (nodeAt s t k)) r) (i:=i) (l:=List.range 16) List.nodup_range (ZE2.2 hi) (λk _ fA=>by
   have:rQ E i k=E k:=by unfold rQ;rw [decide_eq_false fA];rfl
   simp only [this]) (by
   have:rQ E i i=true:=by unfold rQ;rw [decide_eq_true rfl];rfl
   simp only [this,cond_true])
  have e:gG s t E r=gG s t (rQ E i) r+bn (dz s (nodeAt s t i)) r:=by
   have h2:=this
   simp only [hE,cond_false] at h2
   exact h2
  show O r+bn (dz s (nodeAt s t i)) r+bn (di s t) r+gG s t (rQ E i) r≤O r+bn (di s t) r+gG s t E r
  omega
theorem FI.more {s:ay}{t:bf}{E:Nat→Bool}{O O':Nat→Nat}(h:FI s t E O) (hO:∀r,O' r≤O r):FI s t E O':=
 ⟨h.tree,h.nodes,h.acc.mono λr=>by have:=hO r;show O' r+_+_≤O r+_+_;omega⟩
theorem FI.other {s u:ay}{t:bf}{E:Nat→Bool}{O O':Nat→Nat}(h:FI s t E O) (ht:u.cg=s.cg) (hk:Kp (λr=>O' r+bn (di s t) r+gG s t E r) s u) {Y:Nat→Nat}(ha:Acc u (λr=>O' r+bn (di s t) r+gG s t E r+Y r)):FI u t E (λr=>O' r+Y r):=by
 have hK:=h.bZ (Int.le_of_eq ht.symm) hk λr=>by show _≤O' r+_+_;omega
 refine⟨hK.1,hK.2.2.2.1,ha.mono λr=>?_⟩
 rw [hK.2.2.1,hK.2.2.2.2 r];omega
theorem F4 {s:ay}{t:bf}{d:Nat}(h:Tree s t d):im s d t.root=di s t:=by rw [h.rz.ajH]
theorem FI.akD {s:ay}{t:bf}{E:Nat→Bool}{O:Nat→Nat}{t2:bf}{k:Int}{text:ByteArray}(h:FI s t E (λr=>O r+bn (di s t2) r)) (h2:Tree s t2 t2.d) (hk0:0≤k) (hk:k≤15) (hz:(aY s t2 k text).2.2=true):
  ∃d,aiu s t2 (λr=>O r+bn (di s t) r+gG s t E r) k.toNat text (bN t2 k) (aY s t2 k text).1 (aY s t2 k text).2.1 d∧FI (aY s t2 k text).1 t E (λr=>O r+bn (di (aY s t2 k text).1 (aY s t2 k text).2.1) r)∧Tree (aY s t2 k text).1 (aY s t2 k text).2.1 (aY s t2 k text).2.1.d:=by
 obtain⟨d,hP⟩:=BS (X:=λr=>O r+bn (di s t) r+gG s t E r) (h.acc.mono λr=>by show O r+bn (di s t) r+gG s t E r+bn (di s t2) r≤O r+bn (di s t2) r+bn (di s t) r+gG s t E r;omega) h2 hk0 hk hz
 refine⟨d,hP,?_,hP.tree.at⟩
 have:=h.other (O':=O) (Y:=λr=>bn (im _ d _) r) hP.same.cg hP.kp hP.acc
 rw [F4 hP.tree] at this
 exact this
theorem FI.als {s:ay}{t:bf}{E:Nat→Bool}{O:Nat→Nat}{t2:bf}{many:Int}(h:FI s t E (λr=>O r+bn (di s t2) r)) (h2:Tree s t2 t2.d) (h0:0≤many) (h1:many≤16) (hz:(cF s t2 many).2.2=true):
  ∃d,aka s t2 (λr=>O r+bn (di s t) r+gG s t E r) many (cF s t2 many).1 (cF s t2 many).2.1 d∧FI (cF s t2 many).1 t E (λr=>O r+bn (di (cF s t2 many).1 (cF s t2 many).2.1) r)∧Tree (cF s t2 many).1 (cF s t2 many).2.1 (cF s t2 many).2.1.d:=by
 obtain⟨d,hP⟩:=NG (X:=λr=>O r+bn (di s t) r+gG s t E r) (h.acc.mono λr=>by show O r+bn (di s t) r+gG s t E r+bn (di s t2) r≤O r+bn (di s t2) r+bn (di s t) r+gG s t E r;omega) h2 h0 h1 hz
 refine⟨d,hP,?_,hP.tree.at⟩
 have:=h.other (O':=O) (Y:=λr=>bn (im _ d _) r) hP.same.cg hP.kp hP.acc
 rw [F4 hP.tree] at this
 exact this
theorem FI.next {s:ay}{t:bf}{E:Nat→Bool}{O:Nat→Nat}(h:FI s t E O) (ht:s.cg<1000000):FI (ij s) t E O∧∀k,k<16→getM (ij s) t k=getM s t k:=by
 obtain⟨ha,hk,htx,_,_⟩:=yw h.acc ht
 have hK:=h.bZ (by rw [htx];omega) hk λr=>by show _≤O r+_+_;omega
 exact⟨⟨hK.1,hK.2.2.2.1,ha.mono λr=>by rw [hK.2.2.1,hK.2.2.2.2 r];exact ZB5 _⟩,hK.2.1⟩
end GL
namespace GL
theorem xI.kp {s u:ay}{n:fu}{X:Nat→Nat}(h:xI s n) (ht:s.cg≤u.cg) (hk:Kp X s u) (hX:∀r,bn (dz s n) r≤X r):xI u n∧dz u n=dz s n:=by
 have:=xg h.tree ht hk hX
 exact⟨⟨h.ok,this.1⟩,this.2.1⟩
structure aiv (s:ay) (t:bf) (E:Nat→Bool) (O:Nat→Nat) (i:Nat) (text:ByteArray) (u:ay) (t':bf):Prop where
 fi:FI u t' E O
 at_:getM u t' i=text
 other:∀k,k<16→k≠i→getM u t' k=getM s t k
 kp:Kp O s u
 same:dQ s u
 many:t'.many=bN t i
theorem FI.aiQ {s:ay}{t:bf}{E:Nat→Bool}{O:Nat→Nat}{i:Nat}{text:ByteArray}(h:FI s t E O) (hi:i<16) (hE:E i=true) (hz:(aY s t i text).2.2=true):aiv s t E O i text (aY s t i text).1 (aY s t i text).2.1:=by
 obtain⟨d,hP⟩:=BS (X:=λr=>O r+gG s t E r) (h.acc.mono λr=>by show O r+gG s t E r+bn (di s t) r≤O r+bn (di s t) r+gG s t E r;omega) h.tree (by omega) (by omega) hz
 generalize (aY s t i text).1=u at *
 generalize (aY s t i text).2.1=t' at *
 have htx:s.cg≤u.cg:=by rw [hP.same.cg];exact ZC1 _
 have tN:∀k,k<16→k≠i→getM u t' k=getM s t k:=λk hk fA=>by
  rw [hP.get k hk,if_neg (by rw [ZA5];exact fA)]
 have D5:∀k,k<16→E k=false→getM s t k≠⟨#[]⟩→xI u (nodeAt s t k)∧dz u (nodeAt s t k)=dz s (nodeAt s t k):=λk rK hEk fA=>by
  have hn:=(h.nodes k rK hEk).resolve_left fA
  refine hn.2.kp htx hP.kp λr=>?_
  have c1:=IA (f:=λk=>bif E k then 0 else bn (dz s (nodeAt s t k)) r) (l:=List.range 16) (ZE2.2 rK)
  have c1:(bif E k then 0 else bn (dz s (nodeAt s t k)) r)≤gG s t E r:=c1
  rw [hEk,cond_false] at c1
  show bn (dz s (nodeAt s t k)) r≤O r+_
  omega
 refine⟨⟨hP.tree.at,λk hk hEk=>?_,?_⟩,?_,tN,hP.kp.mono λr=>ZD3 _ _,hP.same,hP.many⟩
 ·have fA:k≠i:=λe=>by rw [e,hE] at hEk;cases hEk
  by_cases h0:getM s t k=⟨#[]⟩
  ·left;rw [tN k hk fA];exact h0
  ·right
   have hn:=(h.nodes k hk hEk).resolve_left h0
   unfold nodeAt
   rw [tN k hk fA]
   exact⟨hn.1,(D5 k hk hEk h0).1⟩
 ·refine hP.acc.mono λr=>?_
  have e:gG u t' E r=gG s t E r:=by
   unfold gG
   refine NX λk hk=>?_
   have hk:=ZE2.1 hk
   cases hEk:E k with
   |true=>rfl
   |false=>
    have fA:k≠i:=λe=>by rw [e,hE] at hEk;cases hEk
    simp only [cond_false]
    by_cases h0:getM s t k=⟨#[]⟩
    ·rw [jT (by rw [tN k hk fA];exact h0),jT h0]
    ·show bn (dz u (bz (getM u t' k)).1) r=_
     rw [tN k hk fA]
     show bn (dz u (nodeAt s t k)) r=_
     rw [(D5 k hk hEk h0).2]
  rw [e,F4 hP.tree]
  show O r+_+_≤O r+_+_;omega
 ·rw [hP.get i hi,if_pos (by rw [ZA5])]
abbrev vQ (E:Nat→Bool) (i:Nat):Nat→Bool:=λk=> !(decide (k=i))&&E k
theorem QI {s:ay}{t:bf}{E:Nat→Bool}{i:Nat}(hi:i<16) (hE:E i=true) (r:Nat):gG s t (vQ E i) r=gG s t E r+bn (dz s (nodeAt s t i)) r:=by
 have h:=NW (f:=λk=>bif E k then 0 else bn (dz s (nodeAt s t k)) r) (g:=λk=>bif vQ E i k then 0 else bn (dz s (nodeAt s t k)) r) (i:=i) (l:=List.range 16) List.nodup_range (ZE2.2 hi) (λk _ fA=>by
  have:vQ E i k=E k:=by unfold vQ;rw [decide_eq_false fA];rfl
  simp only [this]) (by simp only [hE,cond_true])
 have hd:vQ E i i=false:=by unfold vQ;rw [decide_eq_true rfl];rfl
 simp only [hd,cond_false] at h
 exact h
theorem FI.back {s:ay}{t:bf}{E:Nat→Bool}{O:Nat→Nat}{i:Nat}{n:fu}(h:FI s t E (λr=>O r+bn (dz s n) r)) (hi:i<16) (hE:E i=true) (hg:bz (getM s t i)=(n,true)) (hn:xI s n):FI s t (vQ E i) O:=by
 have hna:nodeAt s t i=n:=by show (bz (getM s t i)).1=n;rw [hg]
 refine⟨h.tree,λk hk hEk=>?_,h.acc.mono λr=>?_⟩
 ·by_cases e:k=i
  ·subst e;right;rw [hna,hg];exact⟨rfl,hn⟩
  ·refine h.nodes k hk ?_
   have:vQ E i k=E k:=by unfold vQ;rw [decide_eq_false e];rfl
   rw [←this];exact hEk
 ·rw [QI hi hE,hna]
  show O r+_+_≤O r+_+_+_;omega
theorem FI.ag5 {s:ay}{t:bf}{E:Nat→Bool}{O:Nat→Nat}{i:Nat}(h:FI s t E O) (hi:i<16) (hE:E i=true) (hg:getM s t i=⟨#[]⟩):FI s t (vQ E i) O:=by
 refine⟨h.tree,λk hk hEk=>?_,h.acc.mono λr=>?_⟩
 ·by_cases e:k=i
  ·subst e;left;exact hg
  ·refine h.nodes k hk ?_
   have:vQ E i k=E k:=by unfold vQ;rw [decide_eq_false e];rfl
   rw [←this];exact hEk
 ·rw [QI hi hE,jT hg]
  show O r+bn (di s t) r+(gG s t E r+0)≤O r+bn (di s t) r+gG s t E r;omega
theorem aap {E:Nat→Bool}{i:Nat}(h:E i=false):vQ (rQ E i) i=E:=by
 funext k
 unfold vQ rQ
 by_cases e:k=i
 ·subst e;rw [decide_eq_true rfl,h];rfl
 ·rw [decide_eq_false e];rfl
theorem FI.Y1 {s:ay}{t:bf}{E:Nat→Bool}{O:Nat→Nat}{i:Nat}{n:fu}(h:FI s t E (λr=>O r+bn (dz s n) r)) (hi:i<16) (hE:E i=true) (hn:cy n=true→xI s n) (hz:(aY s t i (aC n)).2.2=true):
  FI (aY s t i (aC n)).1 (aY s t i (aC n)).2.1 (vQ E i) O∧aiv s t E O i (aC n) (aY s t i (aC n)).1 (aY s t i (aC n)).2.1:=by
 have hP:=h.aiQ (text:=aC n) hi hE hz
 have hP0:aiv s t E O i (aC n) (aY s t i (aC n)).1 (aY s t i (aC n)).2.1:=⟨hP.fi.more λr=>ZD3 _ _,hP.at_,hP.other,hP.kp.mono λr=>ZD3 _ _,hP.same,hP.many⟩
 refine⟨?_,hP0⟩
 cases ho:cy n with
 |false=>
  have he:aC n=⟨#[]⟩:=by unfold aC;rw [ho];rfl
  exact hP0.fi.ag5 hi hE (by rw [hP.at_,he])
 |true=>
  have hk:=(hn ho).kp (u:=(aY s t i (aC n)).1) (by rw [hP.same.cg];exact ZC1 _) hP.kp λr=>Nat.le_add_left _ _
  refine (hP.fi.more λr=>?_).back (n:=n) hi hE (by rw [hP.at_];exact tB ho) hk.1
  rw [hk.2];exact ZB5 _
end GL
namespace GL
def iW:List ByteArray→Nat→ay→bf→ay×bf×Bool
 |[],_,s,t=>(s,t,true)
 |x::l,i,s,t=>bif !(aY s t i x).2.2 then ((aY s t i x).1,t,false) else iW l (i+1) (aY s t i x).1 (aY s t i x).2.1
theorem OB {x:ByteArray}{l:List ByteArray}{i:Nat}{s:ay}{t:bf}(h:(aY s t i x).2.2=false):iW (x::l) i s t=((aY s t i x).1,t,false):=by rw [iW,h];rfl
theorem OA {x:ByteArray}{l:List ByteArray}{i:Nat}{s:ay}{t:bf}(h:(aY s t i x).2.2=true):iW (x::l) i s t=iW l (i+1) (aY s t i x).1 (aY s t i x).2.1:=by rw [iW,h];rfl
def KB (r:ay×bf×Bool) (n:Int):ay×bf×Bool:=bif !r.2.2 then r else cF r.1 r.2.1 n
def dG (s:ay) (t:bf) (text:ByteArray):ay×bf×Bool:=bif decide (((kC text).length:Int)>16) then (s,t,false) else KB (iW (kC text) 0 s t) (kC text).length
theorem RL:∀{l:List ByteArray}{i:Nat}{s:ay}{t:bf}{n:Nat},s.wg n→t.ok→i+l.length≤16→(iW l i s t).1.wg (n+6*l.length)∧(iW l i s t).2.1.ok
 |[],i,s,t,n,hs,ht,_=>⟨hs,ht⟩
 |x::l,i,s,t,n,hs,ht,hi=>by
  rw [ZA1] at hi
  have h:=nq (k:=(i:Int)) (text:=x) hs ht (by omega) (by omega)
  cases hz:(aY s t i x).2.2 with
  |false=>rw [OB hz];exact⟨h.1.mono (by rw [ZA1];omega),ht⟩
  |true=>
   rw [OA hz]
   have h2:=RL (l:=l) (i:=i+1) h.1 h.2.1 (by omega)
   exact⟨h2.1.mono (by rw [ZA1];omega),h2.2⟩
theorem UJ {s:ay}{t:bf}{text:ByteArray}{n:Nat}(hs:s.wg n) (ht:t.ok):(dG s t text).1.wg (n+117)∧(dG s t text).2.1.ok:=by
 unfold dG
 cases h:decide (((kC text).length:Int)>16) with
 |true=>exact⟨hs.mono (by omega),ht⟩
 |false=>
  have hl:=aA h
  have h1:=RL (l:=kC text) (i:=0) hs ht (by omega)
  show (KB (iW (kC text) 0 s t) (kC text).length).1.wg (n+117)∧(KB (iW (kC text) 0 s t) (kC text).length).2.1.ok
  unfold KB
  cases !(iW (kC text) 0 s t).2.2 with
  |true=>exact⟨h1.1.mono (by omega),h1.2⟩
  |false=>
   have h2:=FR (many:=((kC text).length:Int)) h1.1 h1.2 (by omega) (by omega)
   exact⟨h2.1.mono (by omega),h2.2.1⟩
theorem Y3:∀{f:Nat}{s:ByteArray},s.size<f→(pcF f s).length=(s.size+127) / 128
 |f+1,s,h=>by
  cases h1:decide ((s.size:Int)>128) with
  |true=>
   have h2:=aJ h1
   have hx:(s.extract 128 s.size).size=s.size-128:=by rw [ZC5];omega
   rw [acV h1,ZA1,Y3 (by omega),hx];omega
  |false=>
   have h2:=aA h1
   cases h3:decide (s≠⟨#[]⟩) with
   |true=>
    have:=size_pos (aJ h3)
    rw [acU h1 h3,ZA1,ZA4];omega
   |false=>
    have h4:s=⟨#[]⟩:=ZE9.1 (aA h3)
    rw [acT h1 h3,h4];rfl
theorem Y2 (s:ByteArray):(kC s).length=(s.size+127) / 128:=Y3 (ZD9 _)
structure kx (s:ay) (t:bf) (E:Nat→Bool) (O:Nat→Nat) (u:ay) (t2:bf):Prop where
 fi:FI u t E (λr=>O r+bn (di u t2) r)
 tree:Tree u t2 t2.d
 get:∀k,k<16→getM u t k=getM s t k
 same:dQ s u
theorem kx.trans {s u v:ay}{t:bf}{E:Nat→Bool}{O:Nat→Nat}{t2 t3:bf}(h:kx s t E O u t2) (h2:kx u t E O v t3):kx s t E O v t3:=
 ⟨h2.fi,h2.tree,λk hk=>(h2.get k hk).trans (h.get k hk),h.same.trans h2.same⟩
theorem kx.put {s u:ay}{t:bf}{E:Nat→Bool}{O:Nat→Nat}{t2:bf}{k:Int}{text:ByteArray}(h:kx s t E O u t2) (hk0:0≤k) (hk:k≤15) (hz:(aY u t2 k text).2.2=true):kx s t E O (aY u t2 k text).1 (aY u t2 k text).2.1∧(aY u t2 k text).2.1.many=bN t2 k:=by
 obtain⟨d,hP,h1,h2⟩:=h.fi.akD h.tree hk0 hk hz
 have hK:=h.fi.bZ (by rw [hP.same.cg];exact ZC1 _) hP.kp λr=>by show _≤O r+_+_;omega
 exact⟨⟨h1,h2,λj hj=>(hK.2.1 j hj).trans (h.get j hj),h.same.trans hP.same⟩,hP.many⟩
theorem kx.cut {s u:ay}{t:bf}{E:Nat→Bool}{O:Nat→Nat}{t2:bf}{many:Int}(h:kx s t E O u t2) (h0:0≤many) (h1:many≤16) (hz:(cF u t2 many).2.2=true):kx s t E O (cF u t2 many).1 (cF u t2 many).2.1∧(cF u t2 many).2.1.many=many:=by
 obtain⟨d,hP,h3,h2⟩:=h.fi.als h.tree h0 h1 hz
 have hK:=h.fi.bZ (by rw [hP.same.cg];exact ZC1 _) hP.kp λr=>by show _≤O r+_+_;omega
 exact⟨⟨h3,h2,λj hj=>(hK.2.1 j hj).trans (h.get j hj),h.same.trans hP.same⟩,hP.many⟩
theorem kx.aiP {s:ay}{t:bf}{E:Nat→Bool}{O:Nat→Nat}:∀{l:List ByteArray}{i:Nat}{u:ay}{t2:bf},kx s t E O u t2→i+l.length≤16→(iW l i u t2).2.2=true→kx s t E O (iW l i u t2).1 (iW l i u t2).2.1
 |[],i,u,t2,h,_,_=>h
 |x::l,i,u,t2,h,hi,hz=>by
  rw [ZA1] at hi
  cases hx:(aY u t2 i x).2.2 with
  |false=>rw [OB hx] at hz;cases hz
  |true=>
   rw [OA hx] at hz ⊢
   exact kx.aiP (h.put (by omega) (by omega) hx).1 (by omega) hz
theorem kx.alv {s u:ay}{t:bf}{E:Nat→Bool}{O:Nat→Nat}{t2:bf}{text:ByteArray}(h:kx s t E O u t2) (hz:(dG u t2 text).2.2=true):kx s t E O (dG u t2 text).1 (dG u t2 text).2.1∧(dG u t2 text).2.1.many=((kC text).length:Int):=by
 unfold dG at hz ⊢
 cases hg:decide (((kC text).length:Int)>16) with
 |true=>rw [hg] at hz;cases hz
 |false=>
  rw [hg] at hz
  have hl:=aA hg
  simp only [cond_false] at hz ⊢
  unfold KB at hz ⊢
  cases h1:(iW (kC text) 0 u t2).2.2 with
  |false=>rw [h1] at hz;simp only [Bool.not_false,cond_true] at hz;rw [h1] at hz;cases hz
  |true=>
   rw [h1] at hz
   simp only [Bool.not_true,cond_false] at hz ⊢
   exact (h.aiP (by omega) h1).cut (by omega) (by omega) hz
theorem NP (s:ay):Tree s ny 0:=by
 have h:oJ s ny 0:=⟨rfl,ZA7 _,ku s 0⟩
 refine⟨h,ZC1 _,by decide,by decide,λi _=>?_⟩
 rw [mA h]
 show au (nth ae (bM::cu 15) i)=true
 rw [show (bM::cu 15)=cu 16 from rfl,CE];rfl
theorem rv.level {s:ay}{n:Nat}{p:Pt}(h:rv s n p):au p=true∨p.2.2.2.2=(n:Int):=by
 cases hh:au p with
 |true=>exact .inl rfl
 |false=>
  right
  cases n with
  |zero=>exact (h.2 hh).1
  |succ n=>exact (oq hh (h.2.1 hh)).2.1
abbrev kb (n:fu) (sz:Int) (t:bf):fu:=(n.1,n.2.1,sz,t)
theorem abB {n:fu}{u:ay}{t:bf}{sz:Int}(hn:cy n=true) (dj:0≤sz∧sz≤16*ko n.1) (ht:Tree u t t.d) (hm:t.many=bh sz (ko n.1)):cy (kb n sz t)=true:=by
 obtain⟨b1,b2,b3,b4,b5,b6,b7,b8,b9⟩:=lh hn
 have he:ko n.1≠0:=by
  intro e
  have:bH n.1 n.2.2.1= -1:=by unfold bH;rw [e];rfl
  omega
 have hp:bH n.1 sz=t.many:=by
  unfold bH
  rw [decide_eq_false he,show ik sz 0 (16*ko n.1)=true from cC.2 dj,hm];rfl
 have hl:ik n.2.1 1 (bif decide (n.1=2) then 1 else 9)=true:=by
  unfold cy at hn
  cases hb:decide (bH n.1 n.2.2.1<0)||(decide (n.2.2.2.2.2.2.2.2.2≠bH n.1 n.2.2.1)||(decide (n.2.2.2.2.2.2.2.2.1≠bj (bH n.1 n.2.2.1))|| !(aZ n.root))) with
  |true=>rw [hb] at hn;cases hn
  |false=>
   rw [hb,cond_false] at hn
   simp only [ZA9] at hn
   exact hn.1
 have h0:=ht.m0
 have hd:t.depth=bj t.many:=by rw [ht.dm];exact ht.rz.dep
 have FK:=ht.rz.snd.level
 have hdd:=ht.rz.dep
 unfold cy
 have e1:decide (bH (kb n sz t).1 (kb n sz t).2.2.1<0)=false:=by
  show decide (bH n.1 sz<0)=false
  rw [hp];exact decide_eq_false (by omega)
 have e2:decide ((kb n sz t).2.2.2.2.2.2.2.2.2≠bH (kb n sz t).1 (kb n sz t).2.2.1)=false:=by
  show decide (t.many≠bH n.1 sz)=false
  rw [hp];exact decide_eq_false (by simp)
 have e3:decide ((kb n sz t).2.2.2.2.2.2.2.2.1≠bj (bH (kb n sz t).1 (kb n sz t).2.2.1))=false:=by
  show decide (t.depth≠bj (bH n.1 sz))=false
  rw [hp,hd];exact decide_eq_false (by simp)
 have e4:aZ (kb n sz t).root=true:=ht.rz.snd.pok
 rw [e1,e2,e3,e4]
 show (ik n.2.1 1 (bif decide (n.1=2) then 1 else 9)&&(au t.root||decide (t.root.2.2.2.2=t.depth)))=true
 rw [hl,Bool.true_and]
 rcases FK with h |h
 ·rw [h];rfl
 ·rw [decide_eq_true (by rw [h,hdd]),ZC4]
abbrev E0:Nat→Bool:=λ_=>false
abbrev O0:Nat→Nat:=λ_=>0
structure FS (s:ay) (t:bf):Prop where
 fi:FI s t E0 O0
 root:(nodeAt s t 0).1=2
theorem FS.cK {s:ay}{t:bf}(h:FS s t) {k:Int}(h0:0≤k):GL.cK s t k=bz (getM s t k.toNat):=by
 cases hc: !(ik k 0 (t.many-1)) with
 |false=>exact aes hc
 |true=>
  have h1:¬(0≤k∧k≤t.many-1):=λe=>by
   have:ik k 0 (t.many-1)=true:=cC.2 e
   rw [this] at hc;cases hc
  rw [aet hc,mW h.fi.tree (j:=k.toNat) (by omega),fH]
theorem WX {s:ByteArray}(h:(bz s).2=true):cy (bz s).1=true:=by
 cases h1: !(bq s).2 with
 |true=>rw [yu h1] at h;cases h
 |false=>cases h2:decide (((bq s).1.length:Int)≠7) with
  |true=>rw [tC h2] at h;cases h
  |false=>cases h3: !(cy (mS (bq s).1)) with
   |true=>rw [yt h3] at h;cases h
   |false=>cases h4:decide (aC (mS (bq s).1)≠s) with
    |true=>rw [yr h4] at h;cases h
    |false=>rw [yv h1 h2 h3 h4];exact cL h3
theorem WY {s:ByteArray}(h:(bz s).2=false):(bz s).1=nz:=by
 cases h1: !(bq s).2 with
 |true=>rw [yu h1]
 |false=>cases h2:decide (((bq s).1.length:Int)≠7) with
  |true=>rw [tC h2]
  |false=>cases h3: !(cy (mS (bq s).1)) with
   |true=>rw [yt h3]
   |false=>cases h4:decide (aC (mS (bq s).1)≠s) with
    |true=>rw [yr h4]
    |false=>rw [yv h1 h2 h3 h4] at h;cases h
theorem FS.at {s:ay}{t:bf}(h:FS s t) {i:Nat}(hi:i<16):Tree s (cT (nodeAt s t i)) (cT (nodeAt s t i)).d∧(cy (nodeAt s t i)=true∨nodeAt s t i=nz):=by
 rcases h.fi.nodes i hi rfl with h1 |h1
 ·have e:nodeAt s t i=nz:=by show (bz (getM s t i)).1=_;rw [h1,fH]
  rw [e]
  exact⟨NP s,.inr rfl⟩
 ·exact⟨h1.2.tree,.inl h1.2.ok⟩
theorem FS.take {s:ay}{t:bf}(h:FS s t) {i:Nat}(hi:i<16):kx s t (rQ E0 i) O0 s (cT (nodeAt s t i)):=
 ⟨h.fi.take hi rfl,(h.at hi).1,λ_ _=>rfl,dQ.refl _⟩
theorem FS.back {s u:ay}{t:bf}{i:Nat}{n:fu}(h:FS s t) (hi:i<16) (hB:kx s t (rQ E0 i) O0 u (cT n)) (hr:i=0→cy n=true∧n.1=2) (hz:(aY u t i (aC n)).2.2=true):
  FS (aY u t i (aC n)).1 (aY u t i (aC n)).2.1∧(∀k,k<16→k≠i→getM (aY u t i (aC n)).1 (aY u t i (aC n)).2.1 k=getM s t k)∧dQ s (aY u t i (aC n)).1:=by
 have hE:rQ E0 i i=true:=by unfold rQ;rw [decide_eq_true rfl];rfl
 have h1:=hB.fi.Y1 (n:=n) hi hE (λho=>⟨ho,hB.tree⟩) hz
 have hg:∀k,k<16→k≠i→getM (aY u t i (aC n)).1 (aY u t i (aC n)).2.1 k=getM s t k:=λk hk fA=>(h1.2.other k hk fA).trans (hB.get k hk)
 have hf:=h1.1
 rw [aap (show E0 i=false from rfl)] at hf
 refine⟨⟨hf,?_⟩,hg,hB.same.trans h1.2.same⟩
 show (bz (getM _ _ 0)).1.1=2
 by_cases e:i=0
 ·obtain⟨ho,h2⟩:=hr e
  subst e
  rw [h1.2.at_,tB ho];exact h2
 ·rw [hg 0 (by omega) (λh=>e h.symm)];exact h.root
theorem FS.write {s:ay}{t:bf}{i:Nat}{text:ByteArray}(h:FS s t) (hi:i<16) (hb:(dG s (cT (nodeAt s t i)) text).2.2=true)
  (hz:(aY (dG s (cT (nodeAt s t i)) text).1 t i (aC (kb (nodeAt s t i) text.size (dG s (cT (nodeAt s t i)) text).2.1))).2.2=true):
  FS (aY (dG s (cT (nodeAt s t i)) text).1 t i (aC (kb (nodeAt s t i) text.size (dG s (cT (nodeAt s t i)) text).2.1))).1 (aY (dG s (cT (nodeAt s t i)) text).1 t i (aC (kb (nodeAt s t i) text.size (dG s (cT (nodeAt s t i)) text).2.1))).2.1∧
  (∀k,k<16→k≠i→getM (aY (dG s (cT (nodeAt s t i)) text).1 t i (aC (kb (nodeAt s t i) text.size (dG s (cT (nodeAt s t i)) text).2.1))).1 (aY (dG s (cT (nodeAt s t i)) text).1 t i (aC (kb (nodeAt s t i) text.size (dG s (cT (nodeAt s t i)) text).2.1))).2.1 k=getM s t k)∧
  dQ s (aY (dG s (cT (nodeAt s t i)) text).1 t i (aC (kb (nodeAt s t i) text.size (dG s (cT (nodeAt s t i)) text).2.1))).1:=by
 have hB:=(h.take hi).alv hb
 have hl:((kC text).length:Int)≤16:=by rw [←hB.2];exact hB.1.tree.m1
 refine h.back hi (n:=kb (nodeAt s t i) text.size (dG s (cT (nodeAt s t i)) text).2.1) hB.1 (λe=>?_) hz
 subst e
 have h2:(nodeAt s t 0).1=2:=h.root
 have cG:cy (nodeAt s t 0)=true:=by
  rcases (h.at hi).2 with h3 |h3
  ·exact h3
  ·rw [h3] at h2;exact absurd h2 (by decide)
 refine⟨abB cG ?_ hB.1.tree ?_,h2⟩
 ·rw [h2];have:=Y2 text;show 0≤(text.size:Int)∧(text.size:Int)≤16*128;omega
 ·rw [hB.2,h2,Y2];show _=((text.size:Int)+128-1) / 128;omega
theorem FS.make {s:ay}{t:bf}{i:Nat}{kind:Int}(h:FS s t) (hi:i<16) (h0:getM s t i=⟨#[]⟩) (hz:(aY s t i (aC (kind,1,0,ny))).2.2=true):
  FS (aY s t i (aC (kind,1,0,ny))).1 (aY s t i (aC (kind,1,0,ny))).2.1∧(∀k,k<16→k≠i→getM (aY s t i (aC (kind,1,0,ny))).1 (aY s t i (aC (kind,1,0,ny))).2.1 k=getM s t k)∧dQ s (aY s t i (aC (kind,1,0,ny))).1:=by
 have e:nodeAt s t i=nz:=by show (bz (getM s t i)).1=_;rw [h0,fH]
 have hB:=h.take hi
 rw [e] at hB
 refine h.back hi (n:=(kind,1,0,ny)) hB (λe0=>?_) hz
 subst e0
 have:=h.root
 rw [e] at this;exact absurd this (by decide)
theorem FS.adG {s:ay}{t:bf}{i:Nat}{l:Int}(h:FS s t) (hi:i<16) (hi0:0<i)
  (hz:(aY s t i (aC ((nodeAt s t i).1,l,(nodeAt s t i).2.2))).2.2=true):
  FS (aY s t i (aC ((nodeAt s t i).1,l,(nodeAt s t i).2.2))).1 (aY s t i (aC ((nodeAt s t i).1,l,(nodeAt s t i).2.2))).2.1∧(∀k,k<16→k≠i→getM (aY s t i (aC ((nodeAt s t i).1,l,(nodeAt s t i).2.2))).1 (aY s t i (aC ((nodeAt s t i).1,l,(nodeAt s t i).2.2))).2.1 k=getM s t k)∧dQ s (aY s t i (aC ((nodeAt s t i).1,l,(nodeAt s t i).2.2))).1:=
 h.back hi (n:=((nodeAt s t i).1,l,(nodeAt s t i).2.2)) (h.take hi) (λe=>absurd e (by omega)) hz
theorem FI.ah2 {s:ay}{t:bf}{many:Int}(h:FI s t E0 O0) (h0:0≤many) (h1:many≤16) (uH:∀k:Nat,k<16→many≤(k:Int)→getM s t k=⟨#[]⟩) (hz:(cF s t many).2.2=true):
  FI (cF s t many).1 (cF s t many).2.1 E0 O0∧(∀k,k<16→getM (cF s t many).1 (cF s t many).2.1 k=getM s t k)∧dQ s (cF s t many).1:=by
 obtain⟨d,hP⟩:=NG (X:=λr=>gG s t E0 r) (h.acc.mono λr=>by show gG s t E0 r+bn (di s t) r≤0+bn (di s t) r+gG s t E0 r;omega) h.tree h0 h1 hz
 generalize (cF s t many).1=u at *
 generalize (cF s t many).2.1=t' at *
 have hg:∀k,k<16→getM u t' k=getM s t k:=λk hk=>by
  rw [hP.get k hk]
  split
  ·rfl
  ·rename_i hc;exact (uH k hk (by omega)).symm
 have D5:∀k,k<16→getM s t k≠⟨#[]⟩→xI u (nodeAt s t k)∧dz u (nodeAt s t k)=dz s (nodeAt s t k):=λk rK fA=>by
  have hn:=(h.nodes k rK rfl).resolve_left fA
  refine hn.2.kp (by rw [hP.same.cg];exact ZC1 _) hP.kp λr=>?_
  exact IA (f:=λk=>bif E0 k then 0 else bn (dz s (nodeAt s t k)) r) (l:=List.range 16) (ZE2.2 rK)
 refine⟨⟨hP.tree.at,λk hk _=>?_,hP.acc.mono λr=>?_⟩,hg,hP.same⟩
 ·by_cases h2:getM s t k=⟨#[]⟩
  ·left;rw [hg k hk];exact h2
  ·right
   have hn:=(h.nodes k hk rfl).resolve_left h2
   unfold nodeAt
   rw [hg k hk]
   exact⟨hn.1,(D5 k hk h2).1⟩
 ·have e:gG u t' E0 r=gG s t E0 r:=by
   unfold gG
   refine NX λk hk=>?_
   have hk:=ZE2.1 hk
   show bn (dz u (bz (getM u t' k)).1) r=bn (dz s (nodeAt s t k)) r
   rw [hg k hk]
   by_cases h2:getM s t k=⟨#[]⟩
   ·rw [show (bz (getM s t k)).1=nz by rw [h2,fH],show nodeAt s t k=nz by show (bz (getM s t k)).1=_;rw [h2,fH]]
    rfl
   ·show bn (dz u (nodeAt s t k)) r=_
    rw [(D5 k hk h2).2]
  rw [e,F4 hP.tree]
  show 0+_+_≤_;omega
theorem FI.ajF {s:ay}{t:bf}{E:Nat→Bool}{l:List Pt}(h:FI s t E (λr=>0+bn l r)) (hl:∀p∈l,aZ p=true):FI (dx l s) t E O0∧(∀k,k<16→getM (dx l s) t k=getM s t k)∧dQ s (dx l s):=by
 rw [vG]
 obtain⟨h1,h2,h3⟩:=yM (l:=l) (O':=λr=>bn (di s t) r+gG s t E r) h.acc hl λr=>by show _≤0+bn l r+_+_;omega
 have hK:=h.bZ (by rw [h3.cg];exact ZC1 _) h2 λr=>ZB5 _
 refine⟨⟨hK.1,hK.2.2.2.1,h1.mono λr=>?_⟩,hK.2.1,h3⟩
 rw [hK.2.2.1,hK.2.2.2.2 r];show 0+_+_≤_;omega
theorem YP {s:ay}:∀{n:Nat}{p:Pt},rv s n p→∀q∈im s n p,aZ q=true
 |0,p,h,q,hq=>by rw [ZC7.1 hq];exact h.1
 |n+1,p,h,q,hq=>by
  rcases ZB8.1 hq with rfl |hq
  ·exact h.1
  ·obtain⟨x,hx,hq⟩:=List.mem_flatMap.1 hq
   exact YP (h.2.2 x hx) q hq
def cq (s:ay) (t:bf) (k:Int):ay×bf×Bool:=
 bif !(aY (dx (allM s (cT (cK s t k).1)) s) t k ⟨#[]⟩).2.2 then ((aY (dx (allM s (cT (cK s t k).1)) s) t k ⟨#[]⟩).1,(aY (dx (allM s (cT (cK s t k).1)) s) t k ⟨#[]⟩).2.1,false)
 else cF (aY (dx (allM s (cT (cK s t k).1)) s) t k ⟨#[]⟩).1 (aY (dx (allM s (cT (cK s t k).1)) s) t k ⟨#[]⟩).2.1 (mx s t k)
theorem zG (mh:Int):∀{l:List ByteArray}{k:Nat}{n:Int},0≤n→n≤k→0≤iY mh l k n∧n≤iY mh l k n∧iY mh l k n≤k+l.length
 |[],k,n,h0,h1=>⟨h0,ZC1 _,by show n≤(k:Int)+((0:Nat):Int);omega⟩
 |x::l,k,n,h0,h1=>by
  unfold iY
  cases decide ((k:Int)≠mh)&&decide (x≠⟨#[]⟩) with
  |true=>
   have:=zG mh (l:=l) (k:=k+1) (n:=(k:Int)+1) (by omega) (by omega)
   rw [ZA1];exact⟨this.1,by have:=this.2.1;show n≤iY mh l (k+1) ((k:Int)+1);omega,by have:=this.2.2;show iY mh l (k+1) ((k:Int)+1)≤_;omega⟩
  |false=>
   have:=zG mh (l:=l) (k:=k+1) (n:=n) (by omega) (by omega)
   rw [ZA1];exact⟨this.1,by have:=this.2.1;show n≤iY mh l (k+1) n;omega,by have:=this.2.2;show iY mh l (k+1) n≤_;omega⟩
theorem ID (mh:Int):∀{l:List ByteArray}{k:Nat}{n:Int},0≤n→n≤k→∀j,j<l.length→((k+j:Nat):Int)≠mh→nth ab l j≠⟨#[]⟩→((k+j:Nat):Int)<iY mh l k n
 |x::l,k,n,h0,h1,j,hj,hb,hx=>by
  unfold iY
  cases j with
  |zero=>
   have hx:x≠⟨#[]⟩:=hx
   have hb:(k:Int)≠mh:=hb
   rw [decide_eq_true hx,decide_eq_true hb]
   have:=zG mh (l:=l) (k:=k+1) (n:=(k:Int)+1) (by omega) (by omega)
   show ((k+0:Nat):Int)<iY mh l (k+1) ((k:Int)+1);omega
  |succ j=>
   have hj:j<l.length:=by rw [ZA1] at hj;omega
   have hx:nth ab l j≠⟨#[]⟩:=hx
   have e:k+(j+1)=k+1+j:=by omega
   rw [e] at hb ⊢
   cases decide ((k:Int)≠mh)&&decide (x≠⟨#[]⟩) with
   |true=>exact ID mh (l:=l) (k:=k+1) (n:=(k:Int)+1) (by omega) (by omega) j hj hb hx
   |false=>exact ID mh (l:=l) (k:=k+1) (n:=n) (by omega) (by omega) j hj hb hx
theorem IC {s:ay}{t:bf}(h:t.ok) (mh:Int):0≤mx s t mh∧mx s t mh≤t.many:=by
 have h1:=zG mh (l:=bo s t) (k:=0) (n:=0) (ZC1 _) (ZC1 _)
 rw [fq h] at h1
 have:=h.m0
 exact⟨h1.1,by have:=h1.2.2;unfold mx;omega⟩
theorem adL {s:ay}{t:bf}(h:Tree s t t.d) {mh:Int}{j:Nat}(hj:(j:Int)≠mh) (hx:getM s t j≠⟨#[]⟩):(j:Int)<mx s t mh:=by
 have cG:=h.ok
 have hm:j<t.many.toNat:=by
  refine Decidable.byContradiction λhn=>hx (mW h (by have:=h.m0;omega))
 have:=ID mh (l:=bo s t) (k:=0) (n:=0) (ZC1 _) (ZC1 _) j (by rw [fq cG];exact hm) (by rw [ZA6];exact hj) (by rw [xO cG hm];exact hx)
 rw [ZA6] at this;exact this
theorem FS.drop {s:ay}{t:bf}{i:Nat}(h:FS s t) (hi:i<16) (hi0:0<i) (hz:(cq s t i).2.2=true):FS (cq s t i).1 (cq s t i).2.1∧dQ s (cq s t i).1:=by
 have hn:(GL.cK s t i).1=nodeAt s t i:=by rw [h.cK (by omega)];rfl
 have hB:=h.take hi
 have uH:=UN hB.tree.rz
 have ke:=(hB.fi.more (O':=λr=>0+bn (allM s (cT (nodeAt s t i))) r) λr=>by
  rw [uH.2]
  have:=X4 nhB (dz s (nodeAt s t i)) r
  show 0+bn (List.filter nhB (dz s (nodeAt s t i))) r≤0+bn (dz s (nodeAt s t i)) r;omega).ajF λp hp=>by
   rw [uH.2] at hp
   exact YP hB.tree.rz.snd p ((ZF4.1 hp).1)
 unfold cq at hz ⊢
 rw [hn] at hz ⊢
 generalize dx (allM s (cT (nodeAt s t i))) s=u at *
 cases hp:(aY u t i ⟨#[]⟩).2.2 with
 |false=>rw [hp] at hz;cases hz
 |true=>
  rw [hp] at hz
  simp only [Bool.not_true,cond_false] at hz ⊢
  have hE:rQ E0 i i=true:=by unfold rQ;rw [decide_eq_true rfl];rfl
  have hP:=ke.1.aiQ (i:=i) (text:=⟨#[]⟩) hi hE hp
  have hF:=hP.fi.ag5 hi hE hP.at_
  rw [aap (show E0 i=false from rfl)] at hF
  have hl:=IC (s:=s) h.fi.tree.ok i
  have EW:=h.fi.tree.m1
  have hg:∀k,k<16→k≠i→getM (aY u t i ⟨#[]⟩).1 (aY u t i ⟨#[]⟩).2.1 k=getM s t k:=λk hk fA=>(hP.other k hk fA).trans (ke.2.1 k hk)
  have hc:=hF.ah2 (many:=mx s t i) hl.1 (by omega) (λk hk hlk=>by
   by_cases e:k=i
   ·rw [e];exact hP.at_
   ·rw [hg k hk e]
    refine Decidable.byContradiction λhx=>?_
    have:=adL h.fi.tree (mh:=(i:Int)) (j:=k) (by omega) hx
    omega) hz
  refine⟨⟨hc.1,?_⟩,(ke.2.2.trans hP.same).trans hc.2.2⟩
  show (bz (getM _ _ 0)).1.1=2
  rw [hc.2.1 0 (by omega),hg 0 (by omega) (by omega)];exact h.root
theorem FS.next {s:ay}{t:bf}(h:FS s t) (ht:s.cg<1000000):FS (ij s) t:=by
 obtain⟨h1,h2⟩:=h.fi.next ht
 refine⟨h1,?_⟩
 show (bz (getM _ _ 0)).1.1=2
 rw [h2 0 (by omega)];exact h.root
theorem FS.many {s:ay}{t:bf}(h:FS s t):1≤t.many:=by
 refine Decidable.byContradiction λhn=>?_
 have e:=mW h.fi.tree (j:=0) (by omega)
 have:=h.root
 unfold nodeAt at this
 rw [e,fH] at this
 exact absurd this (by decide)
