/- A drawn law returns true for every code (its row lists package variables, tied by the card): part 27. -/
import Derived.Test.YtnkbdhldiinfdaaGreatDoorPau
import Derived.Test.YtnkbdhldiinfdaaGreatDoorPaz
set_option maxHeartbeats 20000000
set_option maxRecDepth 100000
set_option linter.all false
namespace Go.Proofs.YtnkbdhldiinfdaaGreatDoor
namespace GL
abbrev lz (s:ay) (n:Nat) (p:Pt):List Pt:=(bg s p ((((n+1):Nat):Int))).1
def rv (s:ay):Nat→Pt→Prop
 |0,p=>aZ p=true∧(au p=false→p.2.2.2.2=0∧p.2.1≤s.cg∧(bF s p).2=true)
 |n+1,p=>aZ p=true∧(au p=false→(bg s p ((((n+1):Nat):Int))).2=true)∧∀q∈lz s n p,rv s n q
def im (s:ay):Nat→Pt→List Pt
 |0,p=>[p]
 |n+1,p=>p::(lz s n p).flatMap (im s n)
def xj (s:ay):Nat→Pt→List Pt
 |0,p=>[p]
 |n+1,p=>(lz s n p).flatMap (xj s n)
def uJ (s:ay):Nat→Pt→List Pt
 |0,_=>[]
 |n+1,p=>p::(lz s n p).flatMap (uJ s n)
theorem vR {f g h:Pt→List Pt}{r:Nat}:∀{l:List Pt},(∀q∈l,bn (f q) r=bn (g q) r+bn (h q) r)→bn (l.flatMap f) r=bn (l.flatMap g) r+bn (l.flatMap h) r
 |[],_=>rfl
 |q::l,hq=>by
  simp only [ZD5,bI]
  have h1:=hq q (by simp)
  have h2:=vR (l:=l) (fun q h=>hq q (by simp [h]))
  omega
theorem fZ {f:Pt→List Pt}{r:Nat}{q:Pt}:∀{l:List Pt},q∈l→bn (f q) r≤bn (l.flatMap f) r
 |p::l,hq=>by
  simp only [ZD5,bI]
  rcases ZB8.1 hq with rfl |hq
  ·omega
  ·have:=fZ (f:=f) (r:=r) hq;omega
theorem jA {f g:Pt→List Pt}:∀{l:List Pt},(∀q∈l,f q=g q)→l.flatMap f=l.flatMap g
 |[],_=>rfl
 |q::l,h=>by
  simp only [ZD5]
  rw [h q (by simp),jA (l:=l) fun q hq=>h q (by simp [hq])]
theorem mB (s:ay) (r:Nat):∀(n:Nat) (p:Pt),bn (im s n p) r=bn (uJ s n p) r+bn (xj s n p) r
 |0,p=>by show bn [p] r=bn [] r+bn [p] r;rw [rq];omega
 |n+1,p=>by
  show bn (p::(lz s n p).flatMap (im s n)) r=bn (p::(lz s n p).flatMap (uJ s n)) r+bn ((lz s n p).flatMap (xj s n)) r
  rw [dP,dP p ((lz s n p).flatMap (uJ s n))]
  have:=vR (f:=im s n) (g:=uJ s n) (h:=xj s n) (r:=r) (l:=lz s n p) fun q _=>mB s r n q
  omega
theorem ot {s:ay}{n:Nat}{p:Pt}(h:au p=true):lz s n p=cu 4:=by show (bg s p _).1=_;rw [kt h]
theorem oq {s:ay}{p:Pt}{lv:Int}(h:au p=false) (h2:(bg s p lv).2=true):aZ p=true∧p.2.2.2.2=lv∧p.2.1≤s.cg∧(bF s p).2=true∧bg s p lv=bl (bF s p).1∧(bl (bF s p).1).2=true∧(bl (bF s p).1).1.any (late p)=false:=by
 cases h1: !(aZ p) with
 |true=>rw [KC h h1] at h2;cases h2
 |false=>
  cases h3:decide (p.2.2.2.2≠lv) with
  |true=>rw [v8 h h3] at h2;cases h2
  |false=>
   cases h4:decide (p.2.1>s.cg) with
   |true=>rw [AG h h4] at h2;cases h2
   |false=>
    cases h5: !(bF s p).2 with
    |true=>rw [v7 h h1 h3 h4 h5] at h2;cases h2
    |false=>
     have e:=vZ h h1 h3 h4 h5
     rw [e] at h2
     cases h6:(bl (bF s p).1).1.any (late p) with
     |true=>rw [wa h6] at h2;cases h2
     |false=>
      rw [sQ h6] at h2 e
      have h3:=aA h3
      have h4:=aA h4
      exact⟨oH h1,by omega,by omega,oH h5,e,h2,rfl⟩
theorem NN {s:ay}{p:Pt}{lv:Int}(h:au p=false) (h1:aZ p=true) (h2:p.2.2.2.2=lv) (h3:p.2.1≤s.cg) (h4:(bF s p).2=true) (h5:(bl (bF s p).1).1.any (late p)=false):bg s p lv=bl (bF s p).1:=by
 rw [vZ h (by rw [h1];rfl) (decide_eq_false (by omega)) (decide_eq_false (by omega)) (by rw [h4];rfl),sQ h5]
theorem rv.pok {s:ay}{n:Nat}{p:Pt}(h:rv s n p):aZ p=true:=by cases n<;>exact h.1
theorem ku (s:ay):∀(n:Nat),rv s n bM
 |0=>⟨by decide,fun h=>by cases h⟩
 |n+1=>⟨by decide,(fun h=>by cases h),fun q hq=>by
   rw [ot (by decide)] at hq
   rw [show q=bM from (ZD6.1 hq).2]
   exact ku s n⟩
theorem rv.EI {s:ay}{n:Nat}{p:Pt}(h:rv s n p) (ht:1≤s.cg):p.2.1≤s.cg:=by
 cases hh:au p with
 |true=>rw [iu hh];show (0:Int)≤_;omega
 |false=>
  cases n with
  |zero=>exact (h.2 hh).2.1
  |succ n=>exact (oq hh (h.2.1 hh)).2.2.1
theorem mI {s u:ay}{p:Pt}(h:au p=false→nth ab u.rows (at' p)=nth ab s.rows (at' p)):bF u p=bF s p:=by
 cases hh:au p with
 |true=>rw [fT hh,fT hh]
 |false=>
  have e:=h hh
  unfold bF
  rw [show nth ab u.rows p.1.toNat=nth ab s.rows p.1.toNat from e]
theorem EJ {s u:ay}{p:Pt}{lv:Int}(ht:s.cg≤u.cg) (h:au p=false→nth ab u.rows (at' p)=nth ab s.rows (at' p)) (h2:au p=false→(bg s p lv).2=true):bg u p lv=bg s p lv:=by
 cases hh:au p with
 |true=>rw [kt hh,kt hh]
 |false=>
  obtain⟨h3,h4,h5,h6,h7,h8,h9⟩:=oq hh (h2 hh)
  have e:=mI h
  rw [h7,←e]
  exact NN hh h3 h4 (by omega) (by rw [e];exact h6) (by rw [e];exact h9)
theorem KM {s u:ay}(ht:s.cg≤u.cg):∀{n:Nat}{p:Pt},rv s n p→(∀q∈im s n p,au q=false→nth ab u.rows (at' q)=nth ab s.rows (at' q))→rv u n p∧im u n p=im s n p∧xj u n p=xj s n p∧uJ u n p=uJ s n p
 |0,p,h,hk=>by
  refine⟨⟨h.1,fun hh=>?_⟩,rfl,rfl,rfl⟩
  have h2:=h.2 hh
  exact⟨h2.1,by omega,by rw [mI (s:=s) (u:=u) (p:=p) (fun hh=>hk p (by simp [im]) hh)];exact h2.2.2⟩
 |n+1,p,h,hk=>by
  have e:bg u p ((((n+1):Nat):Int))=bg s p ((((n+1):Nat):Int)):=EJ ht (fun hh=>hk p (by simp [im]) hh) h.2.1
  have eb:lz u n p=lz s n p:=congrArg Prod.fst e
  have hq:∀q∈lz s n p,rv u n q∧im u n q=im s n q∧xj u n q=xj s n q∧uJ u n q=uJ s n q:=fun q hq=>
   KM ht (h.2.2 q hq) fun x hx hh=>hk x (by
    show x∈p::(lz s n p).flatMap (im s n)
    exact List.mem_cons_of_mem _ (List.mem_flatMap.2 ⟨q,hq,hx⟩)) hh
  refine⟨⟨h.1,fun hh=>by rw [e];exact h.2.1 hh,fun q hx=>?_⟩,?_,?_,?_⟩
  ·rw [eb] at hx;exact (hq q hx).1
  ·show p::(lz u n p).flatMap (im u n)=p::(lz s n p).flatMap (im s n)
   rw [eb,jA fun q hx=>(hq q hx).2.1]
  ·show (lz u n p).flatMap (xj u n)=(lz s n p).flatMap (xj s n)
   rw [eb,jA fun q hx=>(hq q hx).2.2.1]
  ·show p::(lz u n p).flatMap (uJ u n)=p::(lz s n p).flatMap (uJ s n)
   rw [eb,jA fun q hx=>(hq q hx).2.2.2]
theorem uk {s u:ay}{O:Nat→Nat}{n:Nat}{p:Pt}(h:rv s n p) (ht:s.cg≤u.cg) (hk:Kp O s u) (hO:∀r,bn (im s n p) r≤O r):rv u n p∧im u n p=im s n p∧xj u n p=xj s n p∧uJ u n p=uJ s n p:=
 KM ht h fun q hq hh=>hk _ (ZG3 (tX hq hh) (hO _))
theorem wC {u:ay}{p:Pt}{text:ByteArray}(hn:au p=false) (hr:nth ab u.rows (at' p)=text) (hf:iX p text=true):bF u p=(text,true):=by
 have hr:nth ab u.rows p.1.toNat=text:=hr
 rw [yc hn (by rw [hr];exact hf),hr]
theorem ahP:∀{l:List Pt},l.length=4→nV l=true→l=cu 4
 |[a,b,c,d],_,h=>by
  unfold nV at h
  simp only [List.any_cons,List.any_nil,ZF8,ZE1,Bool.not_eq_false'] at h
  rw [iu h.1,iu h.2.1,iu h.2.2.1,iu h.2.2.2.1];rfl
structure alx (s:ay) (O:Nat→Nat) (n:Nat) (l:List Pt) (old:Pt) (u:ay) (p:Pt) (fr:List Pt):Prop where
 acc:Acc u (fun r=>O r+bn fr r)
 kp:Kp O s u
 same:dQ s u
 sub:rv u (n+1) p
 lz:lz u n p=l
 num:∀r,bn [p] r≤bn fr r+bn (bif ptrEq p old then [p] else []) r
theorem ab1 {s:ay}{O:Nat→Nat}{n:Nat}{l:List Pt}{old:Pt}(h:Acc s O) (hl:l.length=4) (hs:∀q∈l,rv s n q) (hc:∀r,bn (l.flatMap (im s n)) r≤O r) (ho:rv s (n+1) old) (hz:(ee s l ((((n+1):Nat):Int)) old).2.2=true):
  ∃fr,alx s O n l old (ee s l ((((n+1):Nat):Int)) old).1 (ee s l ((((n+1):Nat):Int)) old).2.1 fr:=by
 cases hn:nV l with
 |true=>
  rw [JG hn]
  refine⟨[],h.mono fun r=>ZB5 _,Kp.refl _ _,dQ.refl _,ku s (n+1),?_,fun r=>?_⟩
  ·rw [ot rfl,ahP hl hn]
  ·rw [l9 rfl];exact ZA7 _
 |false=>
  have I1:(bE l).2=true:=vK hl (fun p hp=>(hs p hp).pok) (by exact hn)
  have tN:=EC I1
  cases hk:fD s l old with
  |true=>
   rw [JF hn hk]
   have hk2:=hk
   unfold fD at hk2
   simp only [ZA9,ZF8,decide_eq_true_eq] at hk2
   obtain⟨hh,hf,abR⟩:=hk2
   have hb:=oq hh (ho.2.1 hh)
   have dF:bF s old=((bE l).1,true):=wC hh abR hf
   rw [dF] at hb
   refine⟨[],h.mono fun r=>ZB5 _,Kp.refl _ _,dQ.refl _,ho,?_,fun r=>?_⟩
   ·show (bg s old _).1=l
    rw [hb.2.2.2.2.1,tN]
   ·rw [sb.2 rfl];show bn [old] r≤bn [] r+bn [old] r;omega
  |false=>
   rw [tS hn hk] at hz ⊢
   obtain⟨abV,hkp,IZ,hg,hd,ke⟩:=xJ h hz
   generalize (bd s (bE l).1 ((((n+1):Nat):Int))).1=u at *
   generalize (bd s (bE l).1 ((((n+1):Nat):Int))).2.1=p at *
   have dF:bF u p=((bE l).1,true):=wC ke.nh ke.row ke.fits
   have ajr:l.any (late p)=false:=by
    rw [List.any_eq_false]
    intro q hq
    have:=(hs q hq).EI h.cg.1
    have hb:=ke.EI
    simp only [late,decide_eq_true_eq];omega
   have hb:bg u p ((((n+1):Nat):Int))=(l,true):=by
    rw [NN ke.nh ke.ok ke.lv (by rw [ke.EI,IZ.cg];exact ZC1 _) (by rw [dF]) (by rw [dF,tN];exact ajr),dF,tN]
   refine⟨[p],⟨abV,hkp,IZ,⟨ke.ok,fun _=>by rw [hb],fun q hq=>?_⟩,?_,fun r=>ZD3 _ _⟩⟩
   ·have hq:q∈l:=by
     have hq:q∈(bg u p ((((n+1):Nat):Int))).1:=hq
     rw [hb] at hq;exact hq
    exact (uk (hs q hq) (by rw [IZ.cg];exact ZC1 _) hkp fun r=>ZB0 (fZ hq) (hc r)).1
   ·show (bg u p ((((n+1):Nat):Int))).1=l
    rw [hb]
def rV (ks ws:List Pt):Prop:=∀f:Pt→Bool,ks.countP (fun p=> !(au p)&&f p)≤ws.countP (fun p=> !(au p)&&f p)
theorem rV.nil (ws:List Pt):rV [] ws:=fun _=>ZA7 _
theorem rV.append {a b c d:List Pt}(h:rV a b) (h2:rV c d):rV (a++c) (b++d):=fun f=>by
 rw [List.countP_append,List.countP_append];have:=h f;have:=h2 f;omega
structure aj9 (s:ay) (O:Nat→Nat) (n:Nat) (l ka:List Pt) (u:ay) (ps ks fr:List Pt):Prop where
 acc:Acc u (fun r=>O r+bn fr r)
 kp:Kp O s u
 same:dQ s u
 sub:∀p∈ps,rv u (n+1) p
 lz:ps.flatMap (lz u n)=l
 num:∀r,bn ps r≤bn fr r+bn ks r
 dom:rV ks ka
theorem ajK {l:List Pt}{i m:Nat}(hl:l.length=4*m) (hi:i<m):qO l i++l.drop (4*(i+1))=l.drop (4*i)∧(qO l i).length=4:=by
 have e:qO l i=(l.drop (4*i)).take 4:=by
  unfold qO
  rw [show 0+((i:Int)*4).toNat=4*i by omega,show (((i:Int)+1)*4).toNat-((i:Int)*4).toNat=4 by omega]
 rw [e]
 refine⟨?_,by rw [ZB9,ZC8];omega⟩
 rw [show 4*(i+1)=4*i+4 by omega,←ZF9,ZG1]
theorem tR {n:Nat}{ka l:List Pt}{m:Nat}(hl:l.length=4*m):∀{f:Nat}{s u:ay}{i:Nat}{nx sy nn y:List Pt}{O:Nat→Nat},fI f s ((((n+1):Nat):Int)) ka l i nx sy=(u,some (nn,y))→Acc s O→m≤i+f→i≤m→(∀q∈l.drop (4*i),rv s n q)→(∀r,bn ((l.drop (4*i)).flatMap (im s n)) r≤O r)→(∀j,rv s (n+1) (nth ae ka j))→(∀j r,bn (im s (n+1) (nth ae ka j)) r≤O r)→
  ∃ps ks fr,nn=nx++ps∧y=sy++ks∧ps.length=m-i∧aj9 s O n (l.drop (4*i)) (ka.drop i) u ps ks fr
 |0,s,u,i,nx,sy,nn,y,O,h,ha,hm,hi,hs,hc,hw,hwc=>by
  cases h
  have e:l.drop (4*i)=[]:=ZB3 (by omega)
  refine⟨[],[],[],by simp,by simp,by simp;omega,⟨ha.mono fun r=>ZB5 _,Kp.refl _ _,dQ.refl _,(fun p hp=>by cases hp),by rw [e];rfl,fun r=>ZA7 _,rV.nil _⟩⟩
 |f+1,s,u,i,nx,sy,nn,y,O,h,ha,hm,hi,hs,hc,hw,hwc=>by
  cases hcd:decide ((i:Int)*4<l.length) with
  |false=>
   have FL:=aA hcd
   rw [fI,hcd] at h
   cases h
   have e:l.drop (4*i)=[]:=ZB3 (by omega)
   refine⟨[],[],[],by simp,by simp,by simp;omega,⟨ha.mono fun r=>ZB5 _,Kp.refl _ _,dQ.refl _,(fun p hp=>by cases hp),by rw [e];rfl,fun r=>ZA7 _,rV.nil _⟩⟩
  |true=>
   have bU:=aJ hcd
   have him:i<m:=by omega
   rw [fI,hcd,cond_true] at h
   cases hz: !(ee s (qO l i) ((((n+1):Nat):Int)) (nth ae ka i)).2.2 with
   |true=>rw [hz] at h;cases h
   |false=>
    rw [hz,cond_false] at h
    obtain⟨hd1,hd2⟩:=ajK hl him
    rw [←hd1] at hs hc
    have hc1:∀r,bn ((qO l i).flatMap (im s n)) r≤O r:=fun r=>by
     have:=hc r;rw [List.flatMap_append,bI] at this;omega
    have hc2:∀r,bn ((l.drop (4*(i+1))).flatMap (im s n)) r≤O r:=fun r=>by
     have:=hc r;rw [List.flatMap_append,bI] at this;omega
    obtain⟨fr1,hF⟩:=ab1 ha hd2 (fun q hq=>hs q (by simp [hq])) hc1 (hw i) (oH hz)
    generalize (ee s (qO l i) ((((n+1):Nat):Int)) (nth ae ka i)).1=s1 at *
    generalize (ee s (qO l i) ((((n+1):Nat):Int)) (nth ae ka i)).2.1=p at *
    have htx:s.cg≤s1.cg:=by rw [hF.same.cg];exact ZC1 _
    have hk2:∀q∈l.drop (4*(i+1)),rv s1 n q∧im s1 n q=im s n q∧xj s1 n q=xj s n q∧uJ s1 n q=uJ s n q:=fun q hq=>
     uk (hs q (by simp [hq])) htx hF.kp fun r=>ZB0 (fZ hq) (hc2 r)
    have hwk:∀j,rv s1 (n+1) (nth ae ka j)∧im s1 (n+1) (nth ae ka j)=im s (n+1) (nth ae ka j)∧xj s1 (n+1) (nth ae ka j)=xj s (n+1) (nth ae ka j)∧uJ s1 (n+1) (nth ae ka j)=uJ s (n+1) (nth ae ka j):=fun j=>
     uk (hw j) htx hF.kp (hwc j)
    have l5:=tR hl h hF.acc (by omega) (by omega) (fun q hq=>(hk2 q hq).1) (fun r=>by
     rw [jA fun q hq=>(hk2 q hq).2.1]
     exact ZB0 (hc2 r) (ZD3 _ _)) (fun j=>(hwk j).1) (fun j r=>by rw [(hwk j).2.1];exact ZB0 (hwc j r) (ZD3 _ _))
    obtain⟨ps,ks,fr,e1,e2,e3,hR⟩:=l5
    have oU:∀q∈im s1 (n+1) p,au q=false→0<O (at' q)+bn fr1 (at' q):=fun q hq hh=>by
     have hq:q∈p::(lz s1 n p).flatMap (im s1 n):=hq
     rcases ZB8.1 hq with rfl |hq
     ·have h1:=hF.num (at' q)
      rw [rM hh] at h1
      cases he:ptrEq q (nth ae ka i) with
      |false=>rw [he,cond_false,rq] at h1;omega
      |true=>
       rw [sb.1 he] at hh ⊢
       have h2:0<bn (im s (n+1) (nth ae ka i)) (at' (nth ae ka i)):=tX (by simp [im]) hh
       have:=hwc i (at' (nth ae ka i));omega
     ·rw [hF.lz] at hq
      obtain⟨x,hx,hxq⟩:=List.mem_flatMap.1 hq
      have e:=(uk (hs x (by simp [hx])) htx hF.kp fun r=>ZB0 (fZ hx) (hc1 r)).2.1
      rw [e] at hxq
      have h2:0<bn (im s n x) (at' q):=tX hxq hh
      have h3:=fZ (f:=im s n) (r:=at' q) hx
      have:=hc1 (at' q);omega
    have htu:s1.cg≤u.cg:=by rw [hR.same.cg];exact ZC1 _
    have uz:=KM htu hF.sub fun q hq hh=>hR.kp _ (oU q hq hh)
    have ali:lz u n p=qO l i:=by
     have e:bg u p ((((n+1):Nat):Int))=bg s1 p ((((n+1):Nat):Int)):=EJ htu (fun hh=>hR.kp _ (oU p (by simp [im]) hh)) hF.sub.2.1
     rw [←hF.lz];exact congrArg Prod.fst e
    refine⟨p::ps,(bif ptrEq p (nth ae ka i) then [p] else [])++ks,fr1++fr,?_,?_,by rw [ZA1,e3];omega,⟨?_,?_,hF.same.trans hR.same,?_,?_,fun r=>?_,?_⟩⟩
    ·rw [e1,ZD2];rfl
    ·rw [e2]
     cases ptrEq p (nth ae ka i) with
     |true=>simp only [cond_true,ZD2]
     |false=>simp only [cond_false,ZD0]
    ·exact hR.acc.mono fun r=>by show O r+bn (fr1++fr) r≤O r+bn fr1 r+bn fr r;rw [bI];omega
    ·exact hF.kp.trans (hR.kp.mono fun r=>ZD3 _ _)
    ·intro q hq
     rcases ZB8.1 hq with rfl |hq
     ·exact uz.1
     ·exact hR.sub q hq
    ·rw [ZD5,ali,hR.lz,hd1]
    ·have h1:=hF.num r
     have h2:=hR.num r
     rw [dP,bI,bI];omega
    ·have hd:rV (bif ptrEq p (nth ae ka i) then [p] else []) [nth ae ka i]:=by
      cases he:ptrEq p (nth ae ka i) with
      |false=>exact rV.nil _
      |true=>rw [sb.1 he];exact fun f=>ZB5 _
     by_cases hiw:i<ka.length
     ·rw [bW (ek:=ae) hiw]
      exact rV.append hd hR.dom
     ·have e0:ka.drop i=[]:=ZB3 (by omega)
      have e1:ka.drop (i+1)=[]:=ZB3 (by omega)
      have hz:nth ae ka i=bM:=tz (ek:=ae) (by omega)
      rw [e0]
      intro f
      have h1:=hd f
      have h2:=hR.dom f
      rw [e1] at h2
      rw [hz] at h1
      rw [List.countP_append]
      have h3:List.countP (fun p=> !(au p)&&f p) [bM]=0:=by simp [show au bM=true by decide]
      rw [hz]
      omega
end GL
namespace GL
theorem rj:∀(l:List Pt),l.flatMap (fun q=>[q])=l
 |[]=>rfl
 |q::l=>by rw [ZD5,rj l];rfl
theorem acx (s:ay) (l:List Pt):l.flatMap (im s 0)=l:=rj l
theorem aiD (s:ay) (l:List Pt):l.flatMap (xj s 0)=l:=rj l
theorem YO (s:ay):∀(l:List Pt),l.flatMap (uJ s 0)=[]
 |[]=>rfl
 |q::l=>by rw [ZD5,YO s l];rfl
theorem acw (s:ay):∀(l:List Pt),l.flatMap (uJ s 1)=l
 |[]=>rfl
 |q::l=>by
  rw [ZD5,acw s l]
  show (q::(lz s 0 q).flatMap (uJ s 0))++l=q::l
  rw [YO];rfl
theorem YN (s:ay) (q:Pt):xj s 1 q=lz s 0 q:=aiD s _
theorem tM {f:Pt→List Pt}{m:Nat}(h:f bM=cu m):∀(n:Nat),(cu n).flatMap f=cu (n*m)
 |0=>by rw [ZH0];rfl
 |n+1=>by
  rw [show cu (n+1)=bM::cu n from rfl,ZD5,h,tM h n]
  show List.replicate m bM++List.replicate (n*m) bM=List.replicate ((n+1)*m) bM
  rw [List.replicate_append_replicate];congr 1;rw [Nat.succ_mul];omega
theorem acv (s:ay):∀(n:Nat),xj s n bM=cu (4 ^ n)
 |0=>rfl
 |n+1=>by
  show (lz s n bM).flatMap (xj s n)=_
  rw [ot rfl,tM (acv s n) 4,Nat.pow_succ,Nat.mul_comm]
theorem fN (n r:Nat):bn (cu n) r=0:=by
 unfold bn
 rw [List.countP_eq_zero]
 intro p hp
 rw [show p=bM from (ZD6.1 hp).2]
 simp [K2,show au bM=true by rfl]
theorem zg (s:ay) (r:Nat):∀(n:Nat),bn (im s n bM) r=0
 |0=>l9 rfl r
 |n+1=>by
  show bn (bM::(lz s n bM).flatMap (im s n)) r=0
  rw [dP,l9 rfl,ot rfl]
  have h:=zg s r n
  simp only [cu,List.replicate,ZD5,List.flatMap_nil,bI,rq];omega
theorem RW:∀(f:Nat) (l:List Pt),∃j,B6 f l=l++cu j
 |0,l=>⟨0,by simp [B6,cu]⟩
 |f+1,l=>by
  cases hc:decide ((l.length:Int) % 4≠0) with
  |false=>exact⟨0,by rw [acY hc];simp [cu]⟩
  |true=>
   obtain⟨j,hj⟩:=RW f (l++[bM])
   exact⟨j+1,by rw [acX hc,hj,ZD2];rfl⟩
theorem RU (l:List Pt):∃j,eK l=l++cu j:=RW 4 l
structure oJ (s:ay) (t:bf) (d:Nat):Prop where
 dep:t.depth=((d:Nat):Int)
 le:d≤2
 snd:rv s d t.root
theorem rV.trans {a b c:List Pt}(h:rV a b) (h2:rV b c):rV a c:=fun f=>ZB0 (h f) (h2 f)
theorem rV.TL (n:Nat) (w:List Pt):rV (cu n) w:=fun f=>by
 rw [List.countP_eq_zero.2]
 ·exact ZA7 _
 ·intro p hp
  rw [show p=bM from (ZD6.1 hp).2]
  simp [show au bM=true by rfl]
theorem rV.bn {a b:List Pt}(h:rV a b) (r:Nat):bn a r≤bn b r:=by
 have:=h (fun p=>decide (at' p=r))
 exact this
theorem adh {s:ay}{t:bf}{d dt lv:Nat}(ht:oJ s t dt) (FK:lv+1=d∨lv+2=d) (hd:d≤2):∀q∈dL s t (((d:Nat):Int)) ((((lv+1):Nat):Int)),q=bM∨(rv s (lv+1) q∧∀r,bn (im s (lv+1) q) r≤bn (im s dt t.root) r):=by
 intro q hq
 cases h1:decide (t.depth≠((d:Nat):Int)) with
 |true=>rw [CA h1] at hq;exact .inl (ZD6.1 hq).2
 |false=>
  have he:dt=d:=by have:=aA h1;have:=ht.dep;omega
  subst he
  cases h2:decide ((((lv+1):Nat):Int)=((dt:Nat):Int)) with
  |true=>
   rw [HN h1 h2] at hq
   have h2:=aJ h2
   have e:dt=lv+1:=by omega
   subst e
   rw [ZC7.1 hq]
   exact .inr ⟨ht.snd,fun r=>ZB5 _⟩
  |false=>
   have h2':=aA h2
   have e:dt=lv+1+1:=by omega
   subst e
   cases h3: !(bg s t.root ((((lv+1+1):Nat):Int))).2 with
   |true=>rw [OV h1 h2 h3] at hq;exact .inl (ZD6.1 hq).2
   |false=>
    rw [HM h1 h2 h3] at hq
    refine .inr ⟨ht.snd.2.2 q hq,fun r=>?_⟩
    show _≤bn (t.root::(lz s (lv+1) t.root).flatMap (im s (lv+1))) r
    rw [dP]
    have:=fZ (f:=im s (lv+1)) (r:=r) (l:=lz s (lv+1) t.root) hq
    omega
theorem so {s:ay}{t:bf}{d dt lv:Nat}(ht:oJ s t dt) (FK:lv+1=d∨lv+2=d) (hd:d≤2) (j:Nat):rv s (lv+1) (nth ae (dL s t (((d:Nat):Int)) ((((lv+1):Nat):Int))) j)∧∀r,bn (im s (lv+1) (nth ae (dL s t (((d:Nat):Int)) ((((lv+1):Nat):Int))) j)) r≤bn (im s dt t.root) r:=by
 by_cases hj:j<(dL s t (((d:Nat):Int)) ((((lv+1):Nat):Int))).length
 ·rcases adh ht FK hd _ (bR (ek:=ae) hj) with e |h
  ·rw [e];exact⟨ku _ _,fun r=>by rw [zg];exact ZA7 _⟩
  ·exact h
 ·rw [show nth ae (dL s t (((d:Nat):Int)) ((((lv+1):Nat):Int))) j=bM from tz (ek:=ae) (by omega)]
  exact⟨ku _ _,fun r=>by rw [zg];exact ZA7 _⟩
theorem rV.filter (l:List Pt):rV l (l.filter fun p=> !(au p)):=fun f=>by
 rw [List.countP_filter]
 refine ZA8 ?_
 congr 1
 funext p
 cases au p<;>cases f p<;>rfl
theorem rV.nh {p:Pt}(h:au p=true) (w:List Pt):rV [p] w:=fun f=>by
 rw [show List.countP (fun p=> !(au p)&&f p) [p]=0 by simp [h]];exact ZA7 _
theorem adj {s:ay}{t:bf}{dt:Nat}(ht:oJ s t dt):rV (dL s t (((1:Nat):Int)) (((1:Nat):Int))) (bw s t):=by
 cases h1:decide (t.depth≠((1:Nat):Int)) with
 |true=>rw [CA h1];exact rV.TL _ _
 |false=>
  have hd:=aA h1
  rw [HN h1 (decide_eq_true rfl)]
  cases hh:au t.root with
  |true=>exact rV.nh hh _
  |false=>
   rw [zP (decide_eq_false (by omega)) hh (decide_eq_false (by omega))]
   exact fun f=>ZB5 _
theorem SC {s s1:ay}{t:bf}{dt:Nat}(ht:oJ s t dt):rV (dL s t (((2:Nat):Int)) (((1:Nat):Int))++dL s1 t (((2:Nat):Int)) (((2:Nat):Int))) (bw s t):=by
 cases h1:decide (t.depth≠((2:Nat):Int)) with
 |true=>rw [CA h1,CA h1];exact (rV.append (rV.TL 4 []) (rV.TL 4 (bw s t)))
 |false=>
  have hd:=aA h1
  rw [HN (s:=s1) h1 (decide_eq_true rfl)]
  cases hh:au t.root with
  |true=>
   refine rV.append (b:=[]) (d:=bw s t) ?_ (rV.nh hh _)
   rw [HM h1 (by decide) (by rw [kt hh];rfl),kt hh]
   exact rV.TL _ _
  |false=>
   rw [IU (decide_eq_false (by omega)) hh (decide_eq_true (by omega))]
   have hb:rV (dL s t (((2:Nat):Int)) (((1:Nat):Int))) ((bg s t.root 2).1.filter fun p=> !(au p)):=by
    cases h3: !(bg s t.root (((2:Nat):Int))).2 with
    |true=>rw [OV h1 (by decide) h3];exact rV.TL _ _
    |false=>rw [HM h1 (by decide) h3];exact rV.filter _
   intro f
   have h:=hb f
   rw [List.countP_append,List.countP_cons,List.countP_cons,List.countP_nil]
   omega
theorem CU {s:ay}{t:bf}{dt:Nat}(ht:oJ s t dt) (r:Nat):bn (uJ s dt t.root) r=bn (bw s t) r:=by
 have hd:=ht.dep
 have hl:=ht.le
 match dt,hl with
 |0,_=>rw [IV (decide_eq_true hd)];rfl
 |1,_=>
  rw [show uJ s 1 t.root=[t.root] by show t.root::_=_;rw [YO]]
  cases hh:au t.root with
  |true=>rw [zQ hh,l9 hh];rfl
  |false=>rw [zP (decide_eq_false (by omega)) hh (decide_eq_false (by omega))]
 |2,_=>
  rw [show uJ s 2 t.root=t.root::lz s 1 t.root by show t.root::(lz s 1 t.root).flatMap (uJ s 1)=_;rw [acw]]
  cases hh:au t.root with
  |true=>rw [zQ hh,dP,l9 hh,ot hh,fN];rfl
  |false=>
   rw [IU (decide_eq_false (by omega)) hh (decide_eq_true hd),dP,dP t.root (List.filter _ _)]
   congr 1
   show bn (bg s t.root 2).1 r=_
   unfold bn
   rw [List.countP_filter]
   congr 1
   funext p
   unfold K2
   cases au p<;>simp
theorem aeW {n:Int}(h:n≤1):bj n=((0:Nat):Int):=by unfold bj;rw [decide_eq_true h];rfl
theorem XZ {n:Int}(h0:1<n) (h:n≤4):bj n=((1:Nat):Int):=by unfold bj;rw [decide_eq_false (by omega),decide_eq_true h];rfl
theorem XY {n:Int}(h0:4<n):bj n=((2:Nat):Int):=by unfold bj;rw [decide_eq_false (by omega),decide_eq_false (by omega)];rfl
structure alw (s:ay) (t:bf) (O:Nat→Nat) (l:List Pt) (d:Nat) (u:ay) (root:Pt) (st fr:List Pt):Prop where
 acc:Acc u (fun r=>O r+bn fr r)
 kp:Kp O s u
 same:dQ s u
 snd:rv u d root
 lv:∃k,xj u d root=l++cu k
 num:∀r,bn (uJ u d root) r≤bn fr r+bn st r
 dom:rV st (bw s t)
theorem sY (p:Pt):rootOf [p]=p:=rfl
theorem abG {s u:ay}{t:bf}{O:Nat→Nat}{l nn st:List Pt}{many:Int}{dt:Nat}(h:mm 3 s t (bj many) 1 l []=(u,some (nn,st))) (ha:Acc s O) (ht:oJ s t dt) (xB:0≤many) (hm:many≤16) (hlen:l.length=many.toNat) (hs:∀q∈l,rv s 0 q) (hc:∀r,bn (bw s t) r+bn l r≤O r) (ho:∀r,bn (im s dt t.root) r≤O r):
  ∃d fr,bj many=((d:Nat):Int)∧d≤2∧alw s t O l d u (rootOf nn) st fr:=by
 have hsp:∀j,∀q∈l++cu j,rv s 0 q:=fun j q hq=>by
  rcases ZB4.1 hq with hq |hq
  ·exact hs q hq
  ·rw [show q=bM from (ZD6.1 hq).2];exact ku s 0
 have hcl:∀r,bn l r≤O r:=fun r=>by have:=hc r;omega
 have rT:=HF l
 obtain⟨j,hj⟩:=RU l
 by_cases h1:many≤1
 ·rw [aeW h1] at h ⊢
  rw [O7 (decide_eq_false (by decide))] at h
  cases h
  refine⟨0,[],rfl,by omega,⟨ha.mono fun r=>ZB5 _,Kp.refl _ _,dQ.refl _,?_,?_,fun r=>ZA7 _,rV.nil _⟩⟩
  ·match l,hlen,hs with
   |[],_,_=>exact ku s 0
   |[p],_,hs=>exact hs p (by simp)
   |_::_::_,hl,_=>simp at hl;omega
  ·match l,hlen with
   |[],_=>exact⟨1,rfl⟩
   |[p],_=>exact⟨0,rfl⟩
   |_::_::_,hl=>simp at hl;omega
 ·by_cases h4:many≤4
  ·rw [XZ (by omega) h4] at h ⊢
   cases hf:fI 5 s 1 (dL s t (((1:Nat):Int)) 1) (eK l) 0 [] [] with
   |mk s1 r1=>
    cases r1 with
    |none=>rw [O6 (decide_eq_true (by decide)) hf] at h;cases h
    |some q=>
     obtain⟨n1,st1⟩:=q
     rw [O5 (decide_eq_true (by decide)) hf,O7 (decide_eq_false (by decide))] at h
     cases h
     have hl4:(eK l).length=4*1:=by rw [rT];omega
     have hR:=tR (n:=0) hl4 hf ha (by omega) (by omega) (by rw [Nat.mul_zero,ZF0,hj];exact hsp j) (fun r=>by
      rw [Nat.mul_zero,ZF0,hj,acx,bI,fN];have:=hcl r;omega) (fun i=>(so (d:=1) (lv:=0) ht (.inl rfl) (by omega) i).1) (fun i r=>ZB0 ((so (d:=1) (lv:=0) ht (.inl rfl) (by omega) i).2 r) (ho r))
     obtain⟨ps,ks,fr,e1,e2,e3,hR⟩:=hR
     rw [Nat.mul_zero,ZF0,ZF0] at hR
     match ps,e3 with
     |[p],_=>
      rw [e1,e2]
      simp only [ZD0]
      have hb:=hR.lz
      rw [ZD5,List.flatMap_nil,ZE5] at hb
      refine⟨1,fr,rfl,by omega,⟨hR.acc,hR.kp,hR.same,hR.sub p (by simp),⟨j,?_⟩,fun r=>?_,hR.dom.trans (adj ht)⟩⟩
      ·rw [sY,YN,hb,hj]
      ·rw [sY,show uJ u 1 p=[p] by show p::(lz u 0 p).flatMap (uJ u 0)=[p];rw [YO]]
       exact hR.num r
  ·rw [XY (by omega)] at h ⊢
   cases hf:fI 5 s 1 (dL s t (((2:Nat):Int)) 1) (eK l) 0 [] [] with
   |mk s1 r1=>
    cases r1 with
    |none=>rw [O6 (decide_eq_true (by decide)) hf] at h;cases h
    |some q=>
     obtain⟨n1,st1⟩:=q
     rw [O5 (decide_eq_true (by decide)) hf,show (1:Int)+1=2 from rfl] at h
     obtain⟨m1,EW,hm2,hl4⟩:∃m,2≤m∧m≤4∧(eK l).length=4*m:=⟨(l.length+3) / 4,by omega,by omega,by rw [rT];omega⟩
     have hR:=tR (n:=0) hl4 hf ha (by omega) (by omega) (by rw [Nat.mul_zero,ZF0,hj];exact hsp j) (fun r=>by
      rw [Nat.mul_zero,ZF0,hj,acx,bI,fN];have:=hcl r;omega) (fun i=>(so (d:=2) (lv:=0) ht (.inr rfl) (by omega) i).1) (fun i r=>ZB0 ((so (d:=2) (lv:=0) ht (.inr rfl) (by omega) i).2 r) (ho r))
     obtain⟨ps,ks,fr,e1,e2,e3,hR⟩:=hR
     rw [Nat.mul_zero,ZF0,ZF0] at hR
     simp only [ZD0] at e1 e2
     subst e1 e2
     have akV:=HF n1
     obtain⟨j2,yK⟩:=RU n1
     have ak6:(eK n1).length=4*1:=by rw [akV];omega
     cases hf2:fI 5 s1 2 (dL s1 t (((2:Nat):Int)) 2) (eK n1) 0 [] st1 with
     |mk s2 r2=>
      cases r2 with
      |none=>rw [O6 (decide_eq_true (by decide)) hf2] at h;cases h
      |some q2=>
       obtain⟨n2,st2⟩:=q2
       rw [O5 (decide_eq_true (by decide)) hf2,O7 (decide_eq_false (by decide))] at h
       cases h
       have htx:s.cg≤s1.cg:=by rw [hR.same.cg];exact ZC1 _
       have ZW:=uk ht.snd htx hR.kp ho
       have ht1:oJ s1 t dt:=⟨ht.dep,ht.le,ZW.1⟩
       have agR:∀q∈eK n1,rv s1 1 q:=fun q hq=>by
        rw [yK] at hq
        rcases ZB4.1 hq with hq |hq
        ·exact hR.sub q hq
        ·rw [show q=bM from (ZD6.1 hq).2];exact ku s1 1
       have hA1:∀(x:ay) (m:List Pt) (r:Nat),bn (m.flatMap (im x 1)) r=bn m r+bn (m.flatMap (lz x 0)) r:=fun x m r=>by
        have:=vR (f:=im x 1) (g:=fun q=>[q]) (h:=lz x 0) (r:=r) (l:=m) fun q _=>by
         show bn (q::(lz x 0 q).flatMap (im x 0)) r=_
         rw [acx,dP]
        rw [this,rj]
       have ajw:∀r,bn ((eK n1).flatMap (im s1 1)) r≤O r+bn fr r:=fun r=>by
        rw [hA1,yK,List.flatMap_append,bI,bI,hR.lz,fN,hj,bI,fN]
        rw [tM (f:=lz s1 0) (m:=4) (ot rfl),fN]
        have h1:=hR.num r
        have h2:=(hR.dom.trans (rV.trans (b:=dL s t (((2:Nat):Int)) (((1:Nat):Int))++dL s t (((2:Nat):Int)) (((2:Nat):Int))) (fun f=>by rw [List.countP_append];exact ZD3 _ _) (SC ht))).bn r
        have h3:=hc r
        omega
       have hR2:=tR (n:=1) ak6 hf2 hR.acc (by omega) (by omega) (by rw [Nat.mul_zero,ZF0];exact agR) (fun r=>by
        rw [Nat.mul_zero,ZF0];exact ajw r) (fun i=>(so (d:=2) (lv:=1) ht1 (.inl rfl) (by omega) i).1) (fun i r=>by
        have h1:=(so (d:=2) (lv:=1) ht1 (.inl rfl) (by omega) i).2 r
        rw [ZW.2.1] at h1
        have:=ho r
        exact ZB0 h1 (by omega))
       obtain⟨ps2,ks2,fr2,e21,e22,e23,hR2⟩:=hR2
       rw [Nat.mul_zero,ZF0,ZF0] at hR2
       match ps2,e23 with
       |[p2],_=>
        rw [e21,e22]
        simp only [ZD0]
        have hb:=hR2.lz
        rw [ZD5,List.flatMap_nil,ZE5] at hb
        have akP:s1.cg≤u.cg:=by rw [hR2.same.cg];exact ZC1 _
        have EX:∀q∈eK n1,xj u 1 q=xj s1 1 q:=fun q hq=>
         (uk (agR q hq) akP hR2.kp fun r=>ZB0 (fZ hq) (ajw r)).2.2.1
        refine⟨2,fr++fr2,rfl,by omega,⟨?_,?_,hR.same.trans hR2.same,hR2.sub p2 (by simp),⟨j+j2*4,?_⟩,fun r=>?_,?_⟩⟩
        ·exact hR2.acc.mono fun r=>by show O r+bn (fr++fr2) r≤O r+bn fr r+bn fr2 r;rw [bI];omega
        ·exact hR.kp.trans (hR2.kp.mono fun r=>ZD3 _ _)
        ·rw [sY]
         show (lz u 1 p2).flatMap (xj u 1)=_
         rw [hb,jA EX,jA fun q _=>YN s1 q,yK,List.flatMap_append,hR.lz,hj,tM (f:=lz s1 0) (m:=4) (ot rfl),ZD2]
         congr 1
         show List.replicate j bM++List.replicate (j2*4) bM=_
         rw [List.replicate_append_replicate];rfl
        ·rw [sY,show uJ u 2 p2=p2::eK n1 by show p2::(lz u 1 p2).flatMap (uJ u 1)=_;rw [acw,hb]]
         rw [dP,yK,bI,fN,bI,bI]
         have h1:=hR.num r
         have h2:=hR2.num r
         omega
        ·exact (rV.append hR.dom hR2.dom).trans (SC ht)
end GL
namespace GL
theorem rv.bt {s:ay}{n:Nat}{p:Pt}(h:rv s (n+1) p):(bg s p ((((n+1):Nat):Int))).2=true:=by
 cases hh:au p with
 |true=>rw [kt hh]
 |false=>exact h.2.1 hh
theorem wx {s:ay}{n:Nat}:∀{l acc:List Pt},(∀q∈l,rv s (n+1) q)→fx s ((((n+1):Nat):Int)) l acc=some (acc++l.flatMap (lz s n))
 |[],acc,_=>by rw [List.flatMap_nil,ZE5];rfl
 |p::l,acc,h=>by
  rw [NY (by rw [(h p (by simp)).bt];rfl),wx fun q hq=>h q (by simp [hq]),ZD5,ZD2]
theorem FU {s:ay}{n:Nat}{p:Pt}(h:rv s (n+1) p):(lz s n p).length=4:=(iG s p ((((n+1):Nat):Int))).2 h.bt
theorem TX {s:ay}{n:Nat}:∀{l:List Pt},(∀q∈l,rv s (n+1) q)→(l.flatMap (lz s n)).length=4*l.length
 |[],_=>rfl
 |p::l,h=>by
  rw [ZD5,ZA0,FU (h p (by simp)),TX fun q hq=>h q (by simp [hq]),ZA1];omega
theorem aiC (s:ay) (p:Pt):xj s 2 p=(lz s 1 p).flatMap (lz s 0):=by
 show (lz s 1 p).flatMap (xj s 1)=_
 rw [jA fun q _=>YN s q]
theorem D0 {s:ay}{t:bf}{d:Nat}(h:oJ s t d):bA s t=(xj s d t.root,true)∧(xj s d t.root).length=4 ^ d:=by
 have hd:=h.dep
 have hl:=h.le
 have hs:=h.snd
 unfold bA
 rw [hd]
 match d,hl with
 |0,_=>exact⟨vt (by decide),rfl⟩
 |1,_=>
  have h1:=wx (s:=s) (n:=0) (l:=[t.root]) (acc:=[]) (fun q hq=>by rw [ZC7.1 hq];exact hs)
  rw [CI (by decide) h1,vt (by decide),YN]
  rw [ZD0,ZD5,List.flatMap_nil,ZE5]
  exact⟨rfl,FU hs⟩
 |2,_=>
  have h1:=wx (s:=s) (n:=1) (l:=[t.root]) (acc:=[]) (fun q hq=>by rw [ZC7.1 hq];exact hs)
  rw [ZD0,ZD5,List.flatMap_nil,ZE5] at h1
  have h2:=wx (s:=s) (n:=0) (l:=lz s 1 t.root) (acc:=[]) hs.2.2
  rw [CI (by decide) h1,show (((2:Nat):Int)-1)=(((0+1):Nat):Int) from rfl,CI (by decide) h2,vt (by decide),aiC,ZD0]
  refine⟨rfl,?_⟩
  rw [TX hs.2.2,FU hs]
theorem mA {s:ay}{t:bf}{d:Nat}(h:oJ s t d):aB s t=xj s d t.root++cu (16-4 ^ d):=by
 have ⟨h1,h2⟩:=D0 h
 unfold aB
 rw [h1]
 simp only
 rw [h2];congr 2;omega
theorem oJ.trd {s:ay}{t:bf}{d:Nat}(h:oJ s t d):t.rd:=⟨by have:=h.dep;have:=h.le;omega,h.snd.pok⟩
theorem yN {st:List Pt}:∀{l:List Pt}{s:ay}{O X:Nat→Nat},Acc s O→(∀p∈l,aZ p=true)→(∀r,X r+bn (l.filter fun o=> !(gW st o)) r≤O r)→Acc (dX l st s) X∧Kp X s (dX l st s)∧dQ s (dX l st s)
 |[],s,O,X,h,_,hO=>⟨h.mono fun r=>by have:=hO r;omega,Kp.refl _ _,dQ.refl _⟩
 |o::l,s,O,X,h,hl,hO=>by
  cases hk:gW st o with
  |true=>
   rw [TR hk]
   exact yN h (fun p hp=>hl p (by simp [hp])) fun r=>by
    have:=hO r
    rw [List.filter_cons_of_neg (by rw [hk];decide)] at this
    exact this
  |false=>
   rw [TS hk]
   have h1:=C2 (O':=fun r=>X r+bn (l.filter fun o=> !(gW st o)) r) h (hl o (by simp)) (fun r=>by
    have:=hO r
    rw [List.filter_cons_of_pos (by rw [hk];rfl),dP] at this
    show X r+_+_≤_;omega)
   have h2:=yN (X:=X) h1.1 (fun p hp=>hl p (by simp [hp])) fun r=>ZB5 _
   exact⟨h2.1,(h1.2.1.mono fun r=>ZD3 _ _).trans h2.2.1,h1.2.2.trans h2.2.2⟩
theorem NH (f:Pt→Bool) (r:Nat):∀(l:List Pt),bn l r=bn (l.filter f) r+bn (l.filter fun o=> !(f o)) r
 |[]=>rfl
 |o::l=>by
  have ih:=NH f r l
  rw [dP]
  cases h:f o with
  |true=>rw [List.filter_cons_of_pos h,List.filter_cons_of_neg (by rw [h];decide),dP o (l.filter f)];omega
  |false=>rw [List.filter_cons_of_neg (by rw [h];decide),List.filter_cons_of_pos (by rw [h];rfl),dP o (l.filter _)];omega
theorem adO {st:List Pt}{p:Pt}(h:p∈st):gW st p=true:=by
 unfold gW
 rw [List.any_eq_true]
 exact⟨p,h,sb.2 rfl⟩
theorem afy {st inner:List Pt}(h:rV st inner) (r:Nat):bn st r≤bn (inner.filter (gW st)) r:=by
 have h1:=h (fun p=>decide (at' p=r)&&gW st p)
 have e1:st.countP (fun p=> !(au p)&&(decide (at' p=r)&&gW st p))=bn st r:=by
  unfold bn
  refine List.countP_congr fun p hp=>?_
  unfold K2
  rw [adO hp,Bool.and_true]
 have e2:inner.countP (fun p=> !(au p)&&(decide (at' p=r)&&gW st p))=bn (inner.filter (gW st)) r:=by
  unfold bn
  rw [List.countP_filter]
  congr 1
  funext p
  unfold K2
  rw [Bool.and_assoc]
 omega
structure Laid (s:ay) (Y:Nat→Nat) (l:List Pt) (many:Int) (u:ay) (t':bf) (d:Nat):Prop where
 rz:oJ u t' d
 dm:bj many=((d:Nat):Int)
 many:t'.many=many
 lv:∃k,xj u d t'.root=l++cu k
 acc:Acc u (fun r=>Y r+bn (uJ u d t'.root) r)
 kp:Kp Y s u
 same:dQ s u
theorem L8 {s:ay}{t:bf}{L:List Pt}{many:Int}{O Y:Nat→Nat}{dt:Nat}(ha:Acc s O) (ht:oJ s t dt) (xB:0≤many) (hm:many≤16) (hL:many.toNat≤L.length) (hs:∀q∈L.take many.toNat,rv s 0 q) (hY:∀r,Y r+bn (bw s t) r≤O r) (hYl:∀r,bn (L.take many.toNat) r≤Y r) (ho:∀r,bn (im s dt t.root) r≤O r) (hz:(bQ s t L many).2.2=true):
  ∃d,Laid s Y (L.take many.toNat) many (bQ s t L many).1 (bQ s t L many).2.1 d:=by
 unfold bQ at hz ⊢
 cases hf:mm 3 s t (bj many) 1 (L.take many.toNat) [] with
 |mk u r=>
  rw [hf] at hz
  cases r with
  |none=>cases hz
  |some q=>
   obtain⟨nn,st⟩:=q
   obtain⟨d,fr,hd,hd2,hR⟩:=abG hf ha ht xB hm (by rw [ZB9];omega) hs (fun r=>by have:=hY r;have:=hYl r;omega) ho
   show∃d,Laid s Y (L.take many.toNat) many (dX (bw s t) st u) (LY (rootOf nn) (bj many) many) d
   obtain⟨k,hk⟩:=hR.lv
   have hX:=yN (st:=st) (l:=bw s t) (X:=fun r=>Y r+bn ((bw s t).filter (gW st)) r+bn fr r) hR.acc (ML ht.trd) fun r=>by
    have:=hY r
    have:=NH (gW st) r (bw s t)
    show Y r+_+_+_≤O r+bn fr r
    omega
   have af4:∀r,bn (uJ u d (rootOf nn)) r≤bn fr r+bn ((bw s t).filter (gW st)) r:=fun r=>by
    have:=hR.num r
    have:=afy hR.dom r
    omega
   have uz:=uk hR.snd (by rw [hX.2.2.cg];exact ZC1 _) hX.2.1 fun r=>by
    rw [mB,hk,bI,fN]
    have:=af4 r
    have:=hYl r
    show _≤Y r+_+_
    omega
   refine⟨d,⟨⟨hd,hd2,uz.1⟩,hd,rfl,⟨k,?_⟩,?_,?_,hR.same.trans hX.2.2⟩⟩
   ·show xj (dX (bw s t) st u) d (rootOf nn)=_
    rw [uz.2.2.1,hk]
   ·refine hX.1.mono fun r=>?_
    show Y r+bn (uJ (dX (bw s t) st u) d (rootOf nn)) r≤_
    rw [uz.2.2.2]
    have:=af4 r
    show _≤Y r+_+_
    omega
   ·exact (hR.kp.mono fun r=>by have:=hY r;omega).trans (hX.2.1.mono fun r=>by show _≤Y r+_+_;omega)
end GL
end Go.Proofs.YtnkbdhldiinfdaaGreatDoor
