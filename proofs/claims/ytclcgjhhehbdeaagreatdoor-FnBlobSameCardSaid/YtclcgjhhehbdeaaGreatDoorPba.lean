/- A drawn law returns true for every code (its row lists package variables, tied by the card): part 27. -/
import Derived.Test.YtclcgjhhehbdeaaGreatDoorPau
import Derived.Test.YtclcgjhhehbdeaaGreatDoorPaz
set_option maxHeartbeats 20000000
set_option maxRecDepth 100000
set_option linter.all false
namespace Go.Proofs.YtclcgjhhehbdeaaGreatDoor
namespace GL
abbrev lu (s:ay) (n:Nat) (p:Pt):List Pt:=(bg s p ((((n+1):Nat):Int))).1
def rn (s:ay):Nat→Pt→Prop
 |0,p=>aZ p=true∧(au p=false→p.2.2.2.2=0∧p.2.1≤s.cg∧(bF s p).2=true)
 |n+1,p=>aZ p=true∧(au p=false→(bg s p ((((n+1):Nat):Int))).2=true)∧∀q∈lu s n p,rn s n q
def ik (s:ay):Nat→Pt→List Pt
 |0,p=>[p]
 |n+1,p=>p::(lu s n p).flatMap (ik s n)
def xf (s:ay):Nat→Pt→List Pt
 |0,p=>[p]
 |n+1,p=>(lu s n p).flatMap (xf s n)
def uF (s:ay):Nat→Pt→List Pt
 |0,_=>[]
 |n+1,p=>p::(lu s n p).flatMap (uF s n)
theorem vN {f g h:Pt→List Pt}{r:Nat}:∀{l:List Pt},(∀q∈l,bn (f q) r=bn (g q) r+bn (h q) r)→bn (l.flatMap f) r=bn (l.flatMap g) r+bn (l.flatMap h) r
 |[],_=>rfl
 |q::l,hq=>by
  simp only [ZD5,bI]
  have h1:=hq q (by simp)
  have h2:=vN (l:=l) (fun q h=>hq q (by simp [h]))
  omega
theorem fY {f:Pt→List Pt}{r:Nat}{q:Pt}:∀{l:List Pt},q∈l→bn (f q) r≤bn (l.flatMap f) r
 |p::l,hq=>by
  simp only [ZD5,bI]
  rcases ZB8.1 hq with rfl |hq
  ·omega
  ·have:=fY (f:=f) (r:=r) hq;omega
theorem jy {f g:Pt→List Pt}:∀{l:List Pt},(∀q∈l,f q=g q)→l.flatMap f=l.flatMap g
 |[],_=>rfl
 |q::l,h=>by
  simp only [ZD5]
  rw [h q (by simp),jy (l:=l) fun q hq=>h q (by simp [hq])]
theorem mx (s:ay) (r:Nat):∀(n:Nat) (p:Pt),bn (ik s n p) r=bn (uF s n p) r+bn (xf s n p) r
 |0,p=>by show bn [p] r=bn [] r+bn [p] r;rw [rk];omega
 |n+1,p=>by
  show bn (p::(lu s n p).flatMap (ik s n)) r=bn (p::(lu s n p).flatMap (uF s n)) r+bn ((lu s n p).flatMap (xf s n)) r
  rw [dO,dO p ((lu s n p).flatMap (uF s n))]
  have:=vN (f:=ik s n) (g:=uF s n) (h:=xf s n) (r:=r) (l:=lu s n p) fun q _=>mx s r n q
  omega
theorem oi {s:ay}{n:Nat}{p:Pt}(h:au p=true):lu s n p=cu 4:=by show (bg s p _).1=_;rw [ko h]
theorem oh {s:ay}{p:Pt}{lv:Int}(h:au p=false) (h2:(bg s p lv).2=true):aZ p=true∧p.2.2.2.2=lv∧p.2.1≤s.cg∧(bF s p).2=true∧bg s p lv=bl (bF s p).1∧(bl (bF s p).1).2=true∧(bl (bF s p).1).1.any (late p)=false:=by
 cases h1: !(aZ p) with
 |true=>rw [J6 h h1] at h2;cases h2
 |false=>
  cases h3:decide (p.2.2.2.2≠lv) with
  |true=>rw [vX h h3] at h2;cases h2
  |false=>
   cases h4:decide (p.2.1>s.cg) with
   |true=>rw [AA h h4] at h2;cases h2
   |false=>
    cases h5: !(bF s p).2 with
    |true=>rw [vW h h1 h3 h4 h5] at h2;cases h2
    |false=>
     have e:=vV h h1 h3 h4 h5
     rw [e] at h2
     cases h6:(bl (bF s p).1).1.any (late p) with
     |true=>rw [vY h6] at h2;cases h2
     |false=>
      rw [sM h6] at h2 e
      have h3:=aA h3
      have h4:=aA h4
      exact⟨oD h1,by omega,by omega,oD h5,e,h2,rfl⟩
theorem NH {s:ay}{p:Pt}{lv:Int}(h:au p=false) (h1:aZ p=true) (h2:p.2.2.2.2=lv) (h3:p.2.1≤s.cg) (h4:(bF s p).2=true) (h5:(bl (bF s p).1).1.any (late p)=false):bg s p lv=bl (bF s p).1:=by
 rw [vV h (by rw [h1];rfl) (decide_eq_false (by omega)) (decide_eq_false (by omega)) (by rw [h4];rfl),sM h5]
theorem rn.pok {s:ay}{n:Nat}{p:Pt}(h:rn s n p):aZ p=true:=by cases n<;>exact h.1
theorem kq (s:ay):∀(n:Nat),rn s n bM
 |0=>⟨by decide,fun h=>by cases h⟩
 |n+1=>⟨by decide,(fun h=>by cases h),fun q hq=>by
   rw [oi (by decide)] at hq
   rw [show q=bM from (ZD6.1 hq).2]
   exact kq s n⟩
theorem rn.EE {s:ay}{n:Nat}{p:Pt}(h:rn s n p) (ht:1≤s.cg):p.2.1≤s.cg:=by
 cases hh:au p with
 |true=>rw [iq hh];show (0:Int)≤_;omega
 |false=>
  cases n with
  |zero=>exact (h.2 hh).2.1
  |succ n=>exact (oh hh (h.2.1 hh)).2.2.1
theorem mE {s u:ay}{p:Pt}(h:au p=false→nth ab u.rows (at' p)=nth ab s.rows (at' p)):bF u p=bF s p:=by
 cases hh:au p with
 |true=>rw [fS hh,fS hh]
 |false=>
  have e:=h hh
  unfold bF
  rw [show nth ab u.rows p.1.toNat=nth ab s.rows p.1.toNat from e]
theorem EF {s u:ay}{p:Pt}{lv:Int}(ht:s.cg≤u.cg) (h:au p=false→nth ab u.rows (at' p)=nth ab s.rows (at' p)) (h2:au p=false→(bg s p lv).2=true):bg u p lv=bg s p lv:=by
 cases hh:au p with
 |true=>rw [ko hh,ko hh]
 |false=>
  obtain⟨h3,h4,h5,h6,h7,h8,h9⟩:=oh hh (h2 hh)
  have e:=mE h
  rw [h7,←e]
  exact NH hh h3 h4 (by omega) (by rw [e];exact h6) (by rw [e];exact h9)
theorem KG {s u:ay}(ht:s.cg≤u.cg):∀{n:Nat}{p:Pt},rn s n p→(∀q∈ik s n p,au q=false→nth ab u.rows (at' q)=nth ab s.rows (at' q))→rn u n p∧ik u n p=ik s n p∧xf u n p=xf s n p∧uF u n p=uF s n p
 |0,p,h,hk=>by
  refine⟨⟨h.1,fun hh=>?_⟩,rfl,rfl,rfl⟩
  have h2:=h.2 hh
  exact⟨h2.1,by omega,by rw [mE (s:=s) (u:=u) (p:=p) (fun hh=>hk p (by simp [ik]) hh)];exact h2.2.2⟩
 |n+1,p,h,hk=>by
  have e:bg u p ((((n+1):Nat):Int))=bg s p ((((n+1):Nat):Int)):=EF ht (fun hh=>hk p (by simp [ik]) hh) h.2.1
  have eb:lu u n p=lu s n p:=congrArg Prod.fst e
  have hq:∀q∈lu s n p,rn u n q∧ik u n q=ik s n q∧xf u n q=xf s n q∧uF u n q=uF s n q:=fun q hq=>
   KG ht (h.2.2 q hq) fun x hx hh=>hk x (by
    show x∈p::(lu s n p).flatMap (ik s n)
    exact List.mem_cons_of_mem _ (List.mem_flatMap.2 ⟨q,hq,hx⟩)) hh
  refine⟨⟨h.1,fun hh=>by rw [e];exact h.2.1 hh,fun q hx=>?_⟩,?_,?_,?_⟩
  ·rw [eb] at hx;exact (hq q hx).1
  ·show p::(lu u n p).flatMap (ik u n)=p::(lu s n p).flatMap (ik s n)
   rw [eb,jy fun q hx=>(hq q hx).2.1]
  ·show (lu u n p).flatMap (xf u n)=(lu s n p).flatMap (xf s n)
   rw [eb,jy fun q hx=>(hq q hx).2.2.1]
  ·show p::(lu u n p).flatMap (uF u n)=p::(lu s n p).flatMap (uF s n)
   rw [eb,jy fun q hx=>(hq q hx).2.2.2]
theorem ug {s u:ay}{O:Nat→Nat}{n:Nat}{p:Pt}(h:rn s n p) (ht:s.cg≤u.cg) (hk:Kp O s u) (hO:∀r,bn (ik s n p) r≤O r):rn u n p∧ik u n p=ik s n p∧xf u n p=xf s n p∧uF u n p=uF s n p:=
 KG ht h fun q hq hh=>hk _ (ZG1 (tT hq hh) (hO _))
theorem wy {u:ay}{p:Pt}{text:ByteArray}(hn:au p=false) (hr:nth ab u.rows (at' p)=text) (hf:iV p text=true):bF u p=(text,true):=by
 have hr:nth ab u.rows p.1.toNat=text:=hr
 rw [xX hn (by rw [hr];exact hf),hr]
theorem ahG:∀{l:List Pt},l.length=4→nR l=true→l=cu 4
 |[a,b,c,d],_,h=>by
  unfold nR at h
  simp only [List.any_cons,List.any_nil,ZF8,ZE1,Bool.not_eq_false'] at h
  rw [iq h.1,iq h.2.1,iq h.2.2.1,iq h.2.2.2.1];rfl
structure aln (s:ay) (O:Nat→Nat) (n:Nat) (l:List Pt) (old:Pt) (u:ay) (p:Pt) (fr:List Pt):Prop where
 acc:Acc u (fun r=>O r+bn fr r)
 kp:Kp O s u
 same:dP s u
 sub:rn u (n+1) p
 lu:lu u n p=l
 num:∀r,bn [p] r≤bn fr r+bn (bif ptrEq p old then [p] else []) r
theorem abU {s:ay}{O:Nat→Nat}{n:Nat}{l:List Pt}{old:Pt}(h:Acc s O) (hl:l.length=4) (hs:∀q∈l,rn s n q) (hc:∀r,bn (l.flatMap (ik s n)) r≤O r) (ho:rn s (n+1) old) (hz:(dZ s l ((((n+1):Nat):Int)) old).2.2=true):
  ∃fr,aln s O n l old (dZ s l ((((n+1):Nat):Int)) old).1 (dZ s l ((((n+1):Nat):Int)) old).2.1 fr:=by
 cases hn:nR l with
 |true=>
  rw [JA hn]
  refine⟨[],h.mono fun r=>ZB5 _,Kp.refl _ _,dP.refl _,kq s (n+1),?_,fun r=>?_⟩
  ·rw [oi rfl,ahG hl hn]
  ·rw [l5 rfl];exact ZA7 _
 |false=>
  have IV:(bE l).2=true:=vG hl (fun p hp=>(hs p hp).pok) (by exact hn)
  have tJ:=D8 IV
  cases hk:fC s l old with
  |true=>
   rw [I9 hn hk]
   have hk2:=hk
   unfold fC at hk2
   simp only [ZA9,ZF8,decide_eq_true_eq] at hk2
   obtain⟨hh,hf,abK⟩:=hk2
   have hb:=oh hh (ho.2.1 hh)
   have dE:bF s old=((bE l).1,true):=wy hh abK hf
   rw [dE] at hb
   refine⟨[],h.mono fun r=>ZB5 _,Kp.refl _ _,dP.refl _,ho,?_,fun r=>?_⟩
   ·show (bg s old _).1=l
    rw [hb.2.2.2.2.1,tJ]
   ·rw [r7.2 rfl];show bn [old] r≤bn [] r+bn [old] r;omega
  |false=>
   rw [tO hn hk] at hz ⊢
   obtain⟨abO,hkp,IT,hg,hd,ka⟩:=xE h hz
   generalize (bd s (bE l).1 ((((n+1):Nat):Int))).1=u at *
   generalize (bd s (bE l).1 ((((n+1):Nat):Int))).2.1=p at *
   have dE:bF u p=((bE l).1,true):=wy ka.nh ka.row ka.fits
   have ajj:l.any (late p)=false:=by
    rw [List.any_eq_false]
    intro q hq
    have:=(hs q hq).EE h.cg.1
    have hb:=ka.EE
    simp only [late,decide_eq_true_eq];omega
   have hb:bg u p ((((n+1):Nat):Int))=(l,true):=by
    rw [NH ka.nh ka.ok ka.lv (by rw [ka.EE,IT.cg];exact ZC1 _) (by rw [dE]) (by rw [dE,tJ];exact ajj),dE,tJ]
   refine⟨[p],⟨abO,hkp,IT,⟨ka.ok,fun _=>by rw [hb],fun q hq=>?_⟩,?_,fun r=>ZD3 _ _⟩⟩
   ·have hq:q∈l:=by
     have hq:q∈(bg u p ((((n+1):Nat):Int))).1:=hq
     rw [hb] at hq;exact hq
    exact (ug (hs q hq) (by rw [IT.cg];exact ZC1 _) hkp fun r=>ZB0 (fY hq) (hc r)).1
   ·show (bg u p ((((n+1):Nat):Int))).1=l
    rw [hb]
def rR (ks ws:List Pt):Prop:=∀f:Pt→Bool,ks.countP (fun p=> !(au p)&&f p)≤ws.countP (fun p=> !(au p)&&f p)
theorem rR.nil (ws:List Pt):rR [] ws:=fun _=>ZA7 _
theorem rR.append {a b c d:List Pt}(h:rR a b) (h2:rR c d):rR (a++c) (b++d):=fun f=>by
 rw [List.countP_append,List.countP_append];have:=h f;have:=h2 f;omega
structure aj0 (s:ay) (O:Nat→Nat) (n:Nat) (l j7:List Pt) (u:ay) (ps ks fr:List Pt):Prop where
 acc:Acc u (fun r=>O r+bn fr r)
 kp:Kp O s u
 same:dP s u
 sub:∀p∈ps,rn u (n+1) p
 lu:ps.flatMap (lu u n)=l
 num:∀r,bn ps r≤bn fr r+bn ks r
 dom:rR ks j7
theorem ajC {l:List Pt}{i m:Nat}(hl:l.length=4*m) (hi:i<m):qK l i++l.drop (4*(i+1))=l.drop (4*i)∧(qK l i).length=4:=by
 have e:qK l i=(l.drop (4*i)).take 4:=by
  unfold qK
  rw [show 0+((i:Int)*4).toNat=4*i by omega,show (((i:Int)+1)*4).toNat-((i:Int)*4).toNat=4 by omega]
 rw [e]
 refine⟨?_,by rw [ZC0,ZD0];omega⟩
 rw [show 4*(i+1)=4*i+4 by omega,←List.drop_drop,List.take_append_drop]
theorem tN {n:Nat}{j7 l:List Pt}{m:Nat}(hl:l.length=4*m):∀{f:Nat}{s u:ay}{i:Nat}{nx sy nn y:List Pt}{O:Nat→Nat},fH f s ((((n+1):Nat):Int)) j7 l i nx sy=(u,some (nn,y))→Acc s O→m≤i+f→i≤m→(∀q∈l.drop (4*i),rn s n q)→(∀r,bn ((l.drop (4*i)).flatMap (ik s n)) r≤O r)→(∀j,rn s (n+1) (nth ae j7 j))→(∀j r,bn (ik s (n+1) (nth ae j7 j)) r≤O r)→
  ∃ps ks fr,nn=nx++ps∧y=sy++ks∧ps.length=m-i∧aj0 s O n (l.drop (4*i)) (j7.drop i) u ps ks fr
 |0,s,u,i,nx,sy,nn,y,O,h,ha,hm,hi,hs,hc,hw,hwc=>by
  cases h
  have e:l.drop (4*i)=[]:=ZB3 (by omega)
  refine⟨[],[],[],by simp,by simp,by simp;omega,⟨ha.mono fun r=>ZB5 _,Kp.refl _ _,dP.refl _,(fun p hp=>by cases hp),by rw [e];rfl,fun r=>ZA7 _,rR.nil _⟩⟩
 |f+1,s,u,i,nx,sy,nn,y,O,h,ha,hm,hi,hs,hc,hw,hwc=>by
  cases hcd:decide ((i:Int)*4<l.length) with
  |false=>
   have FF:=aA hcd
   rw [fH,hcd] at h
   cases h
   have e:l.drop (4*i)=[]:=ZB3 (by omega)
   refine⟨[],[],[],by simp,by simp,by simp;omega,⟨ha.mono fun r=>ZB5 _,Kp.refl _ _,dP.refl _,(fun p hp=>by cases hp),by rw [e];rfl,fun r=>ZA7 _,rR.nil _⟩⟩
  |true=>
   have bU:=aJ hcd
   have him:i<m:=by omega
   rw [fH,hcd,cond_true] at h
   cases hz: !(dZ s (qK l i) ((((n+1):Nat):Int)) (nth ae j7 i)).2.2 with
   |true=>rw [hz] at h;cases h
   |false=>
    rw [hz,cond_false] at h
    obtain⟨hd1,hd2⟩:=ajC hl him
    rw [←hd1] at hs hc
    have hc1:∀r,bn ((qK l i).flatMap (ik s n)) r≤O r:=fun r=>by
     have:=hc r;rw [List.flatMap_append,bI] at this;omega
    have hc2:∀r,bn ((l.drop (4*(i+1))).flatMap (ik s n)) r≤O r:=fun r=>by
     have:=hc r;rw [List.flatMap_append,bI] at this;omega
    obtain⟨fr1,hF⟩:=abU ha hd2 (fun q hq=>hs q (by simp [hq])) hc1 (hw i) (oD hz)
    generalize (dZ s (qK l i) ((((n+1):Nat):Int)) (nth ae j7 i)).1=s1 at *
    generalize (dZ s (qK l i) ((((n+1):Nat):Int)) (nth ae j7 i)).2.1=p at *
    have htx:s.cg≤s1.cg:=by rw [hF.same.cg];exact ZC1 _
    have hk2:∀q∈l.drop (4*(i+1)),rn s1 n q∧ik s1 n q=ik s n q∧xf s1 n q=xf s n q∧uF s1 n q=uF s n q:=fun q hq=>
     ug (hs q (by simp [hq])) htx hF.kp fun r=>ZB0 (fY hq) (hc2 r)
    have hwk:∀j,rn s1 (n+1) (nth ae j7 j)∧ik s1 (n+1) (nth ae j7 j)=ik s (n+1) (nth ae j7 j)∧xf s1 (n+1) (nth ae j7 j)=xf s (n+1) (nth ae j7 j)∧uF s1 (n+1) (nth ae j7 j)=uF s (n+1) (nth ae j7 j):=fun j=>
     ug (hw j) htx hF.kp (hwc j)
    have lY:=tN hl h hF.acc (by omega) (by omega) (fun q hq=>(hk2 q hq).1) (fun r=>by
     rw [jy fun q hq=>(hk2 q hq).2.1]
     exact ZB0 (hc2 r) (ZD3 _ _)) (fun j=>(hwk j).1) (fun j r=>by rw [(hwk j).2.1];exact ZB0 (hwc j r) (ZD3 _ _))
    obtain⟨ps,ks,fr,e1,e2,e3,hR⟩:=lY
    have oQ:∀q∈ik s1 (n+1) p,au q=false→0<O (at' q)+bn fr1 (at' q):=fun q hq hh=>by
     have hq:q∈p::(lu s1 n p).flatMap (ik s1 n):=hq
     rcases ZB8.1 hq with rfl |hq
     ·have h1:=hF.num (at' q)
      rw [rI hh] at h1
      cases he:ptrEq q (nth ae j7 i) with
      |false=>rw [he,cond_false,rk] at h1;omega
      |true=>
       rw [r7.1 he] at hh ⊢
       have h2:0<bn (ik s (n+1) (nth ae j7 i)) (at' (nth ae j7 i)):=tT (by simp [ik]) hh
       have:=hwc i (at' (nth ae j7 i));omega
     ·rw [hF.lu] at hq
      obtain⟨x,hx,hxq⟩:=List.mem_flatMap.1 hq
      have e:=(ug (hs x (by simp [hx])) htx hF.kp fun r=>ZB0 (fY hx) (hc1 r)).2.1
      rw [e] at hxq
      have h2:0<bn (ik s n x) (at' q):=tT hxq hh
      have h3:=fY (f:=ik s n) (r:=at' q) hx
      have:=hc1 (at' q);omega
    have htu:s1.cg≤u.cg:=by rw [hR.same.cg];exact ZC1 _
    have uv:=KG htu hF.sub fun q hq hh=>hR.kp _ (oQ q hq hh)
    have ak9:lu u n p=qK l i:=by
     have e:bg u p ((((n+1):Nat):Int))=bg s1 p ((((n+1):Nat):Int)):=EF htu (fun hh=>hR.kp _ (oQ p (by simp [ik]) hh)) hF.sub.2.1
     rw [←hF.lu];exact congrArg Prod.fst e
    refine⟨p::ps,(bif ptrEq p (nth ae j7 i) then [p] else [])++ks,fr1++fr,?_,?_,by rw [ZA1,e3];omega,⟨?_,?_,hF.same.trans hR.same,?_,?_,fun r=>?_,?_⟩⟩
    ·rw [e1,ZD2];rfl
    ·rw [e2]
     cases ptrEq p (nth ae j7 i) with
     |true=>simp only [cond_true,ZD2]
     |false=>simp only [cond_false,ZC9]
    ·exact hR.acc.mono fun r=>by show O r+bn (fr1++fr) r≤O r+bn fr1 r+bn fr r;rw [bI];omega
    ·exact hF.kp.trans (hR.kp.mono fun r=>ZD3 _ _)
    ·intro q hq
     rcases ZB8.1 hq with rfl |hq
     ·exact uv.1
     ·exact hR.sub q hq
    ·rw [ZD5,ak9,hR.lu,hd1]
    ·have h1:=hF.num r
     have h2:=hR.num r
     rw [dO,bI,bI];omega
    ·have hd:rR (bif ptrEq p (nth ae j7 i) then [p] else []) [nth ae j7 i]:=by
      cases he:ptrEq p (nth ae j7 i) with
      |false=>exact rR.nil _
      |true=>rw [r7.1 he];exact fun f=>ZB5 _
     by_cases hiw:i<j7.length
     ·rw [bW (ek:=ae) hiw]
      exact rR.append hd hR.dom
     ·have e0:j7.drop i=[]:=ZB3 (by omega)
      have e1:j7.drop (i+1)=[]:=ZB3 (by omega)
      have hz:nth ae j7 i=bM:=tn (ek:=ae) (by omega)
      rw [e0]
      intro f
      have h1:=hd f
      have h2:=hR.dom f
      rw [e1] at h2
      rw [hz] at h1
      rw [List.countP_append]
      have h3:List.countP (fun p=> !(au p)&&f p) [bM]=0:=by simp [show au bM=true by decide]
      rw [hz]
      omega
end GL
namespace GL
theorem ra:∀(l:List Pt),l.flatMap (fun q=>[q])=l
 |[]=>rfl
 |q::l=>by rw [ZD5,ra l];rfl
theorem aco (s:ay) (l:List Pt):l.flatMap (ik s 0)=l:=ra l
theorem aiv (s:ay) (l:List Pt):l.flatMap (xf s 0)=l:=ra l
theorem YI (s:ay):∀(l:List Pt),l.flatMap (uF s 0)=[]
 |[]=>rfl
 |q::l=>by rw [ZD5,YI s l];rfl
theorem acn (s:ay):∀(l:List Pt),l.flatMap (uF s 1)=l
 |[]=>rfl
 |q::l=>by
  rw [ZD5,acn s l]
  show (q::(lu s 0 q).flatMap (uF s 0))++l=q::l
  rw [YI];rfl
theorem YH (s:ay) (q:Pt):xf s 1 q=lu s 0 q:=aiv s _
theorem tI {f:Pt→List Pt}{m:Nat}(h:f bM=cu m):∀(n:Nat),(cu n).flatMap f=cu (n*m)
 |0=>by rw [ZG7];rfl
 |n+1=>by
  rw [show cu (n+1)=bM::cu n from rfl,ZD5,h,tI h n]
  show List.replicate m bM++List.replicate (n*m) bM=List.replicate ((n+1)*m) bM
  rw [List.replicate_append_replicate];congr 1;rw [Nat.succ_mul];omega
theorem acm (s:ay):∀(n:Nat),xf s n bM=cu (4 ^ n)
 |0=>rfl
 |n+1=>by
  show (lu s n bM).flatMap (xf s n)=_
  rw [oi rfl,tI (acm s n) 4,Nat.pow_succ,Nat.mul_comm]
theorem fM (n r:Nat):bn (cu n) r=0:=by
 unfold bn
 rw [List.countP_eq_zero]
 intro p hp
 rw [show p=bM from (ZD6.1 hp).2]
 simp [KW,show au bM=true by rfl]
theorem za (s:ay) (r:Nat):∀(n:Nat),bn (ik s n bM) r=0
 |0=>l5 rfl r
 |n+1=>by
  show bn (bM::(lu s n bM).flatMap (ik s n)) r=0
  rw [dO,l5 rfl,oi rfl]
  have h:=za s r n
  simp only [cu,List.replicate,ZD5,List.flatMap_nil,bI,rk];omega
theorem RQ:∀(f:Nat) (l:List Pt),∃j,B1 f l=l++cu j
 |0,l=>⟨0,by simp [B1,cu]⟩
 |f+1,l=>by
  cases hc:decide ((l.length:Int) % 4≠0) with
  |false=>exact⟨0,by rw [acQ hc];simp [cu]⟩
  |true=>
   obtain⟨j,hj⟩:=RQ f (l++[bM])
   exact⟨j+1,by rw [acP hc,hj,ZD2];rfl⟩
theorem RO (l:List Pt):∃j,eJ l=l++cu j:=RQ 4 l
structure oF (s:ay) (t:bf) (d:Nat):Prop where
 dep:t.depth=((d:Nat):Int)
 le:d≤2
 snd:rn s d t.root
theorem rR.trans {a b c:List Pt}(h:rR a b) (h2:rR b c):rR a c:=fun f=>ZB0 (h f) (h2 f)
theorem rR.TE (n:Nat) (w:List Pt):rR (cu n) w:=fun f=>by
 rw [List.countP_eq_zero.2]
 ·exact ZA7 _
 ·intro p hp
  rw [show p=bM from (ZD6.1 hp).2]
  simp [show au bM=true by rfl]
theorem rR.bn {a b:List Pt}(h:rR a b) (r:Nat):bn a r≤bn b r:=by
 have:=h (fun p=>decide (at' p=r))
 exact this
theorem ac7 {s:ay}{t:bf}{d dt lv:Nat}(ht:oF s t dt) (FE:lv+1=d∨lv+2=d) (hd:d≤2):∀q∈dK s t (((d:Nat):Int)) ((((lv+1):Nat):Int)),q=bM∨(rn s (lv+1) q∧∀r,bn (ik s (lv+1) q) r≤bn (ik s dt t.root) r):=by
 intro q hq
 cases h1:decide (t.depth≠((d:Nat):Int)) with
 |true=>rw [B5 h1] at hq;exact .inl (ZD6.1 hq).2
 |false=>
  have he:dt=d:=by have:=aA h1;have:=ht.dep;omega
  subst he
  cases h2:decide ((((lv+1):Nat):Int)=((dt:Nat):Int)) with
  |true=>
   rw [HI h1 h2] at hq
   have h2:=aJ h2
   have e:dt=lv+1:=by omega
   subst e
   rw [ZC7.1 hq]
   exact .inr ⟨ht.snd,fun r=>ZB5 _⟩
  |false=>
   have h2':=aA h2
   have e:dt=lv+1+1:=by omega
   subst e
   cases h3: !(bg s t.root ((((lv+1+1):Nat):Int))).2 with
   |true=>rw [OP h1 h2 h3] at hq;exact .inl (ZD6.1 hq).2
   |false=>
    rw [HH h1 h2 h3] at hq
    refine .inr ⟨ht.snd.2.2 q hq,fun r=>?_⟩
    show _≤bn (t.root::(lu s (lv+1) t.root).flatMap (ik s (lv+1))) r
    rw [dO]
    have:=fY (f:=ik s (lv+1)) (r:=r) (l:=lu s (lv+1) t.root) hq
    omega
theorem si {s:ay}{t:bf}{d dt lv:Nat}(ht:oF s t dt) (FE:lv+1=d∨lv+2=d) (hd:d≤2) (j:Nat):rn s (lv+1) (nth ae (dK s t (((d:Nat):Int)) ((((lv+1):Nat):Int))) j)∧∀r,bn (ik s (lv+1) (nth ae (dK s t (((d:Nat):Int)) ((((lv+1):Nat):Int))) j)) r≤bn (ik s dt t.root) r:=by
 by_cases hj:j<(dK s t (((d:Nat):Int)) ((((lv+1):Nat):Int))).length
 ·rcases ac7 ht FE hd _ (bR (ek:=ae) hj) with e |h
  ·rw [e];exact⟨kq _ _,fun r=>by rw [za];exact ZA7 _⟩
  ·exact h
 ·rw [show nth ae (dK s t (((d:Nat):Int)) ((((lv+1):Nat):Int))) j=bM from tn (ek:=ae) (by omega)]
  exact⟨kq _ _,fun r=>by rw [za];exact ZA7 _⟩
theorem rR.filter (l:List Pt):rR l (l.filter fun p=> !(au p)):=fun f=>by
 rw [List.countP_filter]
 refine ZA8 ?_
 congr 1
 funext p
 cases au p<;>cases f p<;>rfl
theorem rR.nh {p:Pt}(h:au p=true) (w:List Pt):rR [p] w:=fun f=>by
 rw [show List.countP (fun p=> !(au p)&&f p) [p]=0 by simp [h]];exact ZA7 _
theorem ac9 {s:ay}{t:bf}{dt:Nat}(ht:oF s t dt):rR (dK s t (((1:Nat):Int)) (((1:Nat):Int))) (bw s t):=by
 cases h1:decide (t.depth≠((1:Nat):Int)) with
 |true=>rw [B5 h1];exact rR.TE _ _
 |false=>
  have hd:=aA h1
  rw [HI h1 (decide_eq_true rfl)]
  cases hh:au t.root with
  |true=>exact rR.nh hh _
  |false=>
   rw [zK (decide_eq_false (by omega)) hh (decide_eq_false (by omega))]
   exact fun f=>ZB5 _
theorem R6 {s s1:ay}{t:bf}{dt:Nat}(ht:oF s t dt):rR (dK s t (((2:Nat):Int)) (((1:Nat):Int))++dK s1 t (((2:Nat):Int)) (((2:Nat):Int))) (bw s t):=by
 cases h1:decide (t.depth≠((2:Nat):Int)) with
 |true=>rw [B5 h1,B5 h1];exact (rR.append (rR.TE 4 []) (rR.TE 4 (bw s t)))
 |false=>
  have hd:=aA h1
  rw [HI (s:=s1) h1 (decide_eq_true rfl)]
  cases hh:au t.root with
  |true=>
   refine rR.append (b:=[]) (d:=bw s t) ?_ (rR.nh hh _)
   rw [HH h1 (by decide) (by rw [ko hh];rfl),ko hh]
   exact rR.TE _ _
  |false=>
   rw [IM (decide_eq_false (by omega)) hh (decide_eq_true (by omega))]
   have hb:rR (dK s t (((2:Nat):Int)) (((1:Nat):Int))) ((bg s t.root 2).1.filter fun p=> !(au p)):=by
    cases h3: !(bg s t.root (((2:Nat):Int))).2 with
    |true=>rw [OP h1 (by decide) h3];exact rR.TE _ _
    |false=>rw [HH h1 (by decide) h3];exact rR.filter _
   intro f
   have h:=hb f
   rw [List.countP_append,List.countP_cons,List.countP_cons,List.countP_nil]
   omega
theorem CO {s:ay}{t:bf}{dt:Nat}(ht:oF s t dt) (r:Nat):bn (uF s dt t.root) r=bn (bw s t) r:=by
 have hd:=ht.dep
 have hl:=ht.le
 match dt,hl with
 |0,_=>rw [IN (decide_eq_true hd)];rfl
 |1,_=>
  rw [show uF s 1 t.root=[t.root] by show t.root::_=_;rw [YI]]
  cases hh:au t.root with
  |true=>rw [zL hh,l5 hh];rfl
  |false=>rw [zK (decide_eq_false (by omega)) hh (decide_eq_false (by omega))]
 |2,_=>
  rw [show uF s 2 t.root=t.root::lu s 1 t.root by show t.root::(lu s 1 t.root).flatMap (uF s 1)=_;rw [acn]]
  cases hh:au t.root with
  |true=>rw [zL hh,dO,l5 hh,oi hh,fM];rfl
  |false=>
   rw [IM (decide_eq_false (by omega)) hh (decide_eq_true hd),dO,dO t.root (List.filter _ _)]
   congr 1
   show bn (bg s t.root 2).1 r=_
   unfold bn
   rw [List.countP_filter]
   congr 1
   funext p
   unfold KW
   cases au p<;>simp
theorem aeO {n:Int}(h:n≤1):bj n=((0:Nat):Int):=by unfold bj;rw [decide_eq_true h];rfl
theorem XT {n:Int}(h0:1<n) (h:n≤4):bj n=((1:Nat):Int):=by unfold bj;rw [decide_eq_false (by omega),decide_eq_true h];rfl
theorem XS {n:Int}(h0:4<n):bj n=((2:Nat):Int):=by unfold bj;rw [decide_eq_false (by omega),decide_eq_false (by omega)];rfl
structure alm (s:ay) (t:bf) (O:Nat→Nat) (l:List Pt) (d:Nat) (u:ay) (root:Pt) (st fr:List Pt):Prop where
 acc:Acc u (fun r=>O r+bn fr r)
 kp:Kp O s u
 same:dP s u
 snd:rn u d root
 lv:∃k,xf u d root=l++cu k
 num:∀r,bn (uF u d root) r≤bn fr r+bn st r
 dom:rR st (bw s t)
theorem sU (p:Pt):rootOf [p]=p:=rfl
theorem abz {s u:ay}{t:bf}{O:Nat→Nat}{l nn st:List Pt}{many:Int}{dt:Nat}(h:mg 3 s t (bj many) 1 l []=(u,some (nn,st))) (ha:Acc s O) (ht:oF s t dt) (CQ:0≤many) (hm:many≤16) (hlen:l.length=many.toNat) (hs:∀q∈l,rn s 0 q) (hc:∀r,bn (bw s t) r+bn l r≤O r) (ho:∀r,bn (ik s dt t.root) r≤O r):
  ∃d fr,bj many=((d:Nat):Int)∧d≤2∧alm s t O l d u (rootOf nn) st fr:=by
 have hsp:∀j,∀q∈l++cu j,rn s 0 q:=fun j q hq=>by
  rcases ZB4.1 hq with hq |hq
  ·exact hs q hq
  ·rw [show q=bM from (ZD6.1 hq).2];exact kq s 0
 have hcl:∀r,bn l r≤O r:=fun r=>by have:=hc r;omega
 have rP:=HA l
 obtain⟨j,hj⟩:=RO l
 by_cases h1:many≤1
 ·rw [aeO h1] at h ⊢
  rw [O1 (decide_eq_false (by decide))] at h
  cases h
  refine⟨0,[],rfl,by omega,⟨ha.mono fun r=>ZB5 _,Kp.refl _ _,dP.refl _,?_,?_,fun r=>ZA7 _,rR.nil _⟩⟩
  ·match l,hlen,hs with
   |[],_,_=>exact kq s 0
   |[p],_,hs=>exact hs p (by simp)
   |_::_::_,hl,_=>simp at hl;omega
  ·match l,hlen with
   |[],_=>exact⟨1,rfl⟩
   |[p],_=>exact⟨0,rfl⟩
   |_::_::_,hl=>simp at hl;omega
 ·by_cases h4:many≤4
  ·rw [XT (by omega) h4] at h ⊢
   cases hf:fH 5 s 1 (dK s t (((1:Nat):Int)) 1) (eJ l) 0 [] [] with
   |mk s1 r1=>
    cases r1 with
    |none=>rw [OZ (decide_eq_true (by decide)) hf] at h;cases h
    |some q=>
     obtain⟨n1,st1⟩:=q
     rw [OY (decide_eq_true (by decide)) hf,O1 (decide_eq_false (by decide))] at h
     cases h
     have hl4:(eJ l).length=4*1:=by rw [rP];omega
     have hR:=tN (n:=0) hl4 hf ha (by omega) (by omega) (by rw [Nat.mul_zero,ZF0,hj];exact hsp j) (fun r=>by
      rw [Nat.mul_zero,ZF0,hj,aco,bI,fM];have:=hcl r;omega) (fun i=>(si (d:=1) (lv:=0) ht (.inl rfl) (by omega) i).1) (fun i r=>ZB0 ((si (d:=1) (lv:=0) ht (.inl rfl) (by omega) i).2 r) (ho r))
     obtain⟨ps,ks,fr,e1,e2,e3,hR⟩:=hR
     rw [Nat.mul_zero,ZF0,ZF0] at hR
     match ps,e3 with
     |[p],_=>
      rw [e1,e2]
      simp only [ZC9]
      have hb:=hR.lu
      rw [ZD5,List.flatMap_nil,ZE5] at hb
      refine⟨1,fr,rfl,by omega,⟨hR.acc,hR.kp,hR.same,hR.sub p (by simp),⟨j,?_⟩,fun r=>?_,hR.dom.trans (ac9 ht)⟩⟩
      ·rw [sU,YH,hb,hj]
      ·rw [sU,show uF u 1 p=[p] by show p::(lu u 0 p).flatMap (uF u 0)=[p];rw [YI]]
       exact hR.num r
  ·rw [XS (by omega)] at h ⊢
   cases hf:fH 5 s 1 (dK s t (((2:Nat):Int)) 1) (eJ l) 0 [] [] with
   |mk s1 r1=>
    cases r1 with
    |none=>rw [OZ (decide_eq_true (by decide)) hf] at h;cases h
    |some q=>
     obtain⟨n1,st1⟩:=q
     rw [OY (decide_eq_true (by decide)) hf,show (1:Int)+1=2 from rfl] at h
     obtain⟨m1,hm1,hm2,hl4⟩:∃m,2≤m∧m≤4∧(eJ l).length=4*m:=⟨(l.length+3) / 4,by omega,by omega,by rw [rP];omega⟩
     have hR:=tN (n:=0) hl4 hf ha (by omega) (by omega) (by rw [Nat.mul_zero,ZF0,hj];exact hsp j) (fun r=>by
      rw [Nat.mul_zero,ZF0,hj,aco,bI,fM];have:=hcl r;omega) (fun i=>(si (d:=2) (lv:=0) ht (.inr rfl) (by omega) i).1) (fun i r=>ZB0 ((si (d:=2) (lv:=0) ht (.inr rfl) (by omega) i).2 r) (ho r))
     obtain⟨ps,ks,fr,e1,e2,e3,hR⟩:=hR
     rw [Nat.mul_zero,ZF0,ZF0] at hR
     simp only [ZC9] at e1 e2
     subst e1 e2
     have akM:=HA n1
     obtain⟨j2,yF⟩:=RO n1
     have akX:(eJ n1).length=4*1:=by rw [akM];omega
     cases hf2:fH 5 s1 2 (dK s1 t (((2:Nat):Int)) 2) (eJ n1) 0 [] st1 with
     |mk s2 r2=>
      cases r2 with
      |none=>rw [OZ (decide_eq_true (by decide)) hf2] at h;cases h
      |some q2=>
       obtain⟨n2,st2⟩:=q2
       rw [OY (decide_eq_true (by decide)) hf2,O1 (decide_eq_false (by decide))] at h
       cases h
       have htx:s.cg≤s1.cg:=by rw [hR.same.cg];exact ZC1 _
       have ZP:=ug ht.snd htx hR.kp ho
       have ht1:oF s1 t dt:=⟨ht.dep,ht.le,ZP.1⟩
       have agJ:∀q∈eJ n1,rn s1 1 q:=fun q hq=>by
        rw [yF] at hq
        rcases ZB4.1 hq with hq |hq
        ·exact hR.sub q hq
        ·rw [show q=bM from (ZD6.1 hq).2];exact kq s1 1
       have hA1:∀(x:ay) (m:List Pt) (r:Nat),bn (m.flatMap (ik x 1)) r=bn m r+bn (m.flatMap (lu x 0)) r:=fun x m r=>by
        have:=vN (f:=ik x 1) (g:=fun q=>[q]) (h:=lu x 0) (r:=r) (l:=m) fun q _=>by
         show bn (q::(lu x 0 q).flatMap (ik x 0)) r=_
         rw [aco,dO]
        rw [this,ra]
       have ajo:∀r,bn ((eJ n1).flatMap (ik s1 1)) r≤O r+bn fr r:=fun r=>by
        rw [hA1,yF,List.flatMap_append,bI,bI,hR.lu,fM,hj,bI,fM]
        rw [tI (f:=lu s1 0) (m:=4) (oi rfl),fM]
        have h1:=hR.num r
        have h2:=(hR.dom.trans (rR.trans (b:=dK s t (((2:Nat):Int)) (((1:Nat):Int))++dK s t (((2:Nat):Int)) (((2:Nat):Int))) (fun f=>by rw [List.countP_append];exact ZD3 _ _) (R6 ht))).bn r
        have h3:=hc r
        omega
       have hR2:=tN (n:=1) akX hf2 hR.acc (by omega) (by omega) (by rw [Nat.mul_zero,ZF0];exact agJ) (fun r=>by
        rw [Nat.mul_zero,ZF0];exact ajo r) (fun i=>(si (d:=2) (lv:=1) ht1 (.inl rfl) (by omega) i).1) (fun i r=>by
        have h1:=(si (d:=2) (lv:=1) ht1 (.inl rfl) (by omega) i).2 r
        rw [ZP.2.1] at h1
        have:=ho r
        exact ZB0 h1 (by omega))
       obtain⟨ps2,ks2,fr2,e21,e22,e23,hR2⟩:=hR2
       rw [Nat.mul_zero,ZF0,ZF0] at hR2
       match ps2,e23 with
       |[p2],_=>
        rw [e21,e22]
        simp only [ZC9]
        have hb:=hR2.lu
        rw [ZD5,List.flatMap_nil,ZE5] at hb
        have akG:s1.cg≤u.cg:=by rw [hR2.same.cg];exact ZC1 _
        have ES:∀q∈eJ n1,xf u 1 q=xf s1 1 q:=fun q hq=>
         (ug (agJ q hq) akG hR2.kp fun r=>ZB0 (fY hq) (ajo r)).2.2.1
        refine⟨2,fr++fr2,rfl,by omega,⟨?_,?_,hR.same.trans hR2.same,hR2.sub p2 (by simp),⟨j+j2*4,?_⟩,fun r=>?_,?_⟩⟩
        ·exact hR2.acc.mono fun r=>by show O r+bn (fr++fr2) r≤O r+bn fr r+bn fr2 r;rw [bI];omega
        ·exact hR.kp.trans (hR2.kp.mono fun r=>ZD3 _ _)
        ·rw [sU]
         show (lu u 1 p2).flatMap (xf u 1)=_
         rw [hb,jy ES,jy fun q _=>YH s1 q,yF,List.flatMap_append,hR.lu,hj,tI (f:=lu s1 0) (m:=4) (oi rfl),ZD2]
         congr 1
         show List.replicate j bM++List.replicate (j2*4) bM=_
         rw [List.replicate_append_replicate];rfl
        ·rw [sU,show uF u 2 p2=p2::eJ n1 by show p2::(lu u 1 p2).flatMap (uF u 1)=_;rw [acn,hb]]
         rw [dO,yF,bI,fM,bI,bI]
         have h1:=hR.num r
         have h2:=hR2.num r
         omega
        ·exact (rR.append hR.dom hR2.dom).trans (R6 ht)
end GL
namespace GL
theorem rn.bt {s:ay}{n:Nat}{p:Pt}(h:rn s (n+1) p):(bg s p ((((n+1):Nat):Int))).2=true:=by
 cases hh:au p with
 |true=>rw [ko hh]
 |false=>exact h.2.1 hh
theorem wo {s:ay}{n:Nat}:∀{l acc:List Pt},(∀q∈l,rn s (n+1) q)→fw s ((((n+1):Nat):Int)) l acc=some (acc++l.flatMap (lu s n))
 |[],acc,_=>by rw [List.flatMap_nil,ZE5];rfl
 |p::l,acc,h=>by
  rw [NS (by rw [(h p (by simp)).bt];rfl),wo fun q hq=>h q (by simp [hq]),ZD5,ZD2]
theorem FO {s:ay}{n:Nat}{p:Pt}(h:rn s (n+1) p):(lu s n p).length=4:=(iE s p ((((n+1):Nat):Int))).2 h.bt
theorem TQ {s:ay}{n:Nat}:∀{l:List Pt},(∀q∈l,rn s (n+1) q)→(l.flatMap (lu s n)).length=4*l.length
 |[],_=>rfl
 |p::l,h=>by
  rw [ZD5,ZA0,FO (h p (by simp)),TQ fun q hq=>h q (by simp [hq]),ZA1];omega
theorem aiu (s:ay) (p:Pt):xf s 2 p=(lu s 1 p).flatMap (lu s 0):=by
 show (lu s 1 p).flatMap (xf s 1)=_
 rw [jy fun q _=>YH s q]
theorem DW {s:ay}{t:bf}{d:Nat}(h:oF s t d):bA s t=(xf s d t.root,true)∧(xf s d t.root).length=4 ^ d:=by
 have hd:=h.dep
 have hl:=h.le
 have hs:=h.snd
 unfold bA
 rw [hd]
 match d,hl with
 |0,_=>exact⟨vn (by decide),rfl⟩
 |1,_=>
  have h1:=wo (s:=s) (n:=0) (l:=[t.root]) (acc:=[]) (fun q hq=>by rw [ZC7.1 hq];exact hs)
  rw [CD (by decide) h1,vn (by decide),YH]
  rw [ZC9,ZD5,List.flatMap_nil,ZE5]
  exact⟨rfl,FO hs⟩
 |2,_=>
  have h1:=wo (s:=s) (n:=1) (l:=[t.root]) (acc:=[]) (fun q hq=>by rw [ZC7.1 hq];exact hs)
  rw [ZC9,ZD5,List.flatMap_nil,ZE5] at h1
  have h2:=wo (s:=s) (n:=0) (l:=lu s 1 t.root) (acc:=[]) hs.2.2
  rw [CD (by decide) h1,show (((2:Nat):Int)-1)=(((0+1):Nat):Int) from rfl,CD (by decide) h2,vn (by decide),aiu,ZC9]
  refine⟨rfl,?_⟩
  rw [TQ hs.2.2,FO hs]
theorem mw {s:ay}{t:bf}{d:Nat}(h:oF s t d):aB s t=xf s d t.root++cu (16-4 ^ d):=by
 have ⟨h1,h2⟩:=DW h
 unfold aB
 rw [h1]
 simp only
 rw [h2];congr 2;omega
theorem oF.trd {s:ay}{t:bf}{d:Nat}(h:oF s t d):t.rd:=⟨by have:=h.dep;have:=h.le;omega,h.snd.pok⟩
theorem yI {st:List Pt}:∀{l:List Pt}{s:ay}{O X:Nat→Nat},Acc s O→(∀p∈l,aZ p=true)→(∀r,X r+bn (l.filter fun o=> !(gV st o)) r≤O r)→Acc (dW l st s) X∧Kp X s (dW l st s)∧dP s (dW l st s)
 |[],s,O,X,h,_,hO=>⟨h.mono fun r=>by have:=hO r;omega,Kp.refl _ _,dP.refl _⟩
 |o::l,s,O,X,h,hl,hO=>by
  cases hk:gV st o with
  |true=>
   rw [TL hk]
   exact yI h (fun p hp=>hl p (by simp [hp])) fun r=>by
    have:=hO r
    rw [List.filter_cons_of_neg (by rw [hk];decide)] at this
    exact this
  |false=>
   rw [TM hk]
   have h1:=CY (O':=fun r=>X r+bn (l.filter fun o=> !(gV st o)) r) h (hl o (by simp)) (fun r=>by
    have:=hO r
    rw [List.filter_cons_of_pos (by rw [hk];rfl),dO] at this
    show X r+_+_≤_;omega)
   have h2:=yI (X:=X) h1.1 (fun p hp=>hl p (by simp [hp])) fun r=>ZB5 _
   exact⟨h2.1,(h1.2.1.mono fun r=>ZD3 _ _).trans h2.2.1,h1.2.2.trans h2.2.2⟩
theorem NA (f:Pt→Bool) (r:Nat):∀(l:List Pt),bn l r=bn (l.filter f) r+bn (l.filter fun o=> !(f o)) r
 |[]=>rfl
 |o::l=>by
  have ih:=NA f r l
  rw [dO]
  cases h:f o with
  |true=>rw [List.filter_cons_of_pos h,List.filter_cons_of_neg (by rw [h];decide),dO o (l.filter f)];omega
  |false=>rw [List.filter_cons_of_neg (by rw [h];decide),List.filter_cons_of_pos (by rw [h];rfl),dO o (l.filter _)];omega
theorem adG {st:List Pt}{p:Pt}(h:p∈st):gV st p=true:=by
 unfold gV
 rw [List.any_eq_true]
 exact⟨p,h,r7.2 rfl⟩
theorem afq {st inner:List Pt}(h:rR st inner) (r:Nat):bn st r≤bn (inner.filter (gV st)) r:=by
 have h1:=h (fun p=>decide (at' p=r)&&gV st p)
 have e1:st.countP (fun p=> !(au p)&&(decide (at' p=r)&&gV st p))=bn st r:=by
  unfold bn
  refine List.countP_congr fun p hp=>?_
  unfold KW
  rw [adG hp,Bool.and_true]
 have e2:inner.countP (fun p=> !(au p)&&(decide (at' p=r)&&gV st p))=bn (inner.filter (gV st)) r:=by
  unfold bn
  rw [List.countP_filter]
  congr 1
  funext p
  unfold KW
  rw [Bool.and_assoc]
 omega
structure Laid (s:ay) (Y:Nat→Nat) (l:List Pt) (many:Int) (u:ay) (t':bf) (d:Nat):Prop where
 rr:oF u t' d
 dm:bj many=((d:Nat):Int)
 many:t'.many=many
 lv:∃k,xf u d t'.root=l++cu k
 acc:Acc u (fun r=>Y r+bn (uF u d t'.root) r)
 kp:Kp Y s u
 same:dP s u
theorem L2 {s:ay}{t:bf}{L:List Pt}{many:Int}{O Y:Nat→Nat}{dt:Nat}(ha:Acc s O) (ht:oF s t dt) (CQ:0≤many) (hm:many≤16) (hL:many.toNat≤L.length) (hs:∀q∈L.take many.toNat,rn s 0 q) (hY:∀r,Y r+bn (bw s t) r≤O r) (hYl:∀r,bn (L.take many.toNat) r≤Y r) (ho:∀r,bn (ik s dt t.root) r≤O r) (hz:(bQ s t L many).2.2=true):
  ∃d,Laid s Y (L.take many.toNat) many (bQ s t L many).1 (bQ s t L many).2.1 d:=by
 unfold bQ at hz ⊢
 cases hf:mg 3 s t (bj many) 1 (L.take many.toNat) [] with
 |mk u r=>
  rw [hf] at hz
  cases r with
  |none=>cases hz
  |some q=>
   obtain⟨nn,st⟩:=q
   obtain⟨d,fr,hd,hd2,hR⟩:=abz hf ha ht CQ hm (by rw [ZC0];omega) hs (fun r=>by have:=hY r;have:=hYl r;omega) ho
   show∃d,Laid s Y (L.take many.toNat) many (dW (bw s t) st u) (LR (rootOf nn) (bj many) many) d
   obtain⟨k,hk⟩:=hR.lv
   have hX:=yI (st:=st) (l:=bw s t) (X:=fun r=>Y r+bn ((bw s t).filter (gV st)) r+bn fr r) hR.acc (MF ht.trd) fun r=>by
    have:=hY r
    have:=NA (gV st) r (bw s t)
    show Y r+_+_+_≤O r+bn fr r
    omega
   have afW:∀r,bn (uF u d (rootOf nn)) r≤bn fr r+bn ((bw s t).filter (gV st)) r:=fun r=>by
    have:=hR.num r
    have:=afq hR.dom r
    omega
   have uv:=ug hR.snd (by rw [hX.2.2.cg];exact ZC1 _) hX.2.1 fun r=>by
    rw [mx,hk,bI,fM]
    have:=afW r
    have:=hYl r
    show _≤Y r+_+_
    omega
   refine⟨d,⟨⟨hd,hd2,uv.1⟩,hd,rfl,⟨k,?_⟩,?_,?_,hR.same.trans hX.2.2⟩⟩
   ·show xf (dW (bw s t) st u) d (rootOf nn)=_
    rw [uv.2.2.1,hk]
   ·refine hX.1.mono fun r=>?_
    show Y r+bn (uF (dW (bw s t) st u) d (rootOf nn)) r≤_
    rw [uv.2.2.2]
    have:=afW r
    show _≤Y r+_+_
    omega
   ·exact (hR.kp.mono fun r=>by have:=hY r;omega).trans (hX.2.1.mono fun r=>by show _≤Y r+_+_;omega)
end GL
end Go.Proofs.YtclcgjhhehbdeaaGreatDoor
