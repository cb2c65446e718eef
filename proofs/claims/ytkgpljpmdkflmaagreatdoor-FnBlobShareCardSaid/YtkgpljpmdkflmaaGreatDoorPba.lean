/- A drawn law returns true for every code (its row lists package variables, tied by the card): part 27. -/
import Derived.Test.YtkgpljpmdkflmaaGreatDoorPau
import Derived.Test.YtkgpljpmdkflmaaGreatDoorPaz
set_option maxHeartbeats 20000000
set_option maxRecDepth 100000
set_option linter.all false
namespace Go.Proofs.YtkgpljpmdkflmaaGreatDoor
namespace GL
abbrev lC (s:ay) (n:Nat) (p:Pt):List Pt:=(bg s p ((((n+1):Nat):Int))).1
def rA (s:ay):Nat→Pt→Prop
 |0,p=>aZ p=true∧(au p=false→p.2.2.2.2=0∧p.2.1≤s.cj∧(bG s p).2=true)
 |n+1,p=>aZ p=true∧(au p=false→(bg s p ((((n+1):Nat):Int))).2=true)∧∀q∈lC s n p,rA s n q
def il (s:ay):Nat→Pt→List Pt
 |0,p=>[p]
 |n+1,p=>p::(lC s n p).flatMap (il s n)
def xm (s:ay):Nat→Pt→List Pt
 |0,p=>[p]
 |n+1,p=>(lC s n p).flatMap (xm s n)
def uM (s:ay):Nat→Pt→List Pt
 |0,_=>[]
 |n+1,p=>p::(lC s n p).flatMap (uM s n)
theorem vU {f g h:Pt→List Pt}{r:Nat}:∀{l:List Pt},(∀q∈l,bo (f q) r=bo (g q) r+bo (h q) r)→bo (l.flatMap f) r=bo (l.flatMap g) r+bo (l.flatMap h) r
 |[],_=>rfl
 |q::l,hq=>by
  simp only [ZD5,bJ]
  have h1:=hq q (by simp)
  have h2:=vU (l:=l) (fun q h=>hq q (by simp [h]))
  omega
theorem fZ {f:Pt→List Pt}{r:Nat}{q:Pt}:∀{l:List Pt},q∈l→bo (f q) r≤bo (l.flatMap f) r
 |p::l,hq=>by
  simp only [ZD5,bJ]
  rcases ZB8.1 hq with rfl |hq
  ·omega
  ·have:=fZ (f:=f) (r:=r) hq;omega
theorem jC {f g:Pt→List Pt}:∀{l:List Pt},(∀q∈l,f q=g q)→l.flatMap f=l.flatMap g
 |[],_=>rfl
 |q::l,h=>by
  simp only [ZD5]
  rw [h q (by simp),jC (l:=l) fun q hq=>h q (by simp [hq])]
theorem mE (s:ay) (r:Nat):∀(n:Nat) (p:Pt),bo (il s n p) r=bo (uM s n p) r+bo (xm s n p) r
 |0,p=>by show bo [p] r=bo [] r+bo [p] r;rw [rv];omega
 |n+1,p=>by
  show bo (p::(lC s n p).flatMap (il s n)) r=bo (p::(lC s n p).flatMap (uM s n)) r+bo ((lC s n p).flatMap (xm s n)) r
  rw [dQ,dQ p ((lC s n p).flatMap (uM s n))]
  have:=vU (f:=il s n) (g:=uM s n) (h:=xm s n) (r:=r) (l:=lC s n p) fun q _=>mE s r n q
  omega
theorem ow {s:ay}{n:Nat}{p:Pt}(h:au p=true):lC s n p=cw 4:=by show (bg s p _).1=_;rw [kx h]
theorem ov {s:ay}{p:Pt}{lv:Int}(h:au p=false) (h2:(bg s p lv).2=true):aZ p=true∧p.2.2.2.2=lv∧p.2.1≤s.cj∧(bG s p).2=true∧bg s p lv=bm (bG s p).1∧(bm (bG s p).1).2=true∧(bm (bG s p).1).1.any (late p)=false:=by
 cases h1: !(aZ p) with
 |true=>rw [KA h h1] at h2;cases h2
 |false=>
  cases h3:decide (p.2.2.2.2≠lv) with
  |true=>rw [wc h h3] at h2;cases h2
  |false=>
   cases h4:decide (p.2.1>s.cj) with
   |true=>rw [AG h h4] at h2;cases h2
   |false=>
    cases h5: !(bG s p).2 with
    |true=>rw [wb h h1 h3 h4 h5] at h2;cases h2
    |false=>
     have e:=wa h h1 h3 h4 h5
     rw [e] at h2
     cases h6:(bm (bG s p).1).1.any (late p) with
     |true=>rw [we h6] at h2;cases h2
     |false=>
      rw [sT h6] at h2 e
      have h3:=aA h3
      have h4:=aA h4
      exact⟨oJ h1,by omega,by omega,oJ h5,e,h2,rfl⟩
theorem NL {s:ay}{p:Pt}{lv:Int}(h:au p=false) (h1:aZ p=true) (h2:p.2.2.2.2=lv) (h3:p.2.1≤s.cj) (h4:(bG s p).2=true) (h5:(bm (bG s p).1).1.any (late p)=false):bg s p lv=bm (bG s p).1:=by
 rw [wa h (by rw [h1];rfl) (decide_eq_false (by omega)) (decide_eq_false (by omega)) (by rw [h4];rfl),sT h5]
theorem rA.pok {s:ay}{n:Nat}{p:Pt}(h:rA s n p):aZ p=true:=by cases n<;>exact h.1
theorem ky (s:ay):∀(n:Nat),rA s n bN
 |0=>⟨by decide,fun h=>by cases h⟩
 |n+1=>⟨by decide,(fun h=>by cases h),fun q hq=>by
   rw [ow (by decide)] at hq
   rw [show q=bN from (ZD6.1 hq).2]
   exact ky s n⟩
theorem rA.EJ {s:ay}{n:Nat}{p:Pt}(h:rA s n p) (ht:1≤s.cj):p.2.1≤s.cj:=by
 cases hh:au p with
 |true=>rw [ir hh];show (0:Int)≤_;omega
 |false=>
  cases n with
  |zero=>exact (h.2 hh).2.1
  |succ n=>exact (ov hh (h.2.1 hh)).2.2.1
theorem mL {s u:ay}{p:Pt}(h:au p=false→nth ab u.rows (at' p)=nth ab s.rows (at' p)):bG u p=bG s p:=by
 cases hh:au p with
 |true=>rw [fT hh,fT hh]
 |false=>
  have e:=h hh
  unfold bG
  rw [show nth ab u.rows p.1.toNat=nth ab s.rows p.1.toNat from e]
theorem EL {s u:ay}{p:Pt}{lv:Int}(ht:s.cj≤u.cj) (h:au p=false→nth ab u.rows (at' p)=nth ab s.rows (at' p)) (h2:au p=false→(bg s p lv).2=true):bg u p lv=bg s p lv:=by
 cases hh:au p with
 |true=>rw [kx hh,kx hh]
 |false=>
  obtain⟨h3,h4,h5,h6,h7,h8,h9⟩:=ov hh (h2 hh)
  have e:=mL h
  rw [h7,←e]
  exact NL hh h3 h4 (by omega) (by rw [e];exact h6) (by rw [e];exact h9)
theorem KK {s u:ay}(ht:s.cj≤u.cj):∀{n:Nat}{p:Pt},rA s n p→(∀q∈il s n p,au q=false→nth ab u.rows (at' q)=nth ab s.rows (at' q))→rA u n p∧il u n p=il s n p∧xm u n p=xm s n p∧uM u n p=uM s n p
 |0,p,h,hk=>by
  refine⟨⟨h.1,fun hh=>?_⟩,rfl,rfl,rfl⟩
  have h2:=h.2 hh
  exact⟨h2.1,by omega,by rw [mL (s:=s) (u:=u) (p:=p) (fun hh=>hk p (by simp [il]) hh)];exact h2.2.2⟩
 |n+1,p,h,hk=>by
  have e:bg u p ((((n+1):Nat):Int))=bg s p ((((n+1):Nat):Int)):=EL ht (fun hh=>hk p (by simp [il]) hh) h.2.1
  have eb:lC u n p=lC s n p:=congrArg Prod.fst e
  have hq:∀q∈lC s n p,rA u n q∧il u n q=il s n q∧xm u n q=xm s n q∧uM u n q=uM s n q:=fun q hq=>
   KK ht (h.2.2 q hq) fun x hx hh=>hk x (by
    show x∈p::(lC s n p).flatMap (il s n)
    exact List.mem_cons_of_mem _ (List.mem_flatMap.2 ⟨q,hq,hx⟩)) hh
  refine⟨⟨h.1,fun hh=>by rw [e];exact h.2.1 hh,fun q hx=>?_⟩,?_,?_,?_⟩
  ·rw [eb] at hx;exact (hq q hx).1
  ·show p::(lC u n p).flatMap (il u n)=p::(lC s n p).flatMap (il s n)
   rw [eb,jC fun q hx=>(hq q hx).2.1]
  ·show (lC u n p).flatMap (xm u n)=(lC s n p).flatMap (xm s n)
   rw [eb,jC fun q hx=>(hq q hx).2.2.1]
  ·show p::(lC u n p).flatMap (uM u n)=p::(lC s n p).flatMap (uM s n)
   rw [eb,jC fun q hx=>(hq q hx).2.2.2]
theorem uo {s u:ay}{O:Nat→Nat}{n:Nat}{p:Pt}(h:rA s n p) (ht:s.cj≤u.cj) (hk:Kp O s u) (hO:∀r,bo (il s n p) r≤O r):rA u n p∧il u n p=il s n p∧xm u n p=xm s n p∧uM u n p=uM s n p:=
 KK ht h fun q hq hh=>hk _ (ZG1 (tZ hq hh) (hO _))
theorem wF {u:ay}{p:Pt}{text:ByteArray}(hn:au p=false) (hr:nth ab u.rows (at' p)=text) (hf:iZ p text=true):bG u p=(text,true):=by
 have hr:nth ab u.rows p.1.toNat=text:=hr
 rw [ye hn (by rw [hr];exact hf),hr]
theorem ahH:∀{l:List Pt},l.length=4→nY l=true→l=cw 4
 |[a,b,c,d],_,h=>by
  unfold nY at h
  simp only [List.any_cons,List.any_nil,ZF8,ZE1,Bool.not_eq_false'] at h
  rw [ir h.1,ir h.2.1,ir h.2.2.1,ir h.2.2.2.1];rfl
structure alq (s:ay) (O:Nat→Nat) (n:Nat) (l:List Pt) (old:Pt) (u:ay) (p:Pt) (fr:List Pt):Prop where
 acc:Acc u (fun r=>O r+bo fr r)
 kp:Kp O s u
 same:dR s u
 sub:rA u (n+1) p
 lC:lC u n p=l
 num:∀r,bo [p] r≤bo fr r+bo (bif ptrEq p old then [p] else []) r
theorem abY {s:ay}{O:Nat→Nat}{n:Nat}{l:List Pt}{old:Pt}(h:Acc s O) (hl:l.length=4) (hs:∀q∈l,rA s n q) (hc:∀r,bo (l.flatMap (il s n)) r≤O r) (ho:rA s (n+1) old) (hz:(ef s l ((((n+1):Nat):Int)) old).2.2=true):
  ∃fr,alq s O n l old (ef s l ((((n+1):Nat):Int)) old).1 (ef s l ((((n+1):Nat):Int)) old).2.1 fr:=by
 cases hn:nY l with
 |true=>
  rw [JF hn]
  refine⟨[],h.mono fun r=>ZB5 _,Kp.refl _ _,dR.refl _,ky s (n+1),?_,fun r=>?_⟩
  ·rw [ow rfl,ahH hl hn]
  ·rw [mc rfl];exact ZA7 _
 |false=>
  have I0:(bF l).2=true:=vN hl (fun p hp=>(hs p hp).pok) (by exact hn)
  have tP:=ED I0
  cases hk:fE s l old with
  |true=>
   rw [JE hn hk]
   have hk2:=hk
   unfold fE at hk2
   simp only [ZA9,ZF8,decide_eq_true_eq] at hk2
   obtain⟨hh,hf,abO⟩:=hk2
   have hb:=ov hh (ho.2.1 hh)
   have dG:bG s old=((bF l).1,true):=wF hh abO hf
   rw [dG] at hb
   refine⟨[],h.mono fun r=>ZB5 _,Kp.refl _ _,dR.refl _,ho,?_,fun r=>?_⟩
   ·show (bg s old _).1=l
    rw [hb.2.2.2.2.1,tP]
   ·rw [se.2 rfl];show bo [old] r≤bo [] r+bo [old] r;omega
  |false=>
   rw [tU hn hk] at hz ⊢
   obtain⟨abS,hkp,IY,hg,hd,kg⟩:=xL h hz
   generalize (bd s (bF l).1 ((((n+1):Nat):Int))).1=u at *
   generalize (bd s (bF l).1 ((((n+1):Nat):Int))).2.1=p at *
   have dG:bG u p=((bF l).1,true):=wF kg.nh kg.row kg.fits
   have ajm:l.any (late p)=false:=by
    rw [List.any_eq_false]
    intro q hq
    have:=(hs q hq).EJ h.cj.1
    have hb:=kg.EJ
    simp only [late,decide_eq_true_eq];omega
   have hb:bg u p ((((n+1):Nat):Int))=(l,true):=by
    rw [NL kg.nh kg.ok kg.lv (by rw [kg.EJ,IY.cj];exact ZC1 _) (by rw [dG]) (by rw [dG,tP];exact ajm),dG,tP]
   refine⟨[p],⟨abS,hkp,IY,⟨kg.ok,fun _=>by rw [hb],fun q hq=>?_⟩,?_,fun r=>ZD3 _ _⟩⟩
   ·have hq:q∈l:=by
     have hq:q∈(bg u p ((((n+1):Nat):Int))).1:=hq
     rw [hb] at hq;exact hq
    exact (uo (hs q hq) (by rw [IY.cj];exact ZC1 _) hkp fun r=>ZB0 (fZ hq) (hc r)).1
   ·show (bg u p ((((n+1):Nat):Int))).1=l
    rw [hb]
def rY (ks ws:List Pt):Prop:=∀f:Pt→Bool,ks.countP (fun p=> !(au p)&&f p)≤ws.countP (fun p=> !(au p)&&f p)
theorem rY.nil (ws:List Pt):rY [] ws:=fun _=>ZA7 _
theorem rY.append {a b c d:List Pt}(h:rY a b) (h2:rY c d):rY (a++c) (b++d):=fun f=>by
 rw [List.countP_append,List.countP_append];have:=h f;have:=h2 f;omega
structure aj3 (s:ay) (O:Nat→Nat) (n:Nat) (l kc:List Pt) (u:ay) (ps ks fr:List Pt):Prop where
 acc:Acc u (fun r=>O r+bo fr r)
 kp:Kp O s u
 same:dR s u
 sub:∀p∈ps,rA u (n+1) p
 lC:ps.flatMap (lC u n)=l
 num:∀r,bo ps r≤bo fr r+bo ks r
 dom:rY ks kc
theorem ajF {l:List Pt}{i m:Nat}(hl:l.length=4*m) (hi:i<m):qR l i++l.drop (4*(i+1))=l.drop (4*i)∧(qR l i).length=4:=by
 have e:qR l i=(l.drop (4*i)).take 4:=by
  unfold qR
  rw [show 0+((i:Int)*4).toNat=4*i by omega,show (((i:Int)+1)*4).toNat-((i:Int)*4).toNat=4 by omega]
 rw [e]
 refine⟨?_,by rw [ZC0,ZD0];omega⟩
 rw [show 4*(i+1)=4*i+4 by omega,←List.drop_drop,List.take_append_drop]
theorem tT {n:Nat}{kc l:List Pt}{m:Nat}(hl:l.length=4*m):∀{f:Nat}{s u:ay}{i:Nat}{nx sy nn y:List Pt}{O:Nat→Nat},fJ f s ((((n+1):Nat):Int)) kc l i nx sy=(u,some (nn,y))→Acc s O→m≤i+f→i≤m→(∀q∈l.drop (4*i),rA s n q)→(∀r,bo ((l.drop (4*i)).flatMap (il s n)) r≤O r)→(∀j,rA s (n+1) (nth ae kc j))→(∀j r,bo (il s (n+1) (nth ae kc j)) r≤O r)→
  ∃ps ks fr,nn=nx++ps∧y=sy++ks∧ps.length=m-i∧aj3 s O n (l.drop (4*i)) (kc.drop i) u ps ks fr
 |0,s,u,i,nx,sy,nn,y,O,h,ha,hm,hi,hs,hc,hw,hwc=>by
  cases h
  have e:l.drop (4*i)=[]:=ZB3 (by omega)
  refine⟨[],[],[],by simp,by simp,by simp;omega,⟨ha.mono fun r=>ZB5 _,Kp.refl _ _,dR.refl _,(fun p hp=>by cases hp),by rw [e];rfl,fun r=>ZA7 _,rY.nil _⟩⟩
 |f+1,s,u,i,nx,sy,nn,y,O,h,ha,hm,hi,hs,hc,hw,hwc=>by
  cases hcd:decide ((i:Int)*4<l.length) with
  |false=>
   have FK:=aA hcd
   rw [fJ,hcd] at h
   cases h
   have e:l.drop (4*i)=[]:=ZB3 (by omega)
   refine⟨[],[],[],by simp,by simp,by simp;omega,⟨ha.mono fun r=>ZB5 _,Kp.refl _ _,dR.refl _,(fun p hp=>by cases hp),by rw [e];rfl,fun r=>ZA7 _,rY.nil _⟩⟩
  |true=>
   have bV:=aJ hcd
   have him:i<m:=by omega
   rw [fJ,hcd,cond_true] at h
   cases hz: !(ef s (qR l i) ((((n+1):Nat):Int)) (nth ae kc i)).2.2 with
   |true=>rw [hz] at h;cases h
   |false=>
    rw [hz,cond_false] at h
    obtain⟨hd1,hd2⟩:=ajF hl him
    rw [←hd1] at hs hc
    have hc1:∀r,bo ((qR l i).flatMap (il s n)) r≤O r:=fun r=>by
     have:=hc r;rw [List.flatMap_append,bJ] at this;omega
    have hc2:∀r,bo ((l.drop (4*(i+1))).flatMap (il s n)) r≤O r:=fun r=>by
     have:=hc r;rw [List.flatMap_append,bJ] at this;omega
    obtain⟨fr1,hF⟩:=abY ha hd2 (fun q hq=>hs q (by simp [hq])) hc1 (hw i) (oJ hz)
    generalize (ef s (qR l i) ((((n+1):Nat):Int)) (nth ae kc i)).1=s1 at *
    generalize (ef s (qR l i) ((((n+1):Nat):Int)) (nth ae kc i)).2.1=p at *
    have htx:s.cj≤s1.cj:=by rw [hF.same.cj];exact ZC1 _
    have hk2:∀q∈l.drop (4*(i+1)),rA s1 n q∧il s1 n q=il s n q∧xm s1 n q=xm s n q∧uM s1 n q=uM s n q:=fun q hq=>
     uo (hs q (by simp [hq])) htx hF.kp fun r=>ZB0 (fZ hq) (hc2 r)
    have hwk:∀j,rA s1 (n+1) (nth ae kc j)∧il s1 (n+1) (nth ae kc j)=il s (n+1) (nth ae kc j)∧xm s1 (n+1) (nth ae kc j)=xm s (n+1) (nth ae kc j)∧uM s1 (n+1) (nth ae kc j)=uM s (n+1) (nth ae kc j):=fun j=>
     uo (hw j) htx hF.kp (hwc j)
    have l9:=tT hl h hF.acc (by omega) (by omega) (fun q hq=>(hk2 q hq).1) (fun r=>by
     rw [jC fun q hq=>(hk2 q hq).2.1]
     exact ZB0 (hc2 r) (ZD3 _ _)) (fun j=>(hwk j).1) (fun j r=>by rw [(hwk j).2.1];exact ZB0 (hwc j r) (ZD3 _ _))
    obtain⟨ps,ks,fr,e1,e2,e3,hR⟩:=l9
    have oW:∀q∈il s1 (n+1) p,au q=false→0<O (at' q)+bo fr1 (at' q):=fun q hq hh=>by
     have hq:q∈p::(lC s1 n p).flatMap (il s1 n):=hq
     rcases ZB8.1 hq with rfl |hq
     ·have h1:=hF.num (at' q)
      rw [rP hh] at h1
      cases he:ptrEq q (nth ae kc i) with
      |false=>rw [he,cond_false,rv] at h1;omega
      |true=>
       rw [se.1 he] at hh ⊢
       have h2:0<bo (il s (n+1) (nth ae kc i)) (at' (nth ae kc i)):=tZ (by simp [il]) hh
       have:=hwc i (at' (nth ae kc i));omega
     ·rw [hF.lC] at hq
      obtain⟨x,hx,hxq⟩:=List.mem_flatMap.1 hq
      have e:=(uo (hs x (by simp [hx])) htx hF.kp fun r=>ZB0 (fZ hx) (hc1 r)).2.1
      rw [e] at hxq
      have h2:0<bo (il s n x) (at' q):=tZ hxq hh
      have h3:=fZ (f:=il s n) (r:=at' q) hx
      have:=hc1 (at' q);omega
    have htu:s1.cj≤u.cj:=by rw [hR.same.cj];exact ZC1 _
    have uB:=KK htu hF.sub fun q hq hh=>hR.kp _ (oW q hq hh)
    have alc:lC u n p=qR l i:=by
     have e:bg u p ((((n+1):Nat):Int))=bg s1 p ((((n+1):Nat):Int)):=EL htu (fun hh=>hR.kp _ (oW p (by simp [il]) hh)) hF.sub.2.1
     rw [←hF.lC];exact congrArg Prod.fst e
    refine⟨p::ps,(bif ptrEq p (nth ae kc i) then [p] else [])++ks,fr1++fr,?_,?_,by rw [ZA1,e3];omega,⟨?_,?_,hF.same.trans hR.same,?_,?_,fun r=>?_,?_⟩⟩
    ·rw [e1,ZD2];rfl
    ·rw [e2]
     cases ptrEq p (nth ae kc i) with
     |true=>simp only [cond_true,ZD2]
     |false=>simp only [cond_false,ZC9]
    ·exact hR.acc.mono fun r=>by show O r+bo (fr1++fr) r≤O r+bo fr1 r+bo fr r;rw [bJ];omega
    ·exact hF.kp.trans (hR.kp.mono fun r=>ZD3 _ _)
    ·intro q hq
     rcases ZB8.1 hq with rfl |hq
     ·exact uB.1
     ·exact hR.sub q hq
    ·rw [ZD5,alc,hR.lC,hd1]
    ·have h1:=hF.num r
     have h2:=hR.num r
     rw [dQ,bJ,bJ];omega
    ·have hd:rY (bif ptrEq p (nth ae kc i) then [p] else []) [nth ae kc i]:=by
      cases he:ptrEq p (nth ae kc i) with
      |false=>exact rY.nil _
      |true=>rw [se.1 he];exact fun f=>ZB5 _
     by_cases hiw:i<kc.length
     ·rw [bX (ek:=ae) hiw]
      exact rY.append hd hR.dom
     ·have e0:kc.drop i=[]:=ZB3 (by omega)
      have e1:kc.drop (i+1)=[]:=ZB3 (by omega)
      have hz:nth ae kc i=bN:=tB (ek:=ae) (by omega)
      rw [e0]
      intro f
      have h1:=hd f
      have h2:=hR.dom f
      rw [e1] at h2
      rw [hz] at h1
      rw [List.countP_append]
      have h3:List.countP (fun p=> !(au p)&&f p) [bN]=0:=by simp [show au bN=true by decide]
      rw [hz]
      omega
end GL
namespace GL
theorem rm:∀(l:List Pt),l.flatMap (fun q=>[q])=l
 |[]=>rfl
 |q::l=>by rw [ZD5,rm l];rfl
theorem acs (s:ay) (l:List Pt):l.flatMap (il s 0)=l:=rm l
theorem aiw (s:ay) (l:List Pt):l.flatMap (xm s 0)=l:=rm l
theorem YM (s:ay):∀(l:List Pt),l.flatMap (uM s 0)=[]
 |[]=>rfl
 |q::l=>by rw [ZD5,YM s l];rfl
theorem acr (s:ay):∀(l:List Pt),l.flatMap (uM s 1)=l
 |[]=>rfl
 |q::l=>by
  rw [ZD5,acr s l]
  show (q::(lC s 0 q).flatMap (uM s 0))++l=q::l
  rw [YM];rfl
theorem YL (s:ay) (q:Pt):xm s 1 q=lC s 0 q:=aiw s _
theorem tO {f:Pt→List Pt}{m:Nat}(h:f bN=cw m):∀(n:Nat),(cw n).flatMap f=cw (n*m)
 |0=>by rw [ZG7];rfl
 |n+1=>by
  rw [show cw (n+1)=bN::cw n from rfl,ZD5,h,tO h n]
  show List.replicate m bN++List.replicate (n*m) bN=List.replicate ((n+1)*m) bN
  rw [List.replicate_append_replicate];congr 1;rw [Nat.succ_mul];omega
theorem acq (s:ay):∀(n:Nat),xm s n bN=cw (4 ^ n)
 |0=>rfl
 |n+1=>by
  show (lC s n bN).flatMap (xm s n)=_
  rw [ow rfl,tO (acq s n) 4,Nat.pow_succ,Nat.mul_comm]
theorem fN (n r:Nat):bo (cw n) r=0:=by
 unfold bo
 rw [List.countP_eq_zero]
 intro p hp
 rw [show p=bN from (ZD6.1 hp).2]
 simp [K0,show au bN=true by rfl]
theorem zi (s:ay) (r:Nat):∀(n:Nat),bo (il s n bN) r=0
 |0=>mc rfl r
 |n+1=>by
  show bo (bN::(lC s n bN).flatMap (il s n)) r=0
  rw [dQ,mc rfl,ow rfl]
  have h:=zi s r n
  simp only [cw,List.replicate,ZD5,List.flatMap_nil,bJ,rv];omega
theorem RU:∀(f:Nat) (l:List Pt),∃j,B6 f l=l++cw j
 |0,l=>⟨0,by simp [B6,cw]⟩
 |f+1,l=>by
  cases hc:decide ((l.length:Int) % 4≠0) with
  |false=>exact⟨0,by rw [acU hc];simp [cw]⟩
  |true=>
   obtain⟨j,hj⟩:=RU f (l++[bN])
   exact⟨j+1,by rw [acT hc,hj,ZD2];rfl⟩
theorem RS (l:List Pt):∃j,eL l=l++cw j:=RU 4 l
structure oL (s:ay) (t:bf) (d:Nat):Prop where
 dep:t.depth=((d:Nat):Int)
 le:d≤2
 snd:rA s d t.root
theorem rY.trans {a b c:List Pt}(h:rY a b) (h2:rY b c):rY a c:=fun f=>ZB0 (h f) (h2 f)
theorem rY.TH (n:Nat) (w:List Pt):rY (cw n) w:=fun f=>by
 rw [List.countP_eq_zero.2]
 ·exact ZA7 _
 ·intro p hp
  rw [show p=bN from (ZD6.1 hp).2]
  simp [show au bN=true by rfl]
theorem rY.bo {a b:List Pt}(h:rY a b) (r:Nat):bo a r≤bo b r:=by
 have:=h (fun p=>decide (at' p=r))
 exact this
theorem adb {s:ay}{t:bf}{d dt lv:Nat}(ht:oL s t dt) (FJ:lv+1=d∨lv+2=d) (hd:d≤2):∀q∈dM s t (((d:Nat):Int)) ((((lv+1):Nat):Int)),q=bN∨(rA s (lv+1) q∧∀r,bo (il s (lv+1) q) r≤bo (il s dt t.root) r):=by
 intro q hq
 cases h1:decide (t.depth≠((d:Nat):Int)) with
 |true=>rw [CA h1] at hq;exact .inl (ZD6.1 hq).2
 |false=>
  have he:dt=d:=by have:=aA h1;have:=ht.dep;omega
  subst he
  cases h2:decide ((((lv+1):Nat):Int)=((dt:Nat):Int)) with
  |true=>
   rw [HM h1 h2] at hq
   have h2:=aJ h2
   have e:dt=lv+1:=by omega
   subst e
   rw [ZC7.1 hq]
   exact .inr ⟨ht.snd,fun r=>ZB5 _⟩
  |false=>
   have h2':=aA h2
   have e:dt=lv+1+1:=by omega
   subst e
   cases h3: !(bg s t.root ((((lv+1+1):Nat):Int))).2 with
   |true=>rw [OT h1 h2 h3] at hq;exact .inl (ZD6.1 hq).2
   |false=>
    rw [HL h1 h2 h3] at hq
    refine .inr ⟨ht.snd.2.2 q hq,fun r=>?_⟩
    show _≤bo (t.root::(lC s (lv+1) t.root).flatMap (il s (lv+1))) r
    rw [dQ]
    have:=fZ (f:=il s (lv+1)) (r:=r) (l:=lC s (lv+1) t.root) hq
    omega
theorem ss {s:ay}{t:bf}{d dt lv:Nat}(ht:oL s t dt) (FJ:lv+1=d∨lv+2=d) (hd:d≤2) (j:Nat):rA s (lv+1) (nth ae (dM s t (((d:Nat):Int)) ((((lv+1):Nat):Int))) j)∧∀r,bo (il s (lv+1) (nth ae (dM s t (((d:Nat):Int)) ((((lv+1):Nat):Int))) j)) r≤bo (il s dt t.root) r:=by
 by_cases hj:j<(dM s t (((d:Nat):Int)) ((((lv+1):Nat):Int))).length
 ·rcases adb ht FJ hd _ (bS (ek:=ae) hj) with e |h
  ·rw [e];exact⟨ky _ _,fun r=>by rw [zi];exact ZA7 _⟩
  ·exact h
 ·rw [show nth ae (dM s t (((d:Nat):Int)) ((((lv+1):Nat):Int))) j=bN from tB (ek:=ae) (by omega)]
  exact⟨ky _ _,fun r=>by rw [zi];exact ZA7 _⟩
theorem rY.filter (l:List Pt):rY l (l.filter fun p=> !(au p)):=fun f=>by
 rw [List.countP_filter]
 refine ZA8 ?_
 congr 1
 funext p
 cases au p<;>cases f p<;>rfl
theorem rY.nh {p:Pt}(h:au p=true) (w:List Pt):rY [p] w:=fun f=>by
 rw [show List.countP (fun p=> !(au p)&&f p) [p]=0 by simp [h]];exact ZA7 _
theorem adf {s:ay}{t:bf}{dt:Nat}(ht:oL s t dt):rY (dM s t (((1:Nat):Int)) (((1:Nat):Int))) (bz s t):=by
 cases h1:decide (t.depth≠((1:Nat):Int)) with
 |true=>rw [CA h1];exact rY.TH _ _
 |false=>
  have hd:=aA h1
  rw [HM h1 (decide_eq_true rfl)]
  cases hh:au t.root with
  |true=>exact rY.nh hh _
  |false=>
   rw [zQ (decide_eq_false (by omega)) hh (decide_eq_false (by omega))]
   exact fun f=>ZB5 _
theorem R9 {s s1:ay}{t:bf}{dt:Nat}(ht:oL s t dt):rY (dM s t (((2:Nat):Int)) (((1:Nat):Int))++dM s1 t (((2:Nat):Int)) (((2:Nat):Int))) (bz s t):=by
 cases h1:decide (t.depth≠((2:Nat):Int)) with
 |true=>rw [CA h1,CA h1];exact (rY.append (rY.TH 4 []) (rY.TH 4 (bz s t)))
 |false=>
  have hd:=aA h1
  rw [HM (s:=s1) h1 (decide_eq_true rfl)]
  cases hh:au t.root with
  |true=>
   refine rY.append (b:=[]) (d:=bz s t) ?_ (rY.nh hh _)
   rw [HL h1 (by decide) (by rw [kx hh];rfl),kx hh]
   exact rY.TH _ _
  |false=>
   rw [IT (decide_eq_false (by omega)) hh (decide_eq_true (by omega))]
   have hb:rY (dM s t (((2:Nat):Int)) (((1:Nat):Int))) ((bg s t.root 2).1.filter fun p=> !(au p)):=by
    cases h3: !(bg s t.root (((2:Nat):Int))).2 with
    |true=>rw [OT h1 (by decide) h3];exact rY.TH _ _
    |false=>rw [HL h1 (by decide) h3];exact rY.filter _
   intro f
   have h:=hb f
   rw [List.countP_append,List.countP_cons,List.countP_cons,List.countP_nil]
   omega
theorem CU {s:ay}{t:bf}{dt:Nat}(ht:oL s t dt) (r:Nat):bo (uM s dt t.root) r=bo (bz s t) r:=by
 have hd:=ht.dep
 have hl:=ht.le
 match dt,hl with
 |0,_=>rw [IU (decide_eq_true hd)];rfl
 |1,_=>
  rw [show uM s 1 t.root=[t.root] by show t.root::_=_;rw [YM]]
  cases hh:au t.root with
  |true=>rw [zR hh,mc hh];rfl
  |false=>rw [zQ (decide_eq_false (by omega)) hh (decide_eq_false (by omega))]
 |2,_=>
  rw [show uM s 2 t.root=t.root::lC s 1 t.root by show t.root::(lC s 1 t.root).flatMap (uM s 1)=_;rw [acr]]
  cases hh:au t.root with
  |true=>rw [zR hh,dQ,mc hh,ow hh,fN];rfl
  |false=>
   rw [IT (decide_eq_false (by omega)) hh (decide_eq_true hd),dQ,dQ t.root (List.filter _ _)]
   congr 1
   show bo (bg s t.root 2).1 r=_
   unfold bo
   rw [List.countP_filter]
   congr 1
   funext p
   unfold K0
   cases au p<;>simp
theorem aeS {n:Int}(h:n≤1):bj n=((0:Nat):Int):=by unfold bj;rw [decide_eq_true h];rfl
theorem XW {n:Int}(h0:1<n) (h:n≤4):bj n=((1:Nat):Int):=by unfold bj;rw [decide_eq_false (by omega),decide_eq_true h];rfl
theorem XV {n:Int}(h0:4<n):bj n=((2:Nat):Int):=by unfold bj;rw [decide_eq_false (by omega),decide_eq_false (by omega)];rfl
structure alp (s:ay) (t:bf) (O:Nat→Nat) (l:List Pt) (d:Nat) (u:ay) (root:Pt) (st fr:List Pt):Prop where
 acc:Acc u (fun r=>O r+bo fr r)
 kp:Kp O s u
 same:dR s u
 snd:rA u d root
 lv:∃k,xm u d root=l++cw k
 num:∀r,bo (uM u d root) r≤bo fr r+bo st r
 dom:rY st (bz s t)
theorem s4 (p:Pt):rootOf [p]=p:=rfl
theorem abD {s u:ay}{t:bf}{O:Nat→Nat}{l nn st:List Pt}{many:Int}{dt:Nat}(h:mr 3 s t (bj many) 1 l []=(u,some (nn,st))) (ha:Acc s O) (ht:oL s t dt) (CW:0≤many) (hm:many≤16) (hlen:l.length=many.toNat) (hs:∀q∈l,rA s 0 q) (hc:∀r,bo (bz s t) r+bo l r≤O r) (ho:∀r,bo (il s dt t.root) r≤O r):
  ∃d fr,bj many=((d:Nat):Int)∧d≤2∧alp s t O l d u (rootOf nn) st fr:=by
 have hsp:∀j,∀q∈l++cw j,rA s 0 q:=fun j q hq=>by
  rcases ZB4.1 hq with hq |hq
  ·exact hs q hq
  ·rw [show q=bN from (ZD6.1 hq).2];exact ky s 0
 have hcl:∀r,bo l r≤O r:=fun r=>by have:=hc r;omega
 have rW:=HE l
 obtain⟨j,hj⟩:=RS l
 by_cases h1:many≤1
 ·rw [aeS h1] at h ⊢
  rw [O5 (decide_eq_false (by decide))] at h
  cases h
  refine⟨0,[],rfl,by omega,⟨ha.mono fun r=>ZB5 _,Kp.refl _ _,dR.refl _,?_,?_,fun r=>ZA7 _,rY.nil _⟩⟩
  ·match l,hlen,hs with
   |[],_,_=>exact ky s 0
   |[p],_,hs=>exact hs p (by simp)
   |_::_::_,hl,_=>simp at hl;omega
  ·match l,hlen with
   |[],_=>exact⟨1,rfl⟩
   |[p],_=>exact⟨0,rfl⟩
   |_::_::_,hl=>simp at hl;omega
 ·by_cases h4:many≤4
  ·rw [XW (by omega) h4] at h ⊢
   cases hf:fJ 5 s 1 (dM s t (((1:Nat):Int)) 1) (eL l) 0 [] [] with
   |mk s1 r1=>
    cases r1 with
    |none=>rw [O4 (decide_eq_true (by decide)) hf] at h;cases h
    |some q=>
     obtain⟨n1,st1⟩:=q
     rw [O3 (decide_eq_true (by decide)) hf,O5 (decide_eq_false (by decide))] at h
     cases h
     have hl4:(eL l).length=4*1:=by rw [rW];omega
     have hR:=tT (n:=0) hl4 hf ha (by omega) (by omega) (by rw [Nat.mul_zero,ZF0,hj];exact hsp j) (fun r=>by
      rw [Nat.mul_zero,ZF0,hj,acs,bJ,fN];have:=hcl r;omega) (fun i=>(ss (d:=1) (lv:=0) ht (.inl rfl) (by omega) i).1) (fun i r=>ZB0 ((ss (d:=1) (lv:=0) ht (.inl rfl) (by omega) i).2 r) (ho r))
     obtain⟨ps,ks,fr,e1,e2,e3,hR⟩:=hR
     rw [Nat.mul_zero,ZF0,ZF0] at hR
     match ps,e3 with
     |[p],_=>
      rw [e1,e2]
      simp only [ZC9]
      have hb:=hR.lC
      rw [ZD5,List.flatMap_nil,ZE5] at hb
      refine⟨1,fr,rfl,by omega,⟨hR.acc,hR.kp,hR.same,hR.sub p (by simp),⟨j,?_⟩,fun r=>?_,hR.dom.trans (adf ht)⟩⟩
      ·rw [s4,YL,hb,hj]
      ·rw [s4,show uM u 1 p=[p] by show p::(lC u 0 p).flatMap (uM u 0)=[p];rw [YM]]
       exact hR.num r
  ·rw [XV (by omega)] at h ⊢
   cases hf:fJ 5 s 1 (dM s t (((2:Nat):Int)) 1) (eL l) 0 [] [] with
   |mk s1 r1=>
    cases r1 with
    |none=>rw [O4 (decide_eq_true (by decide)) hf] at h;cases h
    |some q=>
     obtain⟨n1,st1⟩:=q
     rw [O3 (decide_eq_true (by decide)) hf,show (1:Int)+1=2 from rfl] at h
     obtain⟨m1,hm1,hm2,hl4⟩:∃m,2≤m∧m≤4∧(eL l).length=4*m:=⟨(l.length+3) / 4,by omega,by omega,by rw [rW];omega⟩
     have hR:=tT (n:=0) hl4 hf ha (by omega) (by omega) (by rw [Nat.mul_zero,ZF0,hj];exact hsp j) (fun r=>by
      rw [Nat.mul_zero,ZF0,hj,acs,bJ,fN];have:=hcl r;omega) (fun i=>(ss (d:=2) (lv:=0) ht (.inr rfl) (by omega) i).1) (fun i r=>ZB0 ((ss (d:=2) (lv:=0) ht (.inr rfl) (by omega) i).2 r) (ho r))
     obtain⟨ps,ks,fr,e1,e2,e3,hR⟩:=hR
     rw [Nat.mul_zero,ZF0,ZF0] at hR
     simp only [ZC9] at e1 e2
     subst e1 e2
     have akP:=HE n1
     obtain⟨j2,yM⟩:=RS n1
     have ak0:(eL n1).length=4*1:=by rw [akP];omega
     cases hf2:fJ 5 s1 2 (dM s1 t (((2:Nat):Int)) 2) (eL n1) 0 [] st1 with
     |mk s2 r2=>
      cases r2 with
      |none=>rw [O4 (decide_eq_true (by decide)) hf2] at h;cases h
      |some q2=>
       obtain⟨n2,st2⟩:=q2
       rw [O3 (decide_eq_true (by decide)) hf2,O5 (decide_eq_false (by decide))] at h
       cases h
       have htx:s.cj≤s1.cj:=by rw [hR.same.cj];exact ZC1 _
       have ZT:=uo ht.snd htx hR.kp ho
       have ht1:oL s1 t dt:=⟨ht.dep,ht.le,ZT.1⟩
       have agL:∀q∈eL n1,rA s1 1 q:=fun q hq=>by
        rw [yM] at hq
        rcases ZB4.1 hq with hq |hq
        ·exact hR.sub q hq
        ·rw [show q=bN from (ZD6.1 hq).2];exact ky s1 1
       have hA1:∀(x:ay) (m:List Pt) (r:Nat),bo (m.flatMap (il x 1)) r=bo m r+bo (m.flatMap (lC x 0)) r:=fun x m r=>by
        have:=vU (f:=il x 1) (g:=fun q=>[q]) (h:=lC x 0) (r:=r) (l:=m) fun q _=>by
         show bo (q::(lC x 0 q).flatMap (il x 0)) r=_
         rw [acs,dQ]
        rw [this,rm]
       have ajr:∀r,bo ((eL n1).flatMap (il s1 1)) r≤O r+bo fr r:=fun r=>by
        rw [hA1,yM,List.flatMap_append,bJ,bJ,hR.lC,fN,hj,bJ,fN]
        rw [tO (f:=lC s1 0) (m:=4) (ow rfl),fN]
        have h1:=hR.num r
        have h2:=(hR.dom.trans (rY.trans (b:=dM s t (((2:Nat):Int)) (((1:Nat):Int))++dM s t (((2:Nat):Int)) (((2:Nat):Int))) (fun f=>by rw [List.countP_append];exact ZD3 _ _) (R9 ht))).bo r
        have h3:=hc r
        omega
       have hR2:=tT (n:=1) ak0 hf2 hR.acc (by omega) (by omega) (by rw [Nat.mul_zero,ZF0];exact agL) (fun r=>by
        rw [Nat.mul_zero,ZF0];exact ajr r) (fun i=>(ss (d:=2) (lv:=1) ht1 (.inl rfl) (by omega) i).1) (fun i r=>by
        have h1:=(ss (d:=2) (lv:=1) ht1 (.inl rfl) (by omega) i).2 r
        rw [ZT.2.1] at h1
        have:=ho r
        exact ZB0 h1 (by omega))
       obtain⟨ps2,ks2,fr2,e21,e22,e23,hR2⟩:=hR2
       rw [Nat.mul_zero,ZF0,ZF0] at hR2
       match ps2,e23 with
       |[p2],_=>
        rw [e21,e22]
        simp only [ZC9]
        have hb:=hR2.lC
        rw [ZD5,List.flatMap_nil,ZE5] at hb
        have akJ:s1.cj≤u.cj:=by rw [hR2.same.cj];exact ZC1 _
        have EW:∀q∈eL n1,xm u 1 q=xm s1 1 q:=fun q hq=>
         (uo (agL q hq) akJ hR2.kp fun r=>ZB0 (fZ hq) (ajr r)).2.2.1
        refine⟨2,fr++fr2,rfl,by omega,⟨?_,?_,hR.same.trans hR2.same,hR2.sub p2 (by simp),⟨j+j2*4,?_⟩,fun r=>?_,?_⟩⟩
        ·exact hR2.acc.mono fun r=>by show O r+bo (fr++fr2) r≤O r+bo fr r+bo fr2 r;rw [bJ];omega
        ·exact hR.kp.trans (hR2.kp.mono fun r=>ZD3 _ _)
        ·rw [s4]
         show (lC u 1 p2).flatMap (xm u 1)=_
         rw [hb,jC EW,jC fun q _=>YL s1 q,yM,List.flatMap_append,hR.lC,hj,tO (f:=lC s1 0) (m:=4) (ow rfl),ZD2]
         congr 1
         show List.replicate j bN++List.replicate (j2*4) bN=_
         rw [List.replicate_append_replicate];rfl
        ·rw [s4,show uM u 2 p2=p2::eL n1 by show p2::(lC u 1 p2).flatMap (uM u 1)=_;rw [acr,hb]]
         rw [dQ,yM,bJ,fN,bJ,bJ]
         have h1:=hR.num r
         have h2:=hR2.num r
         omega
        ·exact (rY.append hR.dom hR2.dom).trans (R9 ht)
end GL
namespace GL
theorem rA.bt {s:ay}{n:Nat}{p:Pt}(h:rA s (n+1) p):(bg s p ((((n+1):Nat):Int))).2=true:=by
 cases hh:au p with
 |true=>rw [kx hh]
 |false=>exact h.2.1 hh
theorem wA {s:ay}{n:Nat}:∀{l acc:List Pt},(∀q∈l,rA s (n+1) q)→fy s ((((n+1):Nat):Int)) l acc=some (acc++l.flatMap (lC s n))
 |[],acc,_=>by rw [List.flatMap_nil,ZE5];rfl
 |p::l,acc,h=>by
  rw [NW (by rw [(h p (by simp)).bt];rfl),wA fun q hq=>h q (by simp [hq]),ZD5,ZD2]
theorem FT {s:ay}{n:Nat}{p:Pt}(h:rA s (n+1) p):(lC s n p).length=4:=(iH s p ((((n+1):Nat):Int))).2 h.bt
theorem TT {s:ay}{n:Nat}:∀{l:List Pt},(∀q∈l,rA s (n+1) q)→(l.flatMap (lC s n)).length=4*l.length
 |[],_=>rfl
 |p::l,h=>by
  rw [ZD5,ZA0,FT (h p (by simp)),TT fun q hq=>h q (by simp [hq]),ZA1];omega
theorem aiv (s:ay) (p:Pt):xm s 2 p=(lC s 1 p).flatMap (lC s 0):=by
 show (lC s 1 p).flatMap (xm s 1)=_
 rw [jC fun q _=>YL s q]
theorem D1 {s:ay}{t:bf}{d:Nat}(h:oL s t d):bB s t=(xm s d t.root,true)∧(xm s d t.root).length=4 ^ d:=by
 have hd:=h.dep
 have hl:=h.le
 have hs:=h.snd
 unfold bB
 rw [hd]
 match d,hl with
 |0,_=>exact⟨vy (by decide),rfl⟩
 |1,_=>
  have h1:=wA (s:=s) (n:=0) (l:=[t.root]) (acc:=[]) (fun q hq=>by rw [ZC7.1 hq];exact hs)
  rw [CI (by decide) h1,vy (by decide),YL]
  rw [ZC9,ZD5,List.flatMap_nil,ZE5]
  exact⟨rfl,FT hs⟩
 |2,_=>
  have h1:=wA (s:=s) (n:=1) (l:=[t.root]) (acc:=[]) (fun q hq=>by rw [ZC7.1 hq];exact hs)
  rw [ZC9,ZD5,List.flatMap_nil,ZE5] at h1
  have h2:=wA (s:=s) (n:=0) (l:=lC s 1 t.root) (acc:=[]) hs.2.2
  rw [CI (by decide) h1,show (((2:Nat):Int)-1)=(((0+1):Nat):Int) from rfl,CI (by decide) h2,vy (by decide),aiv,ZC9]
  refine⟨rfl,?_⟩
  rw [TT hs.2.2,FT hs]
theorem mD {s:ay}{t:bf}{d:Nat}(h:oL s t d):aB s t=xm s d t.root++cw (16-4 ^ d):=by
 have ⟨h1,h2⟩:=D1 h
 unfold aB
 rw [h1]
 simp only
 rw [h2];congr 2;omega
theorem oL.trd {s:ay}{t:bf}{d:Nat}(h:oL s t d):t.rd:=⟨by have:=h.dep;have:=h.le;omega,h.snd.pok⟩
theorem yP {st:List Pt}:∀{l:List Pt}{s:ay}{O X:Nat→Nat},Acc s O→(∀p∈l,aZ p=true)→(∀r,X r+bo (l.filter fun o=> !(gY st o)) r≤O r)→Acc (dY l st s) X∧Kp X s (dY l st s)∧dR s (dY l st s)
 |[],s,O,X,h,_,hO=>⟨h.mono fun r=>by have:=hO r;omega,Kp.refl _ _,dR.refl _⟩
 |o::l,s,O,X,h,hl,hO=>by
  cases hk:gY st o with
  |true=>
   rw [TO hk]
   exact yP h (fun p hp=>hl p (by simp [hp])) fun r=>by
    have:=hO r
    rw [List.filter_cons_of_neg (by rw [hk];decide)] at this
    exact this
  |false=>
   rw [TP hk]
   have h1:=C3 (O':=fun r=>X r+bo (l.filter fun o=> !(gY st o)) r) h (hl o (by simp)) (fun r=>by
    have:=hO r
    rw [List.filter_cons_of_pos (by rw [hk];rfl),dQ] at this
    show X r+_+_≤_;omega)
   have h2:=yP (X:=X) h1.1 (fun p hp=>hl p (by simp [hp])) fun r=>ZB5 _
   exact⟨h2.1,(h1.2.1.mono fun r=>ZD3 _ _).trans h2.2.1,h1.2.2.trans h2.2.2⟩
theorem NF (f:Pt→Bool) (r:Nat):∀(l:List Pt),bo l r=bo (l.filter f) r+bo (l.filter fun o=> !(f o)) r
 |[]=>rfl
 |o::l=>by
  have ih:=NF f r l
  rw [dQ]
  cases h:f o with
  |true=>rw [List.filter_cons_of_pos h,List.filter_cons_of_neg (by rw [h];decide),dQ o (l.filter f)];omega
  |false=>rw [List.filter_cons_of_neg (by rw [h];decide),List.filter_cons_of_pos (by rw [h];rfl),dQ o (l.filter _)];omega
theorem adK {st:List Pt}{p:Pt}(h:p∈st):gY st p=true:=by
 unfold gY
 rw [List.any_eq_true]
 exact⟨p,h,se.2 rfl⟩
theorem afs {st inner:List Pt}(h:rY st inner) (r:Nat):bo st r≤bo (inner.filter (gY st)) r:=by
 have h1:=h (fun p=>decide (at' p=r)&&gY st p)
 have e1:st.countP (fun p=> !(au p)&&(decide (at' p=r)&&gY st p))=bo st r:=by
  unfold bo
  refine List.countP_congr fun p hp=>?_
  unfold K0
  rw [adK hp,Bool.and_true]
 have e2:inner.countP (fun p=> !(au p)&&(decide (at' p=r)&&gY st p))=bo (inner.filter (gY st)) r:=by
  unfold bo
  rw [List.countP_filter]
  congr 1
  funext p
  unfold K0
  rw [Bool.and_assoc]
 omega
structure Laid (s:ay) (Y:Nat→Nat) (l:List Pt) (many:Int) (u:ay) (t':bf) (d:Nat):Prop where
 rC:oL u t' d
 dm:bj many=((d:Nat):Int)
 many:t'.many=many
 lv:∃k,xm u d t'.root=l++cw k
 acc:Acc u (fun r=>Y r+bo (uM u d t'.root) r)
 kp:Kp Y s u
 same:dR s u
theorem L6 {s:ay}{t:bf}{L:List Pt}{many:Int}{O Y:Nat→Nat}{dt:Nat}(ha:Acc s O) (ht:oL s t dt) (CW:0≤many) (hm:many≤16) (hL:many.toNat≤L.length) (hs:∀q∈L.take many.toNat,rA s 0 q) (hY:∀r,Y r+bo (bz s t) r≤O r) (hYl:∀r,bo (L.take many.toNat) r≤Y r) (ho:∀r,bo (il s dt t.root) r≤O r) (hz:(bR s t L many).2.2=true):
  ∃d,Laid s Y (L.take many.toNat) many (bR s t L many).1 (bR s t L many).2.1 d:=by
 unfold bR at hz ⊢
 cases hf:mr 3 s t (bj many) 1 (L.take many.toNat) [] with
 |mk u r=>
  rw [hf] at hz
  cases r with
  |none=>cases hz
  |some q=>
   obtain⟨nn,st⟩:=q
   obtain⟨d,fr,hd,hd2,hR⟩:=abD hf ha ht CW hm (by rw [ZC0];omega) hs (fun r=>by have:=hY r;have:=hYl r;omega) ho
   show∃d,Laid s Y (L.take many.toNat) many (dY (bz s t) st u) (LW (rootOf nn) (bj many) many) d
   obtain⟨k,hk⟩:=hR.lv
   have hX:=yP (st:=st) (l:=bz s t) (X:=fun r=>Y r+bo ((bz s t).filter (gY st)) r+bo fr r) hR.acc (MJ ht.trd) fun r=>by
    have:=hY r
    have:=NF (gY st) r (bz s t)
    show Y r+_+_+_≤O r+bo fr r
    omega
   have afY:∀r,bo (uM u d (rootOf nn)) r≤bo fr r+bo ((bz s t).filter (gY st)) r:=fun r=>by
    have:=hR.num r
    have:=afs hR.dom r
    omega
   have uB:=uo hR.snd (by rw [hX.2.2.cj];exact ZC1 _) hX.2.1 fun r=>by
    rw [mE,hk,bJ,fN]
    have:=afY r
    have:=hYl r
    show _≤Y r+_+_
    omega
   refine⟨d,⟨⟨hd,hd2,uB.1⟩,hd,rfl,⟨k,?_⟩,?_,?_,hR.same.trans hX.2.2⟩⟩
   ·show xm (dY (bz s t) st u) d (rootOf nn)=_
    rw [uB.2.2.1,hk]
   ·refine hX.1.mono fun r=>?_
    show Y r+bo (uM (dY (bz s t) st u) d (rootOf nn)) r≤_
    rw [uB.2.2.2]
    have:=afY r
    show _≤Y r+_+_
    omega
   ·exact (hR.kp.mono fun r=>by have:=hY r;omega).trans (hX.2.1.mono fun r=>by show _≤Y r+_+_;omega)
end GL
end Go.Proofs.YtkgpljpmdkflmaaGreatDoor
