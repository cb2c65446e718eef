/- FnTreeOk returns true for every code (its row lists package variables, tied by the card): part 24. -/
import Derived.Test.YtbfgjadbfjkcdaaGreatDoorPar
import Derived.Test.YtbfgjadbfjkcdaaGreatDoorPaw
set_option maxHeartbeats 20000000
set_option linter.all false
namespace Go.Proofs.YtbfgjadbfjkcdaaGreatDoor
namespace GL
abbrev lG (s:ay) (n:Nat) (p:Pt):List Pt:=(bh s p ((((n+1):Nat):Int))).1
def rE (s:ay):Nat→Pt→Prop
 |0,p=>a6 p=true∧(au p=false→p.2.2.2.2=0∧p.2.1≤s.ck∧(bH s p).2=true)
 |n+1,p=>a6 p=true∧(au p=false→(bh s p ((((n+1):Nat):Int))).2=true)∧∀q∈lG s n p,rE s n q
def im (s:ay):Nat→Pt→List Pt
 |0,p=>[p]
 |n+1,p=>p::(lG s n p).flatMap (im s n)
def xr (s:ay):Nat→Pt→List Pt
 |0,p=>[p]
 |n+1,p=>(lG s n p).flatMap (xr s n)
def uO (s:ay):Nat→Pt→List Pt
 |0,_=>[]
 |n+1,p=>p::(lG s n p).flatMap (uO s n)
theorem vY {f g h:Pt→List Pt}{r:Nat}:∀{l:List Pt},(∀q∈l,bq (f q) r=bq (g q) r+bq (h q) r)→bq (l.flatMap f) r=bq (l.flatMap g) r+bq (l.flatMap h) r
 |[],_=>rfl
 |q::l,hq=>by
  simp only [ZD5,bK]
  have h1:=hq q (by simp)
  have h2:=vY (l:=l) (fun q h=>hq q (by simp [h]))
  omega
theorem fZ {f:Pt→List Pt}{r:Nat}{q:Pt}:∀{l:List Pt},q∈l→bq (f q) r≤bq (l.flatMap f) r
 |p::l,hq=>by
  simp only [ZD5,bK]
  rcases ZB9.1 hq with rfl |hq
  ·omega
  ·have:=fZ (f:=f) (r:=r) hq;omega
theorem jC {f g:Pt→List Pt}:∀{l:List Pt},(∀q∈l,f q=g q)→l.flatMap f=l.flatMap g
 |[],_=>rfl
 |q::l,h=>by
  simp only [ZD5]
  rw [h q (by simp),jC (l:=l) fun q hq=>h q (by simp [hq])]
theorem mH (s:ay) (r:Nat):∀(n:Nat) (p:Pt),bq (im s n p) r=bq (uO s n p) r+bq (xr s n p) r
 |0,p=>by show bq [p] r=bq [] r+bq [p] r;rw [rB];omega
 |n+1,p=>by
  show bq (p::(lG s n p).flatMap (im s n)) r=bq (p::(lG s n p).flatMap (uO s n)) r+bq ((lG s n p).flatMap (xr s n)) r
  rw [dQ,dQ p ((lG s n p).flatMap (uO s n))]
  have:=vY (f:=im s n) (g:=uO s n) (h:=xr s n) (r:=r) (l:=lG s n p) fun q _=>mH s r n q
  omega
theorem oA {s:ay}{n:Nat}{p:Pt}(h:au p=true):lG s n p=cw 4:=by show (bh s p _).1=_;rw [kA h]
theorem oz {s:ay}{p:Pt}{lv:Int}(h:au p=false) (h2:(bh s p lv).2=true):a6 p=true∧p.2.2.2.2=lv∧p.2.1≤s.ck∧(bH s p).2=true∧bh s p lv=bn (bH s p).1∧(bn (bH s p).1).2=true∧(bn (bH s p).1).1.any (late p)=false:=by
 cases h1: !(a6 p) with
 |true=>rw [KN h h1] at h2;cases h2
 |false=>
  cases h3:decide (p.2.2.2.2≠lv) with
  |true=>rw [wj h h3] at h2;cases h2
  |false=>
   cases h4:decide (p.2.1>s.ck) with
   |true=>rw [AN h h4] at h2;cases h2
   |false=>
    cases h5: !(bH s p).2 with
    |true=>rw [wi h h1 h3 h4 h5] at h2;cases h2
    |false=>
     have e:=wh h h1 h3 h4 h5
     rw [e] at h2
     cases h6:(bn (bH s p).1).1.any (late p) with
     |true=>rw [wk h6] at h2;cases h2
     |false=>
      rw [sV h6] at h2 e
      have h3:=aA h3
      have h4:=aA h4
      exact⟨oN h1,by omega,by omega,oN h5,e,h2,rfl⟩
theorem NY {s:ay}{p:Pt}{lv:Int}(h:au p=false) (h1:a6 p=true) (h2:p.2.2.2.2=lv) (h3:p.2.1≤s.ck) (h4:(bH s p).2=true) (h5:(bn (bH s p).1).1.any (late p)=false):bh s p lv=bn (bH s p).1:=by
 rw [wh h (by rw [h1];rfl) (decide_eq_false (by omega)) (decide_eq_false (by omega)) (by rw [h4];rfl),sV h5]
theorem rE.pok {s:ay}{n:Nat}{p:Pt}(h:rE s n p):a6 p=true:=by cases n<;>exact h.1
theorem kB (s:ay):∀(n:Nat),rE s n bO
 |0=>⟨by decide,fun h=>by cases h⟩
 |n+1=>⟨by decide,(fun h=>by cases h),fun q hq=>by
   rw [oA (by decide)] at hq
   rw [show q=bO from (ZD6.1 hq).2]
   exact kB s n⟩
theorem rE.EV {s:ay}{n:Nat}{p:Pt}(h:rE s n p) (ht:1≤s.ck):p.2.1≤s.ck:=by
 cases hh:au p with
 |true=>rw [iu hh];show (0:Int)≤_;omega
 |false=>
  cases n with
  |zero=>exact (h.2 hh).2.1
  |succ n=>exact (oz hh (h.2.1 hh)).2.2.1
theorem mO {s u:ay}{p:Pt}(h:au p=false→nth ab u.rows (at' p)=nth ab s.rows (at' p)):bH u p=bH s p:=by
 cases hh:au p with
 |true=>rw [fT hh,fT hh]
 |false=>
  have e:=h hh
  unfold bH
  rw [show nth ab u.rows p.1.toNat=nth ab s.rows p.1.toNat from e]
theorem EW {s u:ay}{p:Pt}{lv:Int}(ht:s.ck≤u.ck) (h:au p=false→nth ab u.rows (at' p)=nth ab s.rows (at' p)) (h2:au p=false→(bh s p lv).2=true):bh u p lv=bh s p lv:=by
 cases hh:au p with
 |true=>rw [kA hh,kA hh]
 |false=>
  obtain⟨h3,h4,h5,h6,h7,h8,h9⟩:=oz hh (h2 hh)
  have e:=mO h
  rw [h7,←e]
  exact NY hh h3 h4 (by omega) (by rw [e];exact h6) (by rw [e];exact h9)
theorem KX {s u:ay}(ht:s.ck≤u.ck):∀{n:Nat}{p:Pt},rE s n p→(∀q∈im s n p,au q=false→nth ab u.rows (at' q)=nth ab s.rows (at' q))→rE u n p∧im u n p=im s n p∧xr u n p=xr s n p∧uO u n p=uO s n p
 |0,p,h,hk=>by
  refine⟨⟨h.1,fun hh=>?_⟩,rfl,rfl,rfl⟩
  have h2:=h.2 hh
  exact⟨h2.1,by omega,by rw [mO (s:=s) (u:=u) (p:=p) (fun hh=>hk p (by simp [im]) hh)];exact h2.2.2⟩
 |n+1,p,h,hk=>by
  have e:bh u p ((((n+1):Nat):Int))=bh s p ((((n+1):Nat):Int)):=EW ht (fun hh=>hk p (by simp [im]) hh) h.2.1
  have eb:lG u n p=lG s n p:=congrArg Prod.fst e
  have hq:∀q∈lG s n p,rE u n q∧im u n q=im s n q∧xr u n q=xr s n q∧uO u n q=uO s n q:=fun q hq=>
   KX ht (h.2.2 q hq) fun x hx hh=>hk x (by
    show x∈p::(lG s n p).flatMap (im s n)
    exact List.mem_cons_of_mem _ (List.mem_flatMap.2 ⟨q,hq,hx⟩)) hh
  refine⟨⟨h.1,fun hh=>by rw [e];exact h.2.1 hh,fun q hx=>?_⟩,?_,?_,?_⟩
  ·rw [eb] at hx;exact (hq q hx).1
  ·show p::(lG u n p).flatMap (im u n)=p::(lG s n p).flatMap (im s n)
   rw [eb,jC fun q hx=>(hq q hx).2.1]
  ·show (lG u n p).flatMap (xr u n)=(lG s n p).flatMap (xr s n)
   rw [eb,jC fun q hx=>(hq q hx).2.2.1]
  ·show p::(lG u n p).flatMap (uO u n)=p::(lG s n p).flatMap (uO s n)
   rw [eb,jC fun q hx=>(hq q hx).2.2.2]
theorem uu {s u:ay}{O:Nat→Nat}{n:Nat}{p:Pt}(h:rE s n p) (ht:s.ck≤u.ck) (hk:Kp O s u) (hO:∀r,bq (im s n p) r≤O r):rE u n p∧im u n p=im s n p∧xr u n p=xr s n p∧uO u n p=uO s n p:=
 KX ht h fun q hq hh=>hk _ (ZG2 (ub hq hh) (hO _))
theorem wK {u:ay}{p:Pt}{text:ByteArray}(hn:au p=false) (hr:nth ab u.rows (at' p)=text) (hf:iY p text=true):bH u p=(text,true):=by
 have hr:nth ab u.rows p.1.toNat=text:=hr
 rw [yk hn (by rw [hr];exact hf),hr]
theorem ah6:∀{l:List Pt},l.length=4→ob l=true→l=cw 4
 |[a,b,c,d],_,h=>by
  unfold ob at h
  simp only [List.any_cons,List.any_nil,ZF9,ZD7,Bool.not_eq_false'] at h
  rw [iu h.1,iu h.2.1,iu h.2.2.1,iu h.2.2.2.1];rfl
structure alP (s:ay) (O:Nat→Nat) (n:Nat) (l:List Pt) (old:Pt) (u:ay) (p:Pt) (fr:List Pt):Prop where
 acc:Acc u (fun r=>O r+bq fr r)
 kp:Kp O s u
 same:dR s u
 sub:rE u (n+1) p
 lG:lG u n p=l
 num:∀r,bq [p] r≤bq fr r+bq (bif ptrEq p old then [p] else []) r
theorem aco {s:ay}{O:Nat→Nat}{n:Nat}{l:List Pt}{old:Pt}(h:Acc s O) (hl:l.length=4) (hs:∀q∈l,rE s n q) (hc:∀r,bq (l.flatMap (im s n)) r≤O r) (ho:rE s (n+1) old) (hz:(ef s l ((((n+1):Nat):Int)) old).2.2=true):
  ∃fr,alP s O n l old (ef s l ((((n+1):Nat):Int)) old).1 (ef s l ((((n+1):Nat):Int)) old).2.1 fr:=by
 cases hn:ob l with
 |true=>
  rw [JQ hn]
  refine⟨[],h.mono fun r=>ZB6 _,Kp.refl _ _,dR.refl _,kB s (n+1),?_,fun r=>?_⟩
  ·rw [oA rfl,ah6 hl hn]
  ·rw [mj rfl];exact ZA8 _
 |false=>
  have JB:(bG l).2=true:=vR hl (fun p hp=>(hs p hp).pok) (by exact hn)
  have tR:=EO JB
  cases hk:fE s l old with
  |true=>
   rw [JP hn hk]
   have hk2:=hk
   unfold fE at hk2
   simp only [ZB0,ZF9,decide_eq_true_eq] at hk2
   obtain⟨hh,hf,acd⟩:=hk2
   have hb:=oz hh (ho.2.1 hh)
   have dG:bH s old=((bG l).1,true):=wK hh acd hf
   rw [dG] at hb
   refine⟨[],h.mono fun r=>ZB6 _,Kp.refl _ _,dR.refl _,ho,?_,fun r=>?_⟩
   ·show (bh s old _).1=l
    rw [hb.2.2.2.2.1,tR]
   ·rw [si.2 rfl];show bq [old] r≤bq [] r+bq [old] r;omega
  |false=>
   rw [tW hn hk] at hz ⊢
   obtain⟨ach,hkp,I9,hg,hd,kg⟩:=xS h hz
   generalize (bg s (bG l).1 ((((n+1):Nat):Int))).1=u at *
   generalize (bg s (bG l).1 ((((n+1):Nat):Int))).2.1=p at *
   have dG:bH u p=((bG l).1,true):=wK kg.nh kg.row kg.fits
   have ajK:l.any (late p)=false:=by
    rw [List.any_eq_false]
    intro q hq
    have:=(hs q hq).EV h.ck.1
    have hb:=kg.EV
    simp only [late,decide_eq_true_eq];omega
   have hb:bh u p ((((n+1):Nat):Int))=(l,true):=by
    rw [NY kg.nh kg.ok kg.lv (by rw [kg.EV,I9.ck];exact ZC1 _) (by rw [dG]) (by rw [dG,tR];exact ajK),dG,tR]
   refine⟨[p],⟨ach,hkp,I9,⟨kg.ok,fun _=>by rw [hb],fun q hq=>?_⟩,?_,fun r=>ZD3 _ _⟩⟩
   ·have hq:q∈l:=by
     have hq:q∈(bh u p ((((n+1):Nat):Int))).1:=hq
     rw [hb] at hq;exact hq
    exact (uu (hs q hq) (by rw [I9.ck];exact ZC1 _) hkp fun r=>ZB1 (fZ hq) (hc r)).1
   ·show (bh u p ((((n+1):Nat):Int))).1=l
    rw [hb]
def r3 (ks ws:List Pt):Prop:=∀f:Pt→Bool,ks.countP (fun p=> !(au p)&&f p)≤ws.countP (fun p=> !(au p)&&f p)
theorem r3.nil (ws:List Pt):r3 [] ws:=fun _=>ZA8 _
theorem r3.append {a b c d:List Pt}(h:r3 a b) (h2:r3 c d):r3 (a++c) (b++d):=fun f=>by
 rw [List.countP_append,List.countP_append];have:=h f;have:=h2 f;omega
structure akr (s:ay) (O:Nat→Nat) (n:Nat) (l kc:List Pt) (u:ay) (ps ks fr:List Pt):Prop where
 acc:Acc u (fun r=>O r+bq fr r)
 kp:Kp O s u
 same:dR s u
 sub:∀p∈ps,rE u (n+1) p
 lG:ps.flatMap (lG u n)=l
 num:∀r,bq ps r≤bq fr r+bq ks r
 dom:r3 ks kc
theorem aj3 {l:List Pt}{i m:Nat}(hl:l.length=4*m) (hi:i<m):qS l i++l.drop (4*(i+1))=l.drop (4*i)∧(qS l i).length=4:=by
 have e:qS l i=(l.drop (4*i)).take 4:=by
  unfold qS
  rw [show 0+((i:Int)*4).toNat=4*i by omega,show (((i:Int)+1)*4).toNat-((i:Int)*4).toNat=4 by omega]
 rw [e]
 refine⟨?_,by rw [ZB8,ZD0];omega⟩
 rw [show 4*(i+1)=4*i+4 by omega,←List.drop_drop,List.take_append_drop]
theorem tV {n:Nat}{kc l:List Pt}{m:Nat}(hl:l.length=4*m):∀{f:Nat}{s u:ay}{i:Nat}{nx sy nn y:List Pt}{O:Nat→Nat},fJ f s ((((n+1):Nat):Int)) kc l i nx sy=(u,some (nn,y))→Acc s O→m≤i+f→i≤m→(∀q∈l.drop (4*i),rE s n q)→(∀r,bq ((l.drop (4*i)).flatMap (im s n)) r≤O r)→(∀j,rE s (n+1) (nth ae kc j))→(∀j r,bq (im s (n+1) (nth ae kc j)) r≤O r)→
  ∃ps ks fr,nn=nx++ps∧y=sy++ks∧ps.length=m-i∧akr s O n (l.drop (4*i)) (kc.drop i) u ps ks fr
 |0,s,u,i,nx,sy,nn,y,O,h,ha,hm,hi,hs,hc,hw,hwc=>by
  cases h
  have e:l.drop (4*i)=[]:=ZB4 (by omega)
  refine⟨[],[],[],by simp,by simp,by simp;omega,⟨ha.mono fun r=>ZB6 _,Kp.refl _ _,dR.refl _,(fun p hp=>by cases hp),by rw [e];rfl,fun r=>ZA8 _,r3.nil _⟩⟩
 |f+1,s,u,i,nx,sy,nn,y,O,h,ha,hm,hi,hs,hc,hw,hwc=>by
  cases hcd:decide ((i:Int)*4<l.length) with
  |false=>
   have FX:=aA hcd
   rw [fJ,hcd] at h
   cases h
   have e:l.drop (4*i)=[]:=ZB4 (by omega)
   refine⟨[],[],[],by simp,by simp,by simp;omega,⟨ha.mono fun r=>ZB6 _,Kp.refl _ _,dR.refl _,(fun p hp=>by cases hp),by rw [e];rfl,fun r=>ZA8 _,r3.nil _⟩⟩
  |true=>
   have bU:=aE hcd
   have him:i<m:=by omega
   rw [fJ,hcd,cond_true] at h
   cases hz: !(ef s (qS l i) ((((n+1):Nat):Int)) (nth ae kc i)).2.2 with
   |true=>rw [hz] at h;cases h
   |false=>
    rw [hz,cond_false] at h
    obtain⟨hd1,hd2⟩:=aj3 hl him
    rw [←hd1] at hs hc
    have hc1:∀r,bq ((qS l i).flatMap (im s n)) r≤O r:=fun r=>by
     have:=hc r;rw [List.flatMap_append,bK] at this;omega
    have hc2:∀r,bq ((l.drop (4*(i+1))).flatMap (im s n)) r≤O r:=fun r=>by
     have:=hc r;rw [List.flatMap_append,bK] at this;omega
    obtain⟨fr1,hF⟩:=aco ha hd2 (fun q hq=>hs q (by simp [hq])) hc1 (hw i) (oN hz)
    generalize (ef s (qS l i) ((((n+1):Nat):Int)) (nth ae kc i)).1=s1 at *
    generalize (ef s (qS l i) ((((n+1):Nat):Int)) (nth ae kc i)).2.1=p at *
    have htx:s.ck≤s1.ck:=by rw [hF.same.ck];exact ZC1 _
    have hk2:∀q∈l.drop (4*(i+1)),rE s1 n q∧im s1 n q=im s n q∧xr s1 n q=xr s n q∧uO s1 n q=uO s n q:=fun q hq=>
     uu (hs q (by simp [hq])) htx hF.kp fun r=>ZB1 (fZ hq) (hc2 r)
    have hwk:∀j,rE s1 (n+1) (nth ae kc j)∧im s1 (n+1) (nth ae kc j)=im s (n+1) (nth ae kc j)∧xr s1 (n+1) (nth ae kc j)=xr s (n+1) (nth ae kc j)∧uO s1 (n+1) (nth ae kc j)=uO s (n+1) (nth ae kc j):=fun j=>
     uu (hw j) htx hF.kp (hwc j)
    have mf:=tV hl h hF.acc (by omega) (by omega) (fun q hq=>(hk2 q hq).1) (fun r=>by
     rw [jC fun q hq=>(hk2 q hq).2.1]
     exact ZB1 (hc2 r) (ZD3 _ _)) (fun j=>(hwk j).1) (fun j r=>by rw [(hwk j).2.1];exact ZB1 (hwc j r) (ZD3 _ _))
    obtain⟨ps,ks,fr,e1,e2,e3,hR⟩:=mf
    have nc:∀q∈im s1 (n+1) p,au q=false→0<O (at' q)+bq fr1 (at' q):=fun q hq hh=>by
     have hq:q∈p::(lG s1 n p).flatMap (im s1 n):=hq
     rcases ZB9.1 hq with rfl |hq
     ·have h1:=hF.num (at' q)
      rw [rU hh] at h1
      cases he:ptrEq q (nth ae kc i) with
      |false=>rw [he,cond_false,rB] at h1;omega
      |true=>
       rw [si.1 he] at hh ⊢
       have h2:0<bq (im s (n+1) (nth ae kc i)) (at' (nth ae kc i)):=ub (by simp [im]) hh
       have:=hwc i (at' (nth ae kc i));omega
     ·rw [hF.lG] at hq
      obtain⟨x,hx,hxq⟩:=List.mem_flatMap.1 hq
      have e:=(uu (hs x (by simp [hx])) htx hF.kp fun r=>ZB1 (fZ hx) (hc1 r)).2.1
      rw [e] at hxq
      have h2:0<bq (im s n x) (at' q):=ub hxq hh
      have h3:=fZ (f:=im s n) (r:=at' q) hx
      have:=hc1 (at' q);omega
    have htu:s1.ck≤u.ck:=by rw [hR.same.ck];exact ZC1 _
    have uE:=KX htu hF.sub fun q hq hh=>hR.kp _ (nc q hq hh)
    have agt:lG u n p=qS l i:=by
     have e:bh u p ((((n+1):Nat):Int))=bh s1 p ((((n+1):Nat):Int)):=EW htu (fun hh=>hR.kp _ (nc p (by simp [im]) hh)) hF.sub.2.1
     rw [←hF.lG];exact congrArg Prod.fst e
    refine⟨p::ps,(bif ptrEq p (nth ae kc i) then [p] else [])++ks,fr1++fr,?_,?_,by rw [ZA1,e3];omega,⟨?_,?_,hF.same.trans hR.same,?_,?_,fun r=>?_,?_⟩⟩
    ·rw [e1,ZD2];rfl
    ·rw [e2]
     cases ptrEq p (nth ae kc i) with
     |true=>simp only [cond_true,ZD2]
     |false=>simp only [cond_false,ZC9]
    ·exact hR.acc.mono fun r=>by show O r+bq (fr1++fr) r≤O r+bq fr1 r+bq fr r;rw [bK];omega
    ·exact hF.kp.trans (hR.kp.mono fun r=>ZD3 _ _)
    ·intro q hq
     rcases ZB9.1 hq with rfl |hq
     ·exact uE.1
     ·exact hR.sub q hq
    ·rw [ZD5,agt,hR.lG,hd1]
    ·have h1:=hF.num r
     have h2:=hR.num r
     rw [dQ,bK,bK];omega
    ·have hd:r3 (bif ptrEq p (nth ae kc i) then [p] else []) [nth ae kc i]:=by
      cases he:ptrEq p (nth ae kc i) with
      |false=>exact r3.nil _
      |true=>rw [si.1 he];exact fun f=>ZB6 _
     by_cases hiw:i<kc.length
     ·rw [bZ (ek:=ae) hiw]
      exact r3.append hd hR.dom
     ·have e0:kc.drop i=[]:=ZB4 (by omega)
      have e1:kc.drop (i+1)=[]:=ZB4 (by omega)
      have hz:nth ae kc i=bO:=tD (ek:=ae) (by omega)
      rw [e0]
      intro f
      have h1:=hd f
      have h2:=hR.dom f
      rw [e1] at h2
      rw [hz] at h1
      rw [List.countP_append]
      have h3:List.countP (fun p=> !(au p)&&f p) [bO]=0:=by simp [show au bO=true by decide]
      rw [hz]
      omega
end GL
namespace GL
theorem ru:∀(l:List Pt),l.flatMap (fun q=>[q])=l
 |[]=>rfl
 |q::l=>by rw [ZD5,ru l];rfl
theorem acP (s:ay) (l:List Pt):l.flatMap (im s 0)=l:=ru l
theorem aiV (s:ay) (l:List Pt):l.flatMap (xr s 0)=l:=ru l
theorem Y7 (s:ay):∀(l:List Pt),l.flatMap (uO s 0)=[]
 |[]=>rfl
 |q::l=>by rw [ZD5,Y7 s l];rfl
theorem acO (s:ay):∀(l:List Pt),l.flatMap (uO s 1)=l
 |[]=>rfl
 |q::l=>by
  rw [ZD5,acO s l]
  show (q::(lG s 0 q).flatMap (uO s 0))++l=q::l
  rw [Y7];rfl
theorem Y6 (s:ay) (q:Pt):xr s 1 q=lG s 0 q:=aiV s _
theorem tQ {f:Pt→List Pt}{m:Nat}(h:f bO=cw m):∀(n:Nat),(cw n).flatMap f=cw (n*m)
 |0=>by rw [ZG8];rfl
 |n+1=>by
  rw [show cw (n+1)=bO::cw n from rfl,ZD5,h,tQ h n]
  show List.replicate m bO++List.replicate (n*m) bO=List.replicate ((n+1)*m) bO
  rw [List.replicate_append_replicate];congr 1;rw [Nat.succ_mul];omega
theorem acN (s:ay):∀(n:Nat),xr s n bO=cw (4 ^ n)
 |0=>rfl
 |n+1=>by
  show (lG s n bO).flatMap (xr s n)=_
  rw [oA rfl,tQ (acN s n) 4,Nat.pow_succ,Nat.mul_comm]
theorem fN (n r:Nat):bq (cw n) r=0:=by
 unfold bq
 rw [List.countP_eq_zero]
 intro p hp
 rw [show p=bO from (ZD6.1 hp).2]
 simp [LD,show au bO=true by rfl]
theorem zt (s:ay) (r:Nat):∀(n:Nat),bq (im s n bO) r=0
 |0=>mj rfl r
 |n+1=>by
  show bq (bO::(lG s n bO).flatMap (im s n)) r=0
  rw [dQ,mj rfl,oA rfl]
  have h:=zt s r n
  simp only [cw,List.replicate,ZD5,List.flatMap_nil,bK,rB];omega
theorem SB:∀(f:Nat) (l:List Pt),∃j,CB f l=l++cw j
 |0,l=>⟨0,by simp [CB,cw]⟩
 |f+1,l=>by
  cases hc:decide ((l.length:Int) % 4≠0) with
  |false=>exact⟨0,by rw [adi hc];simp [cw]⟩
  |true=>
   obtain⟨j,hj⟩:=SB f (l++[bO])
   exact⟨j+1,by rw [adh hc,hj,ZD2];rfl⟩
theorem R9 (l:List Pt):∃j,eM l=l++cw j:=SB 4 l
structure oP (s:ay) (t:bf) (d:Nat):Prop where
 dep:t.depth=((d:Nat):Int)
 le:d≤2
 snd:rE s d t.root
theorem r3.trans {a b c:List Pt}(h:r3 a b) (h2:r3 b c):r3 a c:=fun f=>ZB1 (h f) (h2 f)
theorem r3.T3 (n:Nat) (w:List Pt):r3 (cw n) w:=fun f=>by
 rw [List.countP_eq_zero.2]
 ·exact ZA8 _
 ·intro p hp
  rw [show p=bO from (ZD6.1 hp).2]
  simp [show au bO=true by rfl]
theorem r3.bq {a b:List Pt}(h:r3 a b) (r:Nat):bq a r≤bq b r:=by
 have:=h (fun p=>decide (at' p=r))
 exact this
theorem adz {s:ay}{t:bf}{d dt lv:Nat}(ht:oP s t dt) (FW:lv+1=d∨lv+2=d) (hd:d≤2):∀q∈dM s t (((d:Nat):Int)) ((((lv+1):Nat):Int)),q=bO∨(rE s (lv+1) q∧∀r,bq (im s (lv+1) q) r≤bq (im s dt t.root) r):=by
 intro q hq
 cases h1:decide (t.depth≠((d:Nat):Int)) with
 |true=>rw [CF h1] at hq;exact .inl (ZD6.1 hq).2
 |false=>
  have he:dt=d:=by have:=aA h1;have:=ht.dep;omega
  subst he
  cases h2:decide ((((lv+1):Nat):Int)=((dt:Nat):Int)) with
  |true=>
   rw [HY h1 h2] at hq
   have h2:=aE h2
   have e:dt=lv+1:=by omega
   subst e
   rw [ZC7.1 hq]
   exact .inr ⟨ht.snd,fun r=>ZB6 _⟩
  |false=>
   have h2':=aA h2
   have e:dt=lv+1+1:=by omega
   subst e
   cases h3: !(bh s t.root ((((lv+1+1):Nat):Int))).2 with
   |true=>rw [O7 h1 h2 h3] at hq;exact .inl (ZD6.1 hq).2
   |false=>
    rw [HX h1 h2 h3] at hq
    refine .inr ⟨ht.snd.2.2 q hq,fun r=>?_⟩
    show _≤bq (t.root::(lG s (lv+1) t.root).flatMap (im s (lv+1))) r
    rw [dQ]
    have:=fZ (f:=im s (lv+1)) (r:=r) (l:=lG s (lv+1) t.root) hq
    omega
theorem sw {s:ay}{t:bf}{d dt lv:Nat}(ht:oP s t dt) (FW:lv+1=d∨lv+2=d) (hd:d≤2) (j:Nat):rE s (lv+1) (nth ae (dM s t (((d:Nat):Int)) ((((lv+1):Nat):Int))) j)∧∀r,bq (im s (lv+1) (nth ae (dM s t (((d:Nat):Int)) ((((lv+1):Nat):Int))) j)) r≤bq (im s dt t.root) r:=by
 by_cases hj:j<(dM s t (((d:Nat):Int)) ((((lv+1):Nat):Int))).length
 ·rcases adz ht FW hd _ (bT (ek:=ae) hj) with e |h
  ·rw [e];exact⟨kB _ _,fun r=>by rw [zt];exact ZA8 _⟩
  ·exact h
 ·rw [show nth ae (dM s t (((d:Nat):Int)) ((((lv+1):Nat):Int))) j=bO from tD (ek:=ae) (by omega)]
  exact⟨kB _ _,fun r=>by rw [zt];exact ZA8 _⟩
theorem r3.filter (l:List Pt):r3 l (l.filter fun p=> !(au p)):=fun f=>by
 rw [List.countP_filter]
 refine ZA9 ?_
 congr 1
 funext p
 cases au p<;>cases f p<;>rfl
theorem r3.nh {p:Pt}(h:au p=true) (w:List Pt):r3 [p] w:=fun f=>by
 rw [show List.countP (fun p=> !(au p)&&f p) [p]=0 by simp [h]];exact ZA8 _
theorem adB {s:ay}{t:bf}{dt:Nat}(ht:oP s t dt):r3 (dM s t (((1:Nat):Int)) (((1:Nat):Int))) (bA s t):=by
 cases h1:decide (t.depth≠((1:Nat):Int)) with
 |true=>rw [CF h1];exact r3.T3 _ _
 |false=>
  have hd:=aA h1
  rw [HY h1 (decide_eq_true rfl)]
  cases hh:au t.root with
  |true=>exact r3.nh hh _
  |false=>
   rw [zZ (decide_eq_false (by omega)) hh (decide_eq_false (by omega))]
   exact fun f=>ZB6 _
theorem SS {s s1:ay}{t:bf}{dt:Nat}(ht:oP s t dt):r3 (dM s t (((2:Nat):Int)) (((1:Nat):Int))++dM s1 t (((2:Nat):Int)) (((2:Nat):Int))) (bA s t):=by
 cases h1:decide (t.depth≠((2:Nat):Int)) with
 |true=>rw [CF h1,CF h1];exact (r3.append (r3.T3 4 []) (r3.T3 4 (bA s t)))
 |false=>
  have hd:=aA h1
  rw [HY (s:=s1) h1 (decide_eq_true rfl)]
  cases hh:au t.root with
  |true=>
   refine r3.append (b:=[]) (d:=bA s t) ?_ (r3.nh hh _)
   rw [HX h1 (by decide) (by rw [kA hh];rfl),kA hh]
   exact r3.T3 _ _
  |false=>
   rw [I4 (decide_eq_false (by omega)) hh (decide_eq_true (by omega))]
   have hb:r3 (dM s t (((2:Nat):Int)) (((1:Nat):Int))) ((bh s t.root 2).1.filter fun p=> !(au p)):=by
    cases h3: !(bh s t.root (((2:Nat):Int))).2 with
    |true=>rw [O7 h1 (by decide) h3];exact r3.T3 _ _
    |false=>rw [HX h1 (by decide) h3];exact r3.filter _
   intro f
   have h:=hb f
   rw [List.countP_append,List.countP_cons,List.countP_cons,List.countP_nil]
   omega
theorem C0 {s:ay}{t:bf}{dt:Nat}(ht:oP s t dt) (r:Nat):bq (uO s dt t.root) r=bq (bA s t) r:=by
 have hd:=ht.dep
 have hl:=ht.le
 match dt,hl with
 |0,_=>rw [I5 (decide_eq_true hd)];rfl
 |1,_=>
  rw [show uO s 1 t.root=[t.root] by show t.root::_=_;rw [Y7]]
  cases hh:au t.root with
  |true=>rw [z1 hh,mj hh];rfl
  |false=>rw [zZ (decide_eq_false (by omega)) hh (decide_eq_false (by omega))]
 |2,_=>
  rw [show uO s 2 t.root=t.root::lG s 1 t.root by show t.root::(lG s 1 t.root).flatMap (uO s 1)=_;rw [acO]]
  cases hh:au t.root with
  |true=>rw [z1 hh,dQ,mj hh,oA hh,fN];rfl
  |false=>
   rw [I4 (decide_eq_false (by omega)) hh (decide_eq_true hd),dQ,dQ t.root (List.filter _ _)]
   congr 1
   show bq (bh s t.root 2).1 r=_
   unfold bq
   rw [List.countP_filter]
   congr 1
   funext p
   unfold LD
   cases au p<;>simp
theorem afh {n:Int}(h:n≤1):bl n=((0:Nat):Int):=by unfold bl;rw [decide_eq_true h];rfl
theorem YH {n:Int}(h0:1<n) (h:n≤4):bl n=((1:Nat):Int):=by unfold bl;rw [decide_eq_false (by omega),decide_eq_true h];rfl
theorem YG {n:Int}(h0:4<n):bl n=((2:Nat):Int):=by unfold bl;rw [decide_eq_false (by omega),decide_eq_false (by omega)];rfl
structure alO (s:ay) (t:bf) (O:Nat→Nat) (l:List Pt) (d:Nat) (u:ay) (root:Pt) (st fr:List Pt):Prop where
 acc:Acc u (fun r=>O r+bq fr r)
 kp:Kp O s u
 same:dR s u
 snd:rE u d root
 lv:∃k,xr u d root=l++cw k
 num:∀r,bq (uO u d root) r≤bq fr r+bq st r
 dom:r3 st (bA s t)
theorem s6 (p:Pt):rootOf [p]=p:=rfl
theorem abY {s u:ay}{t:bf}{O:Nat→Nat}{l nn st:List Pt}{many:Int}{dt:Nat}(h:my 3 s t (bl many) 1 l []=(u,some (nn,st))) (ha:Acc s O) (ht:oP s t dt) (C1:0≤many) (hm:many≤16) (hlen:l.length=many.toNat) (hs:∀q∈l,rE s 0 q) (hc:∀r,bq (bA s t) r+bq l r≤O r) (ho:∀r,bq (im s dt t.root) r≤O r):
  ∃d fr,bl many=((d:Nat):Int)∧d≤2∧alO s t O l d u (rootOf nn) st fr:=by
 have hsp:∀j,∀q∈l++cw j,rE s 0 q:=fun j q hq=>by
  rcases ZB5.1 hq with hq |hq
  ·exact hs q hq
  ·rw [show q=bO from (ZD6.1 hq).2];exact kB s 0
 have hcl:∀r,bq l r≤O r:=fun r=>by have:=hc r;omega
 have rY:=HQ l
 obtain⟨j,hj⟩:=R9 l
 by_cases h1:many≤1
 ·rw [afh h1] at h ⊢
  rw [PJ (decide_eq_false (by decide))] at h
  cases h
  refine⟨0,[],rfl,by omega,⟨ha.mono fun r=>ZB6 _,Kp.refl _ _,dR.refl _,?_,?_,fun r=>ZA8 _,r3.nil _⟩⟩
  ·match l,hlen,hs with
   |[],_,_=>exact kB s 0
   |[p],_,hs=>exact hs p (by simp)
   |_::_::_,hl,_=>simp at hl;omega
  ·match l,hlen with
   |[],_=>exact⟨1,rfl⟩
   |[p],_=>exact⟨0,rfl⟩
   |_::_::_,hl=>simp at hl;omega
 ·by_cases h4:many≤4
  ·rw [YH (by omega) h4] at h ⊢
   cases hf:fJ 5 s 1 (dM s t (((1:Nat):Int)) 1) (eM l) 0 [] [] with
   |mk s1 r1=>
    cases r1 with
    |none=>rw [PI (decide_eq_true (by decide)) hf] at h;cases h
    |some q=>
     obtain⟨n1,st1⟩:=q
     rw [PH (decide_eq_true (by decide)) hf,PJ (decide_eq_false (by decide))] at h
     cases h
     have hl4:(eM l).length=4*1:=by rw [rY];omega
     have hR:=tV (n:=0) hl4 hf ha (by omega) (by omega) (by rw [Nat.mul_zero,ZF1,hj];exact hsp j) (fun r=>by
      rw [Nat.mul_zero,ZF1,hj,acP,bK,fN];have:=hcl r;omega) (fun i=>(sw (d:=1) (lv:=0) ht (.inl rfl) (by omega) i).1) (fun i r=>ZB1 ((sw (d:=1) (lv:=0) ht (.inl rfl) (by omega) i).2 r) (ho r))
     obtain⟨ps,ks,fr,e1,e2,e3,hR⟩:=hR
     rw [Nat.mul_zero,ZF1,ZF1] at hR
     match ps,e3 with
     |[p],_=>
      rw [e1,e2]
      simp only [ZC9]
      have hb:=hR.lG
      rw [ZD5,List.flatMap_nil,ZE4] at hb
      refine⟨1,fr,rfl,by omega,⟨hR.acc,hR.kp,hR.same,hR.sub p (by simp),⟨j,?_⟩,fun r=>?_,hR.dom.trans (adB ht)⟩⟩
      ·rw [s6,Y6,hb,hj]
      ·rw [s6,show uO u 1 p=[p] by show p::(lG u 0 p).flatMap (uO u 0)=[p];rw [Y7]]
       exact hR.num r
  ·rw [YG (by omega)] at h ⊢
   cases hf:fJ 5 s 1 (dM s t (((2:Nat):Int)) 1) (eM l) 0 [] [] with
   |mk s1 r1=>
    cases r1 with
    |none=>rw [PI (decide_eq_true (by decide)) hf] at h;cases h
    |some q=>
     obtain⟨n1,st1⟩:=q
     rw [PH (decide_eq_true (by decide)) hf,show (1:Int)+1=2 from rfl] at h
     obtain⟨m1,hm1,hm2,hl4⟩:∃m,2≤m∧m≤4∧(eM l).length=4*m:=⟨(l.length+3) / 4,by omega,by omega,by rw [rY];omega⟩
     have hR:=tV (n:=0) hl4 hf ha (by omega) (by omega) (by rw [Nat.mul_zero,ZF1,hj];exact hsp j) (fun r=>by
      rw [Nat.mul_zero,ZF1,hj,acP,bK,fN];have:=hcl r;omega) (fun i=>(sw (d:=2) (lv:=0) ht (.inr rfl) (by omega) i).1) (fun i r=>ZB1 ((sw (d:=2) (lv:=0) ht (.inr rfl) (by omega) i).2 r) (ho r))
     obtain⟨ps,ks,fr,e1,e2,e3,hR⟩:=hR
     rw [Nat.mul_zero,ZF1,ZF1] at hR
     simp only [ZC9] at e1 e2
     subst e1 e2
     have ald:=HQ n1
     obtain⟨j2,yU⟩:=R9 n1
     have alp:(eM n1).length=4*1:=by rw [ald];omega
     cases hf2:fJ 5 s1 2 (dM s1 t (((2:Nat):Int)) 2) (eM n1) 0 [] st1 with
     |mk s2 r2=>
      cases r2 with
      |none=>rw [PI (decide_eq_true (by decide)) hf2] at h;cases h
      |some q2=>
       obtain⟨n2,st2⟩:=q2
       rw [PH (decide_eq_true (by decide)) hf2,PJ (decide_eq_false (by decide))] at h
       cases h
       have htx:s.ck≤s1.ck:=by rw [hR.same.ck];exact ZC1 _
       have aae:=uu ht.snd htx hR.kp ho
       have ht1:oP s1 t dt:=⟨ht.dep,ht.le,aae.1⟩
       have ahb:∀q∈eM n1,rE s1 1 q:=fun q hq=>by
        rw [yU] at hq
        rcases ZB5.1 hq with hq |hq
        ·exact hR.sub q hq
        ·rw [show q=bO from (ZD6.1 hq).2];exact kB s1 1
       have hA1:∀(x:ay) (m:List Pt) (r:Nat),bq (m.flatMap (im x 1)) r=bq m r+bq (m.flatMap (lG x 0)) r:=fun x m r=>by
        have:=vY (f:=im x 1) (g:=fun q=>[q]) (h:=lG x 0) (r:=r) (l:=m) fun q _=>by
         show bq (q::(lG x 0 q).flatMap (im x 0)) r=_
         rw [acP,dQ]
        rw [this,ru]
       have ajP:∀r,bq ((eM n1).flatMap (im s1 1)) r≤O r+bq fr r:=fun r=>by
        rw [hA1,yU,List.flatMap_append,bK,bK,hR.lG,fN,hj,bK,fN]
        rw [tQ (f:=lG s1 0) (m:=4) (oA rfl),fN]
        have h1:=hR.num r
        have h2:=(hR.dom.trans (r3.trans (b:=dM s t (((2:Nat):Int)) (((1:Nat):Int))++dM s t (((2:Nat):Int)) (((2:Nat):Int))) (fun f=>by rw [List.countP_append];exact ZD3 _ _) (SS ht))).bq r
        have h3:=hc r
        omega
       have hR2:=tV (n:=1) alp hf2 hR.acc (by omega) (by omega) (by rw [Nat.mul_zero,ZF1];exact ahb) (fun r=>by
        rw [Nat.mul_zero,ZF1];exact ajP r) (fun i=>(sw (d:=2) (lv:=1) ht1 (.inl rfl) (by omega) i).1) (fun i r=>by
        have h1:=(sw (d:=2) (lv:=1) ht1 (.inl rfl) (by omega) i).2 r
        rw [aae.2.1] at h1
        have:=ho r
        exact ZB1 h1 (by omega))
       obtain⟨ps2,ks2,fr2,e21,e22,e23,hR2⟩:=hR2
       rw [Nat.mul_zero,ZF1,ZF1] at hR2
       match ps2,e23 with
       |[p2],_=>
        rw [e21,e22]
        simp only [ZC9]
        have hb:=hR2.lG
        rw [ZD5,List.flatMap_nil,ZE4] at hb
        have ak6:s1.ck≤u.ck:=by rw [hR2.same.ck];exact ZC1 _
        have E8:∀q∈eM n1,xr u 1 q=xr s1 1 q:=fun q hq=>
         (uu (ahb q hq) ak6 hR2.kp fun r=>ZB1 (fZ hq) (ajP r)).2.2.1
        refine⟨2,fr++fr2,rfl,by omega,⟨?_,?_,hR.same.trans hR2.same,hR2.sub p2 (by simp),⟨j+j2*4,?_⟩,fun r=>?_,?_⟩⟩
        ·exact hR2.acc.mono fun r=>by show O r+bq (fr++fr2) r≤O r+bq fr r+bq fr2 r;rw [bK];omega
        ·exact hR.kp.trans (hR2.kp.mono fun r=>ZD3 _ _)
        ·rw [s6]
         show (lG u 1 p2).flatMap (xr u 1)=_
         rw [hb,jC E8,jC fun q _=>Y6 s1 q,yU,List.flatMap_append,hR.lG,hj,tQ (f:=lG s1 0) (m:=4) (oA rfl),ZD2]
         congr 1
         show List.replicate j bO++List.replicate (j2*4) bO=_
         rw [List.replicate_append_replicate];rfl
        ·rw [s6,show uO u 2 p2=p2::eM n1 by show p2::(lG u 1 p2).flatMap (uO u 1)=_;rw [acO,hb]]
         rw [dQ,yU,bK,fN,bK,bK]
         have h1:=hR.num r
         have h2:=hR2.num r
         omega
        ·exact (r3.append hR.dom hR2.dom).trans (SS ht)
end GL
namespace GL
theorem rE.bt {s:ay}{n:Nat}{p:Pt}(h:rE s (n+1) p):(bh s p ((((n+1):Nat):Int))).2=true:=by
 cases hh:au p with
 |true=>rw [kA hh]
 |false=>exact h.2.1 hh
theorem wF {s:ay}{n:Nat}:∀{l acc:List Pt},(∀q∈l,rE s (n+1) q)→fy s ((((n+1):Nat):Int)) l acc=some (acc++l.flatMap (lG s n))
 |[],acc,_=>by rw [List.flatMap_nil,ZE4];rfl
 |p::l,acc,h=>by
  rw [N9 (by rw [(h p (by simp)).bt];rfl),wF fun q hq=>h q (by simp [hq]),ZD5,ZD2]
theorem F5 {s:ay}{n:Nat}{p:Pt}(h:rE s (n+1) p):(lG s n p).length=4:=(iI s p ((((n+1):Nat):Int))).2 h.bt
theorem UE {s:ay}{n:Nat}:∀{l:List Pt},(∀q∈l,rE s (n+1) q)→(l.flatMap (lG s n)).length=4*l.length
 |[],_=>rfl
 |p::l,h=>by
  rw [ZD5,ZA0,F5 (h p (by simp)),UE fun q hq=>h q (by simp [hq]),ZA1];omega
theorem aiU (s:ay) (p:Pt):xr s 2 p=(lG s 1 p).flatMap (lG s 0):=by
 show (lG s 1 p).flatMap (xr s 1)=_
 rw [jC fun q _=>Y6 s q]
theorem EA {s:ay}{t:bf}{d:Nat}(h:oP s t d):bC s t=(xr s d t.root,true)∧(xr s d t.root).length=4 ^ d:=by
 have hd:=h.dep
 have hl:=h.le
 have hs:=h.snd
 unfold bC
 rw [hd]
 match d,hl with
 |0,_=>exact⟨vD (by decide),rfl⟩
 |1,_=>
  have h1:=wF (s:=s) (n:=0) (l:=[t.root]) (acc:=[]) (fun q hq=>by rw [ZC7.1 hq];exact hs)
  rw [CN (by decide) h1,vD (by decide),Y6]
  rw [ZC9,ZD5,List.flatMap_nil,ZE4]
  exact⟨rfl,F5 hs⟩
 |2,_=>
  have h1:=wF (s:=s) (n:=1) (l:=[t.root]) (acc:=[]) (fun q hq=>by rw [ZC7.1 hq];exact hs)
  rw [ZC9,ZD5,List.flatMap_nil,ZE4] at h1
  have h2:=wF (s:=s) (n:=0) (l:=lG s 1 t.root) (acc:=[]) hs.2.2
  rw [CN (by decide) h1,show (((2:Nat):Int)-1)=(((0+1):Nat):Int) from rfl,CN (by decide) h2,vD (by decide),aiU,ZC9]
  refine⟨rfl,?_⟩
  rw [UE hs.2.2,F5 hs]
theorem mG {s:ay}{t:bf}{d:Nat}(h:oP s t d):aB s t=xr s d t.root++cw (16-4 ^ d):=by
 have ⟨h1,h2⟩:=EA h
 unfold aB
 rw [h1]
 simp only
 rw [h2];congr 2;omega
theorem oP.trd {s:ay}{t:bf}{d:Nat}(h:oP s t d):t.rd:=⟨by have:=h.dep;have:=h.le;omega,h.snd.pok⟩
theorem yX {st:List Pt}:∀{l:List Pt}{s:ay}{O X:Nat→Nat},Acc s O→(∀p∈l,a6 p=true)→(∀r,X r+bq (l.filter fun o=> !(gZ st o)) r≤O r)→Acc (dY l st s) X∧Kp X s (dY l st s)∧dR s (dY l st s)
 |[],s,O,X,h,_,hO=>⟨h.mono fun r=>by have:=hO r;omega,Kp.refl _ _,dR.refl _⟩
 |o::l,s,O,X,h,hl,hO=>by
  cases hk:gZ st o with
  |true=>
   rw [T9 hk]
   exact yX h (fun p hp=>hl p (by simp [hp])) fun r=>by
    have:=hO r
    rw [List.filter_cons_of_neg (by rw [hk];decide)] at this
    exact this
  |false=>
   rw [UA hk]
   have h1:=C8 (O':=fun r=>X r+bq (l.filter fun o=> !(gZ st o)) r) h (hl o (by simp)) (fun r=>by
    have:=hO r
    rw [List.filter_cons_of_pos (by rw [hk];rfl),dQ] at this
    show X r+_+_≤_;omega)
   have h2:=yX (X:=X) h1.1 (fun p hp=>hl p (by simp [hp])) fun r=>ZB6 _
   exact⟨h2.1,(h1.2.1.mono fun r=>ZD3 _ _).trans h2.2.1,h1.2.2.trans h2.2.2⟩
theorem NS (f:Pt→Bool) (r:Nat):∀(l:List Pt),bq l r=bq (l.filter f) r+bq (l.filter fun o=> !(f o)) r
 |[]=>rfl
 |o::l=>by
  have ih:=NS f r l
  rw [dQ]
  cases h:f o with
  |true=>rw [List.filter_cons_of_pos h,List.filter_cons_of_neg (by rw [h];decide),dQ o (l.filter f)];omega
  |false=>rw [List.filter_cons_of_neg (by rw [h];decide),List.filter_cons_of_pos (by rw [h];rfl),dQ o (l.filter _)];omega
theorem ad5 {st:List Pt}{p:Pt}(h:p∈st):gZ st p=true:=by
 unfold gZ
 rw [List.any_eq_true]
 exact⟨p,h,si.2 rfl⟩
theorem afP {st inner:List Pt}(h:r3 st inner) (r:Nat):bq st r≤bq (inner.filter (gZ st)) r:=by
 have h1:=h (fun p=>decide (at' p=r)&&gZ st p)
 have e1:st.countP (fun p=> !(au p)&&(decide (at' p=r)&&gZ st p))=bq st r:=by
  unfold bq
  refine List.countP_congr fun p hp=>?_
  unfold LD
  rw [ad5 hp,Bool.and_true]
 have e2:inner.countP (fun p=> !(au p)&&(decide (at' p=r)&&gZ st p))=bq (inner.filter (gZ st)) r:=by
  unfold bq
  rw [List.countP_filter]
  congr 1
  funext p
  unfold LD
  rw [Bool.and_assoc]
 omega
structure Laid (s:ay) (Y:Nat→Nat) (l:List Pt) (many:Int) (u:ay) (t':bf) (d:Nat):Prop where
 rH:oP u t' d
 dm:bl many=((d:Nat):Int)
 many:t'.many=many
 lv:∃k,xr u d t'.root=l++cw k
 acc:Acc u (fun r=>Y r+bq (uO u d t'.root) r)
 kp:Kp Y s u
 same:dR s u
theorem MJ {s:ay}{t:bf}{L:List Pt}{many:Int}{O Y:Nat→Nat}{dt:Nat}(ha:Acc s O) (ht:oP s t dt) (C1:0≤many) (hm:many≤16) (hL:many.toNat≤L.length) (hs:∀q∈L.take many.toNat,rE s 0 q) (hY:∀r,Y r+bq (bA s t) r≤O r) (hYl:∀r,bq (L.take many.toNat) r≤Y r) (ho:∀r,bq (im s dt t.root) r≤O r) (hz:(bS s t L many).2.2=true):
  ∃d,Laid s Y (L.take many.toNat) many (bS s t L many).1 (bS s t L many).2.1 d:=by
 unfold bS at hz ⊢
 cases hf:my 3 s t (bl many) 1 (L.take many.toNat) [] with
 |mk u r=>
  rw [hf] at hz
  cases r with
  |none=>cases hz
  |some q=>
   obtain⟨nn,st⟩:=q
   obtain⟨d,fr,hd,hd2,hR⟩:=abY hf ha ht C1 hm (by rw [ZB8];omega) hs (fun r=>by have:=hY r;have:=hYl r;omega) ho
   show∃d,Laid s Y (L.take many.toNat) many (dY (bA s t) st u) (L9 (rootOf nn) (bl many) many) d
   obtain⟨k,hk⟩:=hR.lv
   have hX:=yX (st:=st) (l:=bA s t) (X:=fun r=>Y r+bq ((bA s t).filter (gZ st)) r+bq fr r) hR.acc (MW ht.trd) fun r=>by
    have:=hY r
    have:=NS (gZ st) r (bA s t)
    show Y r+_+_+_≤O r+bq fr r
    omega
   have agm:∀r,bq (uO u d (rootOf nn)) r≤bq fr r+bq ((bA s t).filter (gZ st)) r:=fun r=>by
    have:=hR.num r
    have:=afP hR.dom r
    omega
   have uE:=uu hR.snd (by rw [hX.2.2.ck];exact ZC1 _) hX.2.1 fun r=>by
    rw [mH,hk,bK,fN]
    have:=agm r
    have:=hYl r
    show _≤Y r+_+_
    omega
   refine⟨d,⟨⟨hd,hd2,uE.1⟩,hd,rfl,⟨k,?_⟩,?_,?_,hR.same.trans hX.2.2⟩⟩
   ·show xr (dY (bA s t) st u) d (rootOf nn)=_
    rw [uE.2.2.1,hk]
   ·refine hX.1.mono fun r=>?_
    show Y r+bq (uO (dY (bA s t) st u) d (rootOf nn)) r≤_
    rw [uE.2.2.2]
    have:=agm r
    show _≤Y r+_+_
    omega
   ·exact (hR.kp.mono fun r=>by have:=hY r;omega).trans (hX.2.1.mono fun r=>by show _≤Y r+_+_;omega)
end GL
end Go.Proofs.YtbfgjadbfjkcdaaGreatDoor
