/- FnTreeOk returns true for every code (its row lists package variables, tied by the card): part 22 of 39. -/
import Derived.Test.YtbfgjadbfjkcdaaGreatDoorPaq
import Derived.Test.YtbfgjadbfjkcdaaGreatDoorPar
import Derived.Test.YtbfgjadbfjkcdaaGreatDoorPat
import Derived.Test.YtbfgjadbfjkcdaaGreatDoorPau
set_option maxHeartbeats 20000000
set_option linter.all false
namespace Go.Proofs.YtbfgjadbfjkcdaaGreatDoor
namespace GL
theorem qZ:∀(l:List Pt),l.flatMap (fun q=>[q])=l
 |[]=>rfl
 |q::l=>by rw [List.flatMap_cons,qZ l];rfl
theorem acF (s:ax) (l:List Pt):l.flatMap (hZ s 0)=l:=qZ l
theorem aiF (s:ax) (l:List Pt):l.flatMap (xQ s 0)=l:=qZ l
theorem Y0 (s:ax):∀(l:List Pt),l.flatMap (uI s 0)=[]
 |[]=>rfl
 |q::l=>by rw [List.flatMap_cons,Y0 s l];rfl
theorem acE (s:ax):∀(l:List Pt),l.flatMap (uI s 1)=l
 |[]=>rfl
 |q::l=>by
  rw [List.flatMap_cons,acE s l]
  show (q::(ly s 0 q).flatMap (uI s 0))++l=q::l
  rw [Y0];rfl
theorem YZ (s:ax) (q:Pt):xQ s 1 q=ly s 0 q:=aiF s _
theorem yP {f:Pt→List Pt} {m:Nat} (h:f bL=cl m):∀(n:Nat),(cl n).flatMap f=cl (n * m)
 |0=>by rw [Nat.zero_mul];rfl
 |n+1=>by
  rw [show cl (n+1)=bL::cl n from rfl,List.flatMap_cons,h,yP h n]
  show List.replicate m bL++List.replicate (n * m) bL=List.replicate ((n+1) * m) bL
  rw [List.replicate_append_replicate];congr 1;rw [Nat.succ_mul];omega
theorem fF (n r:Nat):bj (cl n) r=0:=by
 unfold bj
 rw [List.countP_eq_zero]
 intro p hp
 rw [show p=bL from (List.mem_replicate.1 hp).2]
 simp [K2,show ar bL=true by rfl]
theorem zk (s:ax) (r:Nat):∀(n:Nat),bj (hZ s n bL) r=0
 |0=>ma rfl r
 |n+1=>by
  show bj (bL::(ly s n bL).flatMap (hZ s n)) r=0
  rw [dI,ma rfl,qv rfl]
  have h:=zk s r n
  simp only [cl,List.replicate,List.flatMap_cons,List.flatMap_nil,bD,re];omega
theorem R4:∀(f:Nat) (l:List Pt),∃j,B1 f l=l++cl j
 |0,l=>⟨0,by simp [B1,cl]⟩
 |f+1,l=>by
  cases hc:decide ((l.length:Int) % 4≠0) with
  |false=>exact ⟨0,by rw [ac7 hc];simp [cl]⟩
  |true=>
   obtain ⟨j,hj⟩:=R4 f (l++[bL])
   exact ⟨j+1,by rw [ac6 hc,hj,List.append_assoc];rfl⟩
theorem R2 (l:List Pt):∃j,eF l=l++cl j:=R4 4 l
structure oF (s:ax) (t:aZ) (d:Nat):Prop where
 dep:t.depth=((d:Nat):Int)
 le:d≤2
 snd:rj s d t.root
theorem rO.trans {a b c:List Pt} (h:rO a b) (h2:rO b c):rO a c:=fun f=>Nat.le_trans (h f) (h2 f)
theorem rO.TU (n:Nat) (w:List Pt):rO (cl n) w:=fun f=>by
 rw [List.countP_eq_zero.2]
 ·exact Nat.zero_le _
 ·intro p hp
  rw [show p=bL from (List.mem_replicate.1 hp).2]
  simp [show ar bL=true by rfl]
theorem rO.bj {a b:List Pt} (h:rO a b) (r:Nat):bj a r≤bj b r:=by
 have:=h (fun p=>decide (at' p=r))
 exact this
theorem adq {s:ax} {t:aZ} {d dt lv:Nat} (ht:oF s t dt) (FH:lv+1=d∨lv+2=d) (hd:d≤2):∀q∈dG s t (((d:Nat):Int)) ((((lv+1):Nat):Int)),q=bL∨(rj s (lv+1) q∧∀r,bj (hZ s (lv+1) q) r≤bj (hZ s dt t.root) r):=by
 intro q hq
 cases h1:decide (t.depth≠((d:Nat):Int)) with
 |true=>rw [B5 h1] at hq;exact .inl (List.mem_replicate.1 hq).2
 |false=>
  have he:dt=d:=by have:=ca h1;have:=ht.dep;omega
  subst he
  cases h2:decide ((((lv+1):Nat):Int)=((dt:Nat):Int)) with
  |true=>
   rw [HN h1 h2] at hq
   have h2:=cw h2
   have e:dt=lv+1:=by omega
   subst e
   rw [List.mem_singleton.1 hq]
   exact .inr ⟨ht.snd,fun r=>Nat.le_refl _⟩
  |false=>
   have h2':=ca h2
   have e:dt=lv+1+1:=by omega
   subst e
   cases h3: !(a8 s t.root ((((lv+1+1):Nat):Int))).2 with
   |true=>rw [OW h1 h2 h3] at hq;exact .inl (List.mem_replicate.1 hq).2
   |false=>
    rw [HM h1 h2 h3] at hq
    refine .inr ⟨ht.snd.2.2 q hq,fun r=>?_⟩
    show _≤bj (t.root::(ly s (lv+1) t.root).flatMap (hZ s (lv+1))) r
    rw [dI]
    have:=fR (f:=hZ s (lv+1)) (r:=r) (l:=ly s (lv+1) t.root) hq
    omega
theorem sf {s:ax} {t:aZ} {d dt lv:Nat} (ht:oF s t dt) (FH:lv+1=d∨lv+2=d) (hd:d≤2) (j:Nat):rj s (lv+1) (nth ab (dG s t (((d:Nat):Int)) ((((lv+1):Nat):Int))) j)∧∀r,bj (hZ s (lv+1) (nth ab (dG s t (((d:Nat):Int)) ((((lv+1):Nat):Int))) j)) r≤bj (hZ s dt t.root) r:=by
 by_cases hj:j < (dG s t (((d:Nat):Int)) ((((lv+1):Nat):Int))).length
 ·rcases adq ht FH hd _ (bS (ek:=ab) hj) with e |h
  ·rw [e];exact ⟨kr _ _,fun r=>by rw [zk];exact Nat.zero_le _⟩
  ·exact h
 ·rw [show nth ab (dG s t (((d:Nat):Int)) ((((lv+1):Nat):Int))) j=bL from tq (ek:=ab) (by omega)]
  exact ⟨kr _ _,fun r=>by rw [zk];exact Nat.zero_le _⟩
theorem rO.filter (l:List Pt):rO l (l.filter fun p=> !(ar p)):=fun f=>by
 rw [List.countP_filter]
 refine Nat.le_of_eq ?_
 congr 1
 funext p
 cases ar p<;>cases f p<;>rfl
theorem rO.nh {p:Pt} (h:ar p=true) (w:List Pt):rO [p] w:=fun f=>by
 rw [show List.countP (fun p=> !(ar p)&&f p) [p]=0 by simp [h]];exact Nat.zero_le _
theorem ads {s:ax} {t:aZ} {dt:Nat} (ht:oF s t dt):rO (dG s t (((1:Nat):Int)) (((1:Nat):Int))) (bl s t):=by
 cases h1:decide (t.depth≠((1:Nat):Int)) with
 |true=>rw [B5 h1];exact rO.TU _ _
 |false=>
  have hd:=ca h1
  rw [HN h1 (decide_eq_true rfl)]
  cases hh:ar t.root with
  |true=>exact rO.nh hh _
  |false=>
   rw [zQ (decide_eq_false (by omega)) hh (decide_eq_false (by omega))]
   exact fun f=>Nat.le_refl _
theorem SK {s s1:ax} {t:aZ} {dt:Nat} (ht:oF s t dt):rO (dG s t (((2:Nat):Int)) (((1:Nat):Int))++dG s1 t (((2:Nat):Int)) (((2:Nat):Int))) (bl s t):=by
 cases h1:decide (t.depth≠((2:Nat):Int)) with
 |true=>rw [B5 h1,B5 h1];exact (rO.append (rO.TU 4 []) (rO.TU 4 (bl s t)))
 |false=>
  have hd:=ca h1
  rw [HN (s:=s1) h1 (decide_eq_true rfl)]
  cases hh:ar t.root with
  |true=>
   refine rO.append (b:=[]) (d:=bl s t) ?_ (rO.nh hh _)
   rw [HM h1 (by decide) (by rw [kq hh];rfl),kq hh]
   exact rO.TU _ _
  |false=>
   rw [IT (decide_eq_false (by omega)) hh (decide_eq_true (by omega))]
   have hb:rO (dG s t (((2:Nat):Int)) (((1:Nat):Int))) ((a8 s t.root 2).1.filter fun p=> !(ar p)):=by
    cases h3: !(a8 s t.root (((2:Nat):Int))).2 with
    |true=>rw [OW h1 (by decide) h3];exact rO.TU _ _
    |false=>rw [HM h1 (by decide) h3];exact rO.filter _
   intro f
   have h:=hb f
   rw [List.countP_append,List.countP_cons,List.countP_cons,List.countP_nil]
   omega
theorem CO {s:ax} {t:aZ} {dt:Nat} (ht:oF s t dt) (r:Nat):bj (uI s dt t.root) r=bj (bl s t) r:=by
 have hd:=ht.dep
 have hl:=ht.le
 match dt,hl with
 |0,_=>rw [IU (decide_eq_true hd)];rfl
 |1,_=>
  rw [show uI s 1 t.root=[t.root] by show t.root::_=_;rw [Y0]]
  cases hh:ar t.root with
  |true=>rw [zR hh,ma hh];rfl
  |false=>rw [zQ (decide_eq_false (by omega)) hh (decide_eq_false (by omega))]
 |2,_=>
  rw [show uI s 2 t.root=t.root::ly s 1 t.root by show t.root::(ly s 1 t.root).flatMap (uI s 1)=_;rw [acE]]
  cases hh:ar t.root with
  |true=>rw [zR hh,dI,ma hh,qv hh,fF];rfl
  |false=>
   rw [IT (decide_eq_false (by omega)) hh (decide_eq_true hd),dI,dI t.root (List.filter _ _)]
   congr 1
   show bj (a8 s t.root 2).1 r=_
   unfold bj
   rw [List.countP_filter]
   congr 1
   funext p
   unfold K2
   cases ar p<;>simp
theorem ae8 {n:Int} (h:n≤1):bb n=((0:Nat):Int):=by unfold bb;rw [decide_eq_true h];rfl
theorem X9 {n:Int} (h0:1 < n) (h:n≤4):bb n=((1:Nat):Int):=by unfold bb;rw [decide_eq_false (by omega),decide_eq_true h];rfl
theorem X8 {n:Int} (h0:4 < n):bb n=((2:Nat):Int):=by unfold bb;rw [decide_eq_false (by omega),decide_eq_false (by omega)];rfl
structure aln (s:ax) (t:aZ) (O:Nat→Nat) (l:List Pt) (d:Nat) (u:ax) (root:Pt) (st fr:List Pt):Prop where
 acc:Acc u (fun r=>O r+bj fr r)
 kp:Kp O s u
 same:dJ s u
 snd:rj u d root
 lv:∃k,xQ u d root=l++cl k
 num:∀r,bj (uI u d root) r≤bj fr r+bj st r
 dom:rO st (bl s t)
theorem sW (p:Pt):rootOf [p]=p:=rfl
theorem abP {s u:ax} {t:aZ} {O:Nat→Nat} {l nn st:List Pt} {many:Int} {dt:Nat} (h:mm 3 s t (bb many) 1 l []=(u,some (nn,st))) (ha:Acc s O) (ht:oF s t dt) (CQ:0≤many) (hm:many≤16) (hlen:l.length=many.toNat) (hs:∀q∈l,rj s 0 q) (hc:∀r,bj (bl s t) r+bj l r≤O r) (ho:∀r,bj (hZ s dt t.root) r≤O r):
  ∃d fr,bb many=((d:Nat):Int)∧d≤2∧aln s t O l d u (rootOf nn) st fr:=by
 have hsp:∀j,∀q∈l++cl j,rj s 0 q:=fun j q hq=>by
  rcases List.mem_append.1 hq with hq |hq
  ·exact hs q hq
  ·rw [show q=bL from (List.mem_replicate.1 hq).2];exact kr s 0
 have hcl:∀r,bj l r≤O r:=fun r=>by have:=hc r;omega
 have rM:=HF l
 obtain ⟨j,hj⟩:=R2 l
 by_cases h1:many≤1
 ·rw [ae8 h1] at h ⊢
  rw [PA (decide_eq_false (by decide))] at h
  cases h
  refine ⟨0,[],rfl,by omega,⟨ha.mono fun r=>Nat.le_refl _,Kp.refl _ _,dJ.refl _,?_,?_,fun r=>Nat.zero_le _,rO.nil _⟩⟩
  ·match l,hlen,hs with
   |[],_,_=>exact kr s 0
   |[p],_,hs=>exact hs p (by simp)
   |_::_::_,hl,_=>simp at hl;omega
  ·match l,hlen with
   |[],_=>exact ⟨1,rfl⟩
   |[p],_=>exact ⟨0,rfl⟩
   |_::_::_,hl=>simp at hl;omega
 ·by_cases h4:many≤4
  ·rw [X9 (by omega) h4] at h ⊢
   cases hf:fB 5 s 1 (dG s t (((1:Nat):Int)) 1) (eF l) 0 [] [] with
   |mk s1 r1=>
    cases r1 with
    |none=>rw [O9 (decide_eq_true (by decide)) hf] at h;cases h
    |some q=>
     obtain ⟨n1,st1⟩:=q
     rw [O8 (decide_eq_true (by decide)) hf,PA (decide_eq_false (by decide))] at h
     cases h
     have hl4:(eF l).length=4 * 1:=by rw [rM];omega
     have hR:=tP (n:=0) hl4 hf ha (by omega) (by omega) (by rw [Nat.mul_zero,List.drop_zero,hj];exact hsp j) (fun r=>by
      rw [Nat.mul_zero,List.drop_zero,hj,acF,bD,fF];have:=hcl r;omega) (fun i=>(sf (d:=1) (lv:=0) ht (.inl rfl) (by omega) i).1) (fun i r=>Nat.le_trans ((sf (d:=1) (lv:=0) ht (.inl rfl) (by omega) i).2 r) (ho r))
     obtain ⟨ps,ks,fr,e1,e2,e3,hR⟩:=hR
     rw [Nat.mul_zero,List.drop_zero,List.drop_zero] at hR
     match ps,e3 with
     |[p],_=>
      rw [e1,e2]
      simp only [List.nil_append]
      have hb:=hR.ly
      rw [List.flatMap_cons,List.flatMap_nil,List.append_nil] at hb
      refine ⟨1,fr,rfl,by omega,⟨hR.acc,hR.kp,hR.same,hR.sub p (by simp),⟨j,?_⟩,fun r=>?_,hR.dom.trans (ads ht)⟩⟩
      ·rw [sW,YZ,hb,hj]
      ·rw [sW,show uI u 1 p=[p] by show p::(ly u 0 p).flatMap (uI u 0)=[p];rw [Y0]]
       exact hR.num r
  ·rw [X8 (by omega)] at h ⊢
   cases hf:fB 5 s 1 (dG s t (((2:Nat):Int)) 1) (eF l) 0 [] [] with
   |mk s1 r1=>
    cases r1 with
    |none=>rw [O9 (decide_eq_true (by decide)) hf] at h;cases h
    |some q=>
     obtain ⟨n1,st1⟩:=q
     rw [O8 (decide_eq_true (by decide)) hf,show (1:Int)+1=2 from rfl] at h
     obtain ⟨m1,hm1,hm2,hl4⟩:∃m,2≤m∧m≤4∧(eF l).length=4 * m:=⟨(l.length+3) / 4,by omega,by omega,by rw [rM];omega⟩
     have hR:=tP (n:=0) hl4 hf ha (by omega) (by omega) (by rw [Nat.mul_zero,List.drop_zero,hj];exact hsp j) (fun r=>by
      rw [Nat.mul_zero,List.drop_zero,hj,acF,bD,fF];have:=hcl r;omega) (fun i=>(sf (d:=2) (lv:=0) ht (.inr rfl) (by omega) i).1) (fun i r=>Nat.le_trans ((sf (d:=2) (lv:=0) ht (.inr rfl) (by omega) i).2 r) (ho r))
     obtain ⟨ps,ks,fr,e1,e2,e3,hR⟩:=hR
     rw [Nat.mul_zero,List.drop_zero,List.drop_zero] at hR
     simp only [List.nil_append] at e1 e2
     subst e1 e2
     have akO:=HF n1
     obtain ⟨j2,yR⟩:=R2 n1
     have akZ:(eF n1).length=4 * 1:=by rw [akO];omega
     cases hf2:fB 5 s1 2 (dG s1 t (((2:Nat):Int)) 2) (eF n1) 0 [] st1 with
     |mk s2 r2=>
      cases r2 with
      |none=>rw [O9 (decide_eq_true (by decide)) hf2] at h;cases h
      |some q2=>
       obtain ⟨n2,st2⟩:=q2
       rw [O8 (decide_eq_true (by decide)) hf2,PA (decide_eq_false (by decide))] at h
       cases h
       have htx:s.bY≤s1.bY:=by rw [hR.same.bY];exact Int.le_refl _
       have Z7:=uj ht.snd htx hR.kp ho
       have ht1:oF s1 t dt:=⟨ht.dep,ht.le,Z7.1⟩
       have ag0:∀q∈eF n1,rj s1 1 q:=fun q hq=>by
        rw [yR] at hq
        rcases List.mem_append.1 hq with hq |hq
        ·exact hR.sub q hq
        ·rw [show q=bL from (List.mem_replicate.1 hq).2];exact kr s1 1
       have hA1:∀(x:ax) (m:List Pt) (r:Nat),bj (m.flatMap (hZ x 1)) r=bj m r+bj (m.flatMap (ly x 0)) r:=fun x m r=>by
        have:=vS (f:=hZ x 1) (g:=fun q=>[q]) (h:=ly x 0) (r:=r) (l:=m) fun q _=>by
         show bj (q::(ly x 0 q).flatMap (hZ x 0)) r=_
         rw [acF,dI]
        rw [this,qZ]
       have ajv:∀r,bj ((eF n1).flatMap (hZ s1 1)) r≤O r+bj fr r:=fun r=>by
        rw [hA1,yR,List.flatMap_append,bD,bD,hR.ly,fF,hj,bD,fF]
        rw [yP (f:=ly s1 0) (m:=4) (qv rfl),fF]
        have h1:=hR.num r
        have h2:=(hR.dom.trans (rO.trans (b:=dG s t (((2:Nat):Int)) (((1:Nat):Int))++dG s t (((2:Nat):Int)) (((2:Nat):Int))) (fun f=>by rw [List.countP_append];exact Nat.le_add_right _ _) (SK ht))).bj r
        have h3:=hc r
        omega
       have hR2:=tP (n:=1) akZ hf2 hR.acc (by omega) (by omega) (by rw [Nat.mul_zero,List.drop_zero];exact ag0) (fun r=>by
        rw [Nat.mul_zero,List.drop_zero];exact ajv r) (fun i=>(sf (d:=2) (lv:=1) ht1 (.inl rfl) (by omega) i).1) (fun i r=>by
        have h1:=(sf (d:=2) (lv:=1) ht1 (.inl rfl) (by omega) i).2 r
        rw [Z7.2.1] at h1
        have:=ho r
        exact Nat.le_trans h1 (by omega))
       obtain ⟨ps2,ks2,fr2,e21,e22,e23,hR2⟩:=hR2
       rw [Nat.mul_zero,List.drop_zero,List.drop_zero] at hR2
       match ps2,e23 with
       |[p2],_=>
        rw [e21,e22]
        simp only [List.nil_append]
        have hb:=hR2.ly
        rw [List.flatMap_cons,List.flatMap_nil,List.append_nil] at hb
        have akH:s1.bY≤u.bY:=by rw [hR2.same.bY];exact Int.le_refl _
        have ET:∀q∈eF n1,xQ u 1 q=xQ s1 1 q:=fun q hq=>
         (uj (ag0 q hq) akH hR2.kp fun r=>Nat.le_trans (fR hq) (ajv r)).2.2.1
        refine ⟨2,fr++fr2,rfl,by omega,⟨?_,?_,hR.same.trans hR2.same,hR2.sub p2 (by simp),⟨j+j2 * 4,?_⟩,fun r=>?_,?_⟩⟩
        ·exact hR2.acc.mono fun r=>by show O r+bj (fr++fr2) r≤O r+bj fr r+bj fr2 r;rw [bD];omega
        ·exact hR.kp.trans (hR2.kp.mono fun r=>Nat.le_add_right _ _)
        ·rw [sW]
         show (ly u 1 p2).flatMap (xQ u 1)=_
         rw [hb,js ET,js fun q _=>YZ s1 q,yR,List.flatMap_append,hR.ly,hj,yP (f:=ly s1 0) (m:=4) (qv rfl),List.append_assoc]
         congr 1
         show List.replicate j bL++List.replicate (j2 * 4) bL=_
         rw [List.replicate_append_replicate];rfl
        ·rw [sW,show uI u 2 p2=p2::eF n1 by show p2::(ly u 1 p2).flatMap (uI u 1)=_;rw [acE,hb]]
         rw [dI,yR,bD,fF,bD,bD]
         have h1:=hR.num r
         have h2:=hR2.num r
         omega
        ·exact (rO.append hR.dom hR2.dom).trans (SK ht)
end GL
namespace GL
theorem rj.bt {s:ax} {n:Nat} {p:Pt} (h:rj s (n+1) p):(a8 s p ((((n+1):Nat):Int))).2=true:=by
 cases hh:ar p with
 |true=>rw [kq hh]
 |false=>exact h.2.1 hh
theorem wy {s:ax} {n:Nat}:∀ {l acc:List Pt},(∀q∈l,rj s (n+1) q)→fo s ((((n+1):Nat):Int)) l acc=some (acc++l.flatMap (ly s n))
 |[],acc,_=>by rw [List.flatMap_nil,List.append_nil];rfl
 |p::l,acc,h=>by
  rw [NZ (by rw [(h p (by simp)).bt];rfl),wy fun q hq=>h q (by simp [hq]),List.flatMap_cons,List.append_assoc]
theorem FR {s:ax} {n:Nat} {p:Pt} (h:rj s (n+1) p):(ly s n p).length=4:=(iz s p ((((n+1):Nat):Int))).2 h.bt
theorem T7 {s:ax} {n:Nat}:∀ {l:List Pt},(∀q∈l,rj s (n+1) q)→(l.flatMap (ly s n)).length=4 * l.length
 |[],_=>rfl
 |p::l,h=>by
  rw [List.flatMap_cons,List.length_append,FR (h p (by simp)),T7 fun q hq=>h q (by simp [hq]),List.length_cons];omega
theorem aiE (s:ax) (p:Pt):xQ s 2 p=(ly s 1 p).flatMap (ly s 0):=by
 show (ly s 1 p).flatMap (xQ s 1)=_
 rw [js fun q _=>YZ s q]
theorem DW {s:ax} {t:aZ} {d:Nat} (h:oF s t d):bn s t=(xQ s d t.root,true)∧(xQ s d t.root).length=4 ^ d:=by
 have hd:=h.dep
 have hl:=h.le
 have hs:=h.snd
 unfold bn
 rw [hd]
 match d,hl with
 |0,_=>exact ⟨vu (by decide),rfl⟩
 |1,_=>
  have h1:=wy (s:=s) (n:=0) (l:=[t.root]) (acc:=[]) (fun q hq=>by rw [List.mem_singleton.1 hq];exact hs)
  rw [CD (by decide) h1,vu (by decide),YZ]
  rw [List.nil_append,List.flatMap_cons,List.flatMap_nil,List.append_nil]
  exact ⟨rfl,FR hs⟩
 |2,_=>
  have h1:=wy (s:=s) (n:=1) (l:=[t.root]) (acc:=[]) (fun q hq=>by rw [List.mem_singleton.1 hq];exact hs)
  rw [List.nil_append,List.flatMap_cons,List.flatMap_nil,List.append_nil] at h1
  have h2:=wy (s:=s) (n:=0) (l:=ly s 1 t.root) (acc:=[]) hs.2.2
  rw [CD (by decide) h1,show (((2:Nat):Int) - 1)=(((0+1):Nat):Int) from rfl,CD (by decide) h2,vu (by decide),aiE,List.nil_append]
  refine ⟨rfl,?_⟩
  rw [T7 hs.2.2,FR hs]
theorem mz {s:ax} {t:aZ} {d:Nat} (h:oF s t d):ay s t=xQ s d t.root++cl (16 - 4 ^ d):=by
 have ⟨h1,h2⟩:=DW h
 unfold ay
 rw [h1]
 simp only
 rw [h2];congr 2;omega
theorem oF.trd {s:ax} {t:aZ} {d:Nat} (h:oF s t d):t.rd:=⟨by have:=h.dep;have:=h.le;omega,h.snd.pok⟩
theorem yU {st:List Pt}:∀ {l:List Pt} {s:ax} {O X:Nat→Nat},Acc s O→(∀p∈l,aV p=true)→(∀r,X r+bj (l.filter fun o=> !(gQ st o)) r≤O r)→Acc (dQ l st s) X∧Kp X s (dQ l st s)∧dJ s (dQ l st s)
 |[],s,O,X,h,_,hO=>⟨h.mono fun r=>by have:=hO r;omega,Kp.refl _ _,dJ.refl _⟩
 |o::l,s,O,X,h,hl,hO=>by
  cases hk:gQ st o with
  |true=>
   rw [T2 hk]
   exact yU h (fun p hp=>hl p (by simp [hp])) fun r=>by
    have:=hO r
    rw [List.filter_cons_of_neg (by rw [hk];decide)] at this
    exact this
  |false=>
   rw [T3 hk]
   have h1:=CY (O':=fun r=>X r+bj (l.filter fun o=> !(gQ st o)) r) h (hl o (by simp)) (fun r=>by
    have:=hO r
    rw [List.filter_cons_of_pos (by rw [hk];rfl),dI] at this
    show X r+_+_≤_;omega)
   have h2:=yU (X:=X) h1.1 (fun p hp=>hl p (by simp [hp])) fun r=>Nat.le_refl _
   exact ⟨h2.1,(h1.2.1.mono fun r=>Nat.le_add_right _ _).trans h2.2.1,h1.2.2.trans h2.2.2⟩
theorem NI (f:Pt→Bool) (r:Nat):∀(l:List Pt),bj l r=bj (l.filter f) r+bj (l.filter fun o=> !(f o)) r
 |[]=>rfl
 |o::l=>by
  have ih:=NI f r l
  rw [dI]
  cases h:f o with
  |true=>rw [List.filter_cons_of_pos h,List.filter_cons_of_neg (by rw [h];decide),dI o (l.filter f)];omega
  |false=>rw [List.filter_cons_of_neg (by rw [h];decide),List.filter_cons_of_pos (by rw [h];rfl),dI o (l.filter _)];omega
theorem adW {st:List Pt} {p:Pt} (h:p∈st):gQ st p=true:=by
 unfold gQ
 rw [List.any_eq_true]
 exact ⟨p,h,r4.2 rfl⟩
theorem afG {st inner:List Pt} (h:rO st inner) (r:Nat):bj st r≤bj (inner.filter (gQ st)) r:=by
 have h1:=h (fun p=>decide (at' p=r)&&gQ st p)
 have e1:st.countP (fun p=> !(ar p)&&(decide (at' p=r)&&gQ st p))=bj st r:=by
  unfold bj
  refine List.countP_congr fun p hp=>?_
  unfold K2
  rw [adW hp,Bool.and_true]
 have e2:inner.countP (fun p=> !(ar p)&&(decide (at' p=r)&&gQ st p))=bj (inner.filter (gQ st)) r:=by
  unfold bj
  rw [List.countP_filter]
  congr 1
  funext p
  unfold K2
  rw [Bool.and_assoc]
 omega
structure Laid (s:ax) (Y:Nat→Nat) (l:List Pt) (many:Int) (u:ax) (t':aZ) (d:Nat):Prop where
 rm:oF u t' d
 dm:bb many=((d:Nat):Int)
 many:t'.many=many
 lv:∃k,xQ u d t'.root=l++cl k
 acc:Acc u (fun r=>Y r+bj (uI u d t'.root) r)
 kp:Kp Y s u
 same:dJ s u
theorem L9 {s:ax} {t:aZ} {L:List Pt} {many:Int} {O Y:Nat→Nat} {dt:Nat} (ha:Acc s O) (ht:oF s t dt) (CQ:0≤many) (hm:many≤16) (hL:many.toNat≤L.length) (hs:∀q∈L.take many.toNat,rj s 0 q) (hY:∀r,Y r+bj (bl s t) r≤O r) (hYl:∀r,bj (L.take many.toNat) r≤Y r) (ho:∀r,bj (hZ s dt t.root) r≤O r) (hz:(bK s t L many).2.2=true):
  ∃d,Laid s Y (L.take many.toNat) many (bK s t L many).1 (bK s t L many).2.1 d:=by
 unfold bK at hz ⊢
 cases hf:mm 3 s t (bb many) 1 (L.take many.toNat) [] with
 |mk u r=>
  rw [hf] at hz
  cases r with
  |none=>cases hz
  |some q=>
   obtain ⟨nn,st⟩:=q
   obtain ⟨d,fr,hd,hd2,hR⟩:=abP hf ha ht CQ hm (by rw [List.length_take];omega) hs (fun r=>by have:=hY r;have:=hYl r;omega) ho
   show∃d,Laid s Y (L.take many.toNat) many (dQ (bl s t) st u) (LZ (rootOf nn) (bb many) many) d
   obtain ⟨k,hk⟩:=hR.lv
   have hX:=yU (st:=st) (l:=bl s t) (X:=fun r=>Y r+bj ((bl s t).filter (gQ st)) r+bj fr r) hR.acc (MM ht.trd) fun r=>by
    have:=hY r
    have:=NI (gQ st) r (bl s t)
    show Y r+_+_+_≤O r+bj fr r
    omega
   have agb:∀r,bj (uI u d (rootOf nn)) r≤bj fr r+bj ((bl s t).filter (gQ st)) r:=fun r=>by
    have:=hR.num r
    have:=afG hR.dom r
    omega
   have uz:=uj hR.snd (by rw [hX.2.2.bY];exact Int.le_refl _) hX.2.1 fun r=>by
    rw [mA,hk,bD,fF]
    have:=agb r
    have:=hYl r
    show _≤Y r+_+_
    omega
   refine ⟨d,⟨⟨hd,hd2,uz.1⟩,hd,rfl,⟨k,?_⟩,?_,?_,hR.same.trans hX.2.2⟩⟩
   ·show xQ (dQ (bl s t) st u) d (rootOf nn)=_
    rw [uz.2.2.1,hk]
   ·refine hX.1.mono fun r=>?_
    show Y r+bj (uI (dQ (bl s t) st u) d (rootOf nn)) r≤_
    rw [uz.2.2.2]
    have:=agb r
    show _≤Y r+_+_
    omega
   ·exact (hR.kp.mono fun r=>by have:=hY r;omega).trans (hX.2.1.mono fun r=>by show _≤Y r+_+_;omega)
end GL
namespace GL
structure Tree (s:ax) (t:aZ) (d:Nat):Prop where
 rm:oF s t d
 m0:0≤t.many
 m1:t.many≤16
 dm:bb t.many=((d:Nat):Int)
 tail:∀i,t.many.toNat≤i→ar (nth ab (ay s t) i)=true
theorem Tree.ok {s:ax} {t:aZ} {d:Nat} (h:Tree s t d):t.ok:=⟨h.rm.trd,h.m0,h.m1⟩
theorem ZO {l m:List Pt} {i:Nat} (h:l.length≤i):nth ab (l++m) i=nth ab m (i - l.length):=by
 unfold nth;rw [List.getElem?_append_right h]
theorem B9 (n i:Nat):nth ab (cl n) i=bL:=by
 by_cases h:i < (cl n).length
 ·exact (List.mem_replicate.1 (bS (ek:=ab) h)).2
 ·exact tq (ek:=ab) (by omega)
theorem MN (a b:Nat):cl a++cl b=cl (a+b):=by
 unfold cl;rw [List.replicate_append_replicate]
theorem ab4 (n:Nat):(cl n).length=n:=List.length_replicate
theorem Laid.wide {s:ax} {Y:Nat→Nat} {l:List Pt} {many:Int} {u:ax} {t':aZ} {d:Nat} (h:Laid s Y l many u t' d):ay u t'=l++cl (16 - l.length)∧l.length≤16:=by
 obtain ⟨k,hk⟩:=h.lv
 have hw:=mz h.rm
 have hl:=fW (s:=u) h.rm.trd
 rw [hw,hk,List.append_assoc,MN] at hl
 rw [List.length_append,ab4] at hl
 refine ⟨?_,by omega⟩
 rw [hw,hk,List.append_assoc,MN]
 congr 2;omega
theorem Laid.tree {s:ax} {Y:Nat→Nat} {l:List Pt} {many:Int} {u:ax} {t':aZ} {d:Nat} (h:Laid s Y l many u t' d) (h0:0≤many) (h1:many≤16) (hl:l.length=many.toNat):Tree u t' d:=by
 refine ⟨h.rm,by rw [h.many];exact h0,by rw [h.many];exact h1,by rw [h.many];exact h.dm,fun i hi=>?_⟩
 rw [h.many] at hi
 rw [h.wide.1,ZO (by omega),B9];rfl
theorem KL {s:ax}:∀ {n:Nat} {p q:Pt},rj s n p→q∈xQ s n p→rj s 0 q
 |0,p,q,h,hq=>by rw [List.mem_singleton.1 (show q∈[p] from hq)];exact h
 |n+1,p,q,h,hq=>by
  obtain ⟨x,hx,hxq⟩:=List.mem_flatMap.1 (show q∈(ly s n p).flatMap (xQ s n) from hq)
  exact KL (h.2.2 x hx) hxq
theorem uO {s:ax} {t:aZ} {d:Nat} (h:oF s t d):∀q∈ay s t,rj s 0 q:=fun q hq=>by
 rw [mz h] at hq
 rcases List.mem_append.1 hq with hq |hq
 ·exact KL h.snd hq
 ·rw [show q=bL from (List.mem_replicate.1 hq).2];exact kr s 0
theorem FZ {s:ax} {t:aZ} {d:Nat} (h:oF s t d) (r:Nat):bj (hZ s d t.root) r=bj (bl s t) r+bj (ay s t) r:=by
 rw [mA,CO h,mz h,bD,fF];omega
theorem QA {s u:ax} {t:aZ} {d:Nat} {O:Nat→Nat} (h:oF s t d) (ht:s.bY≤u.bY) (hk:Kp O s u) (hO:∀r,bj (hZ s d t.root) r≤O r):oF u t d∧hZ u d t.root=hZ s d t.root∧ay u t=ay s t∧∀r,bj (bl u t) r=bj (bl s t) r:=by
 have hs:=uj h.snd ht hk hO
 have h':oF u t d:=⟨h.dep,h.le,hs.1⟩
 refine ⟨h',hs.2.1,by rw [mz h',mz h,hs.2.2.1],fun r=>?_⟩
 rw [←CO h',←CO h,hs.2.2.2]
theorem xh {s u:ax} {t:aZ} {d:Nat} {O:Nat→Nat} (h:Tree s t d) (ht:s.bY≤u.bY) (hk:Kp O s u) (hO:∀r,bj (hZ s d t.root) r≤O r):Tree u t d∧hZ u d t.root=hZ s d t.root∧ay u t=ay s t:=by
 have h':=QA h.rm ht hk hO
 exact ⟨⟨h'.1,h.m0,h.m1,h.dm,by rw [h'.2.2.1];exact h.tail⟩,h'.2.1,h'.2.2.1⟩
theorem aaC {p:Pt} {r:Nat}:∀ {l:List Pt} {k:Nat},k < l.length→bj (l.set k p) r+bj [nth ab l k] r=bj l r+bj [p] r
 |q::l,0,_=>by
  show bj (p::l) r+bj [q] r=_
  rw [dI p l,dI q l];omega
 |q::l,k+1,h=>by
  have ih:=aaC (p:=p) (r:=r) (l:=l) (k:=k) (by simp at h;omega)
  show bj (q::l.set k p) r+bj [nth ab l k] r=_
  rw [dI q (l.set k p),dI q l];omega
theorem afi (l:List Pt) (n r:Nat):bj (l.take n) r≤bj l r:=PZ (List.take_sublist n l) r
theorem tD {l:List Pt} {k n:Nat} {p q:Pt} (h:q∈(l.set k p).take n):q=p∨q∈l:=by
 rcases List.mem_or_eq_of_mem_set (List.mem_of_mem_take h) with h |h
 ·exact .inr h
 ·exact .inl h
theorem BO {s:ax} {t:aZ} {L:List Pt} {k:Nat} {p old:Pt} {many:Int} {O X:Nat→Nat} {dt:Nat} (ha:Acc s O) (ht:oF s t dt) (CQ:0≤many) (hm:many≤16) (hL:L.length=16) (hold:aV old=true) (hs:∀q∈(L.set k p).take many.toNat,rj s 0 q)
  (hX:∀r,X r+bj ((L.set k p).take many.toNat) r+bj (bif ptrEq p old then [] else [old]) r+bj (bl s t) r≤O r) (ho:∀r,bj (hZ s dt t.root) r≤O r) (hz:(pI s t L k p many old).2.2=true):
  ∃d,Laid s (fun r=>X r+bj ((L.set k p).take many.toNat) r) ((L.set k p).take many.toNat) many (pI s t L k p many old).1 (pI s t L k p many old).2.1 d:=by
 unfold pI at hz ⊢
 cases hl: !(bK s t (L.set k p) many).2.2 with
 |true=>rw [hl] at hz;cases hz
 |false=>
  have akY:=L9 (L:=L.set k p) (Y:=fun r=>X r+bj ((L.set k p).take many.toNat) r+bj (bif ptrEq p old then [] else [old]) r) ha ht CQ hm (by rw [List.length_set];omega) hs hX (fun r=>by show _≤X r+_+_;omega) ho (oD hl)
  obtain ⟨d,hd⟩:=akY
  refine ⟨d,?_⟩
  simp only [cond_false]
  generalize (bK s t (L.set k p) many).1=u at *
  generalize (bK s t (L.set k p) many).2.1=t' at *
  cases he:ptrEq p old with
  |true=>
   rw [he] at hd
   show Laid s _ _ many u t' d
   exact ⟨hd.rm,hd.dm,hd.many,hd.lv,hd.acc.mono fun r=>by show X r+_+_≤X r+_+bj [] r+_;rw [re];omega,hd.kp.mono fun r=>Nat.le_add_right _ _,hd.same⟩
  |false=>
   rw [he] at hd
   show Laid s _ _ many (cG u old) t' d
   have hf:=CY (p:=old) (O':=fun r=>X r+bj ((L.set k p).take many.toNat) r+bj (uI u d t'.root) r) hd.acc hold (fun r=>by
    show X r+_+_+_≤X r+_+bj [old] r+_;omega)
   obtain ⟨j,hj⟩:=hd.lv
   have hk:=QA hd.rm (Int.le_of_eq hf.2.2.bY.symm) hf.2.1 fun r=>by
    rw [mA,hj,bD,fF]
    show _≤X r+_+_;omega
   have hks:=uj hd.rm.snd (by rw [hf.2.2.bY];exact Int.le_refl _) hf.2.1 fun r=>by
    rw [mA,hj,bD,fF]
    show _≤X r+_+_;omega
   exact ⟨hk.1,hd.dm,hd.many,⟨j,by rw [hks.2.2.1,hj]⟩,by rw [hks.2.2.2];exact hf.1,(hd.kp.mono fun r=>Nat.le_add_right _ _).trans (hf.2.1.mono fun r=>Nat.le_add_right _ _),hd.same.trans hf.2.2⟩
structure aiz (s:ax) (t:aZ) (X:Nat→Nat) (k:Nat) (text:ByteArray) (many:Int) (u:ax) (t':aZ) (d:Nat):Prop where
 tree:Tree u t' d
 acc:Acc u (fun r=>X r+bj (hZ u d t'.root) r)
 kp:Kp X s u
 same:dJ s u
 many:t'.many=many
 get:∀j,j < 16→getM u t' j=if j=k then text else getM s t j
theorem zE {l:List Pt} {n i:Nat} (h:i < n):nth ab (l.take n) i=nth ab l i:=by
 unfold nth;rw [List.getElem?_take_of_lt h]
theorem yx {l m:List Pt} {i:Nat} (h:i < l.length):nth ab (l++m) i=nth ab l i:=by
 unfold nth;rw [List.getElem?_append_left h]
theorem Laid.put {s0 s:ax} {t:aZ} {X:Nat→Nat} {k:Nat} {p:Pt} {many:Int} {u:ax} {t':aZ} {d dt:Nat} {text:ByteArray} (h:Laid s (fun r=>X r+bj (((ay s0 t).set k p).take many.toNat) r) (((ay s0 t).set k p).take many.toNat) many u t' d) (ht:oF s0 t dt) (CQ:0≤many) (hm:many≤16) (hk:k < 16) (hkm:(k:Int) < many) (htl:∀i,many.toNat≤i→ar (nth ab (ay s0 t) i)=true) (hX:Kp X s0 s) (hS:dJ s0 s) (hr:(bA s p).1=text) (hq:∀j,j≠k→ar (nth ab (ay s0 t) j)=false→bA s (nth ab (ay s0 t) j)=bA s0 (nth ab (ay s0 t) j)):aiz s0 t X k text many u t' d:=by
 have hlen:=fW (s:=s0) ht.trd
 have hl:(((ay s0 t).set k p).take many.toNat).length=many.toNat:=by rw [List.length_take,List.length_set];omega
 have hT:=h.tree CQ hm hl
 have hw:=h.wide.1
 have xE:∀j,j < many.toNat→nth ab (ay u t') j=nth ab ((ay s0 t).set k p) j:=fun j hj=>by
  rw [hw,yx (by omega),zE hj]
 have uz:∀q∈((ay s0 t).set k p).take many.toNat,bA u q=bA s q:=fun q hq=>mH fun hh=>h.kp _ (by
  have:=tV hq hh
  show 0 < X _+_;omega)
 refine ⟨hT,?_,hX.trans (h.kp.mono fun r=>Nat.le_add_right _ _),hS.trans h.same,h.many,fun j hj=>?_⟩
 ·refine h.acc.mono fun r=>?_
  obtain ⟨i,hi⟩:=h.lv
  rw [mA,hi,bD,fF]
  show _≤X r+_+_;omega
 ·unfold getM
  by_cases hjm:j < many.toNat
  ·rw [xE j hjm]
   have yQ:nth ab ((ay s0 t).set k p) j∈((ay s0 t).set k p).take many.toNat:=by
    rw [←zE hjm];exact bS (ek:=ab) (by omega)
   rw [uz _ yQ]
   by_cases e:j=k
   ·subst e
    rw [if_pos rfl,nu (ek:=ab) (by omega)];exact hr
   ·rw [if_neg e,ij (ek:=ab) (fun h=>e h.symm)]
    cases hh:ar (nth ab (ay s0 t) j) with
    |true=>rw [fL hh,fL hh]
    |false=>rw [hq j e hh]
  ·have e:j≠k:=by omega
   rw [if_neg e]
   have h1:ar (nth ab (ay u t') j)=true:=hT.tail j (by rw [h.many];omega)
   rw [fL h1,fL (htl j (by omega))]
theorem BN {s:ax} {t:aZ} {X:Nat→Nat} {k:Int} {text:ByteArray} {dt:Nat} (ha:Acc s (fun r=>X r+bj (hZ s dt t.root) r)) (ht:Tree s t dt) (hk0:0≤k) (hk:k≤15) (hz:(aU s t k text).2.2=true):
  ∃d,aiz s t X k.toNat text (bH t k) (aU s t k text).1 (aU s t k text).2.1 d:=by
 have CQ:0≤bH t k:=by unfold bH;have:=ht.m0;omega
 have hm1:bH t k≤16:=by unfold bH;have:=ht.m1;omega
 have hkm:(k.toNat:Int) < bH t k:=by unfold bH;omega
 have htm:t.many.toNat≤(bH t k).toNat:=by unfold bH;omega
 have hlen:=fW (s:=s) ht.rm.trd
 have hold:aV (dO s t k)=true:=oA (lz ht.rm.trd) _
 have htl:∀i,(bH t k).toNat≤i→ar (nth ab (ay s t) i)=true:=fun i hi=>ht.tail i (by omega)
 have cg:∀r,bj (hZ s dt t.root) r=bj (bl s t) r+bj (ay s t) r:=FZ ht.rm
 have aef:∀(p:Pt) (r:Nat),bj ((ay s t).set k.toNat p) r+bj [dO s t k] r=bj (ay s t) r+bj [p] r:=fun p r=>aaC (by omega)
 have htk:=fun (p:Pt) (r:Nat)=>afi ((ay s t).set k.toNat p) (bH t k).toNat r
 have IY:∀ {P:Prop},decide (gN s t k=text)=true→decide (gN s t k≠text)=true→P:=fun h1 h2=>absurd (cw h1) (cw h2)
 unfold aU at hz ⊢
 cases h1:decide (gN s t k=text) with
 |true=>
  have ai7:(bA s (dO s t k)).1=text:=cw h1
  rw [decide_eq_false (p:=gN s t k≠text) (fun h=>h (cw h1))] at hz ⊢
  cases h2:decide (bH t k=t.many) with
  |true=>
   have h2:=cw h2
   refine ⟨dt,⟨ht,ha,Kp.refl _ _,dJ.refl _,h2.symm,fun j hj=>?_⟩⟩
   show getM s t j=_
   by_cases e:j=k.toNat
   ·rw [if_pos e,e];exact ai7
   ·rw [if_neg e]
  |false=>
   rw [h1,h2] at hz
   obtain ⟨d,hd⟩:=BO (X:=X) ha ht.rm CQ hm1 hlen hold (fun q hq=>by
    rcases tD hq with rfl |hq
    ·exact uO ht.rm _ (bS (ek:=ab) (by omega))
    ·exact uO ht.rm q hq) (fun r=>by
    have a1:=cg r
    have a2:=aef (dO s t k) r
    have a3:=htk (dO s t k) r
    rw [r4.2 rfl]
    show X r+_+bj [] r+_≤X r+_
    rw [re];omega) (fun r=>by show _≤X r+_;omega) hz
   exact ⟨d,hd.put ht.rm CQ hm1 (by omega) hkm htl (Kp.refl _ _) (dJ.refl _) ai7 fun j _ _=>rfl⟩
 |false=>
  rw [decide_eq_true (p:=gN s t k≠text) (ca h1)] at hz ⊢
  rw [h1] at hz
  cases h3:decide (text≠⟨#[]⟩) with
  |false=>
   have ai9:text=⟨#[]⟩:=Classical.byContradiction (ca h3)
   rw [h3] at hz
   obtain ⟨d,hd⟩:=BO (X:=X) ha ht.rm CQ hm1 hlen hold (fun q hq=>by
    rcases tD hq with rfl |hq
    ·exact kr s 0
    ·exact uO ht.rm q hq) (fun r=>by
    have a1:=cg r
    have a2:=aef bL r
    have a3:=htk bL r
    rw [ma (p:=bL) rfl] at a2
    have a4:bj (bif ptrEq bL (dO s t k) then [] else [dO s t k]) r≤bj [dO s t k] r:=by
     cases ptrEq bL (dO s t k) with
     |true=>exact Nat.zero_le _
     |false=>exact Nat.le_refl _
    show X r+_+_+_≤X r+_
    omega) (fun r=>by show _≤X r+_;omega) hz
   exact ⟨d,hd.put ht.rm CQ hm1 (by omega) hkm htl (Kp.refl _ _) (dJ.refl _) (by rw [fL rfl,ai9]) fun j _ _=>rfl⟩
  |true=>
   rw [h3] at hz
   cases hw: !(a6 s text 0).2.2 with
   |true=>rw [hw] at hz;cases hz
   |false=>
    rw [hw] at hz
    obtain ⟨akn,wkp,acw,_,_,wfr⟩:=xL ha (oD hw)
    simp only [Bool.false_and,cond_false,cond_true] at hz ⊢
    generalize (a6 s text 0).1=s1 at *
    generalize (a6 s text 0).2.1=p at *
    have hT:=QA ht.rm (Int.le_of_eq acw.bY.symm) wkp fun r=>Nat.le_add_left _ _
    have hq1:∀q∈ay s t,rj s1 0 q:=by rw [←hT.2.2.1];exact uO hT.1
    obtain ⟨d,hd⟩:=BO (X:=X) akn hT.1 CQ hm1 hlen hold (fun q hq=>by
     rcases tD hq with rfl |hq
     ·exact ⟨wfr.ok,fun hh=>⟨wfr.lv,by rw [wfr.EF,acw.bY];exact Int.le_refl _,by rw [wD hh wfr.row wfr.fits]⟩⟩
     ·exact hq1 q hq) (fun r=>by
     have a1:=cg r
     have a2:=aef p r
     have a3:=htk p r
     have a4:bj (bif ptrEq p (dO s t k) then [] else [dO s t k]) r≤bj [dO s t k] r:=by
      cases ptrEq p (dO s t k) with
      |true=>exact Nat.zero_le _
      |false=>exact Nat.le_refl _
     rw [hT.2.2.2 r]
     show X r+_+_+_≤X r+_+_
     omega) (fun r=>by rw [hT.2.1];show _≤X r+_+_;omega) hz
    refine ⟨d,hd.put ht.rm CQ hm1 (by omega) hkm htl (wkp.mono fun r=>Nat.le_add_right _ _) acw (by rw [wD wfr.nh wfr.row wfr.fits]) fun j _ hh=>?_⟩
    refine mH fun _=>wkp _ ?_
    have hj:j < (ay s t).length:=by
     rw [hlen]
     refine Classical.byContradiction fun FJ=>?_
     rw [show nth ab (ay s t) j=bL from tq (ek:=ab) (by omega)] at hh
     cases hh
    have c1:=tV (bS (ek:=ab) hj) hh
    have c2:=cg (at' (nth ab (ay s t) j))
    have c3:bj (ay s t) (at' (nth ab (ay s t) j))≤X (at' (nth ab (ay s t) j))+bj (hZ s dt t.root) (at' (nth ab (ay s t) j)):=by omega
    exact Nat.lt_of_lt_of_le c1 c3
end GL
namespace GL
theorem vH:∀(l:List Pt) (s:ax),dq l s=l.foldl cG s
 |[],_=>rfl
 |p::l,s=>vH l (cG s p)
structure aj8 (s:ax) (t:aZ) (X:Nat→Nat) (mn:Int) (u:ax) (t':aZ) (d:Nat):Prop where
 tree:Tree u t' d
 acc:Acc u (fun r=>X r+bj (hZ u d t'.root) r)
 kp:Kp X s u
 same:dJ s u
 many:t'.many=mn
 get:∀j,j < 16→getM u t' j=if (j:Int) < mn then getM s t j else ⟨#[]⟩
theorem mW {s:ax} {t:aZ} {d:Nat} (h:Tree s t d) {j:Nat} (hj:t.many≤(j:Int)):getM s t j=⟨#[]⟩:=by
 unfold getM
 rw [fL (h.tail j (by have:=h.m0;omega))]
theorem NH {s:ax} {t:aZ} {X:Nat→Nat} {many:Int} {dt:Nat} (ha:Acc s (fun r=>X r+bj (hZ s dt t.root) r)) (ht:Tree s t dt) (h0:0≤many) (h1:many≤16) (hz:(cA s t many).2.2=true):
  ∃d,aj8 s t X many (cA s t many).1 (cA s t many).2.1 d:=by
 cases h2:decide (many=t.many) with
 |true=>
  rw [afc h2]
  have h2:=cw h2
  refine ⟨dt,⟨ht,ha,Kp.refl _ _,dJ.refl _,h2.symm,fun j hj=>?_⟩⟩
  show getM s t j=_
  by_cases e:(j:Int) < many
  ·rw [if_pos e]
  ·rw [if_neg e];exact mW ht (by omega)
 |false=>
  cases h3: !(bK s t (ay s t) many).2.2 with
  |true=>rw [afb h2 h3] at hz;cases hz
  |false=>
   rw [afa h2 h3]
   have hlen:=fW (s:=s) ht.rm.trd
   have cg:=FZ ht.rm
   have hsp:∀r,bj (ay s t) r=bj ((ay s t).take many.toNat) r+bj ((ay s t).drop many.toNat) r:=fun r=>by
    rw [←bD,List.take_append_drop]
   obtain ⟨d,hd⟩:=L9 (L:=ay s t) (Y:=fun r=>X r+bj ((ay s t).take many.toNat) r+bj ((ay s t).drop many.toNat) r) ha ht.rm h0 h1 (by omega) (fun q hq=>uO ht.rm q (List.mem_of_mem_take hq)) (fun r=>by
    have a1:=cg r
    have a2:=hsp r
    show X r+_+_+_≤X r+_;omega) (fun r=>by show _≤X r+_+_;omega) (fun r=>Nat.le_add_left _ _) (oD h3)
   simp only
   generalize (bK s t (ay s t) many).1=u at *
   generalize (bK s t (ay s t) many).2.1=t' at *
   rw [vH]
   have hl:((ay s t).take many.toNat).length=many.toNat:=by rw [List.length_take];omega
   have hf:=yT (l:=(ay s t).drop many.toNat) (O':=fun r=>X r+bj ((ay s t).take many.toNat) r+bj (uI u d t'.root) r) hd.acc (fun p hp=>lz ht.rm.trd p (List.mem_of_mem_drop hp)) (fun r=>by
    show X r+_+_+_≤X r+_+_+_;omega)
   obtain ⟨k,hk⟩:=hd.lv
   have hT:=hd.tree h0 h1 hl
   have qE:∀r,bj (hZ u d t'.root) r=bj (uI u d t'.root) r+bj ((ay s t).take many.toNat) r:=fun r=>by
    rw [mA,hk,bD,fF];omega
   have uz:=xh hT (Int.le_of_eq hf.2.2.bY.symm) hf.2.1 fun r=>by rw [qE];show _≤X r+_+_;omega
   refine ⟨d,⟨uz.1,?_,(hd.kp.mono fun r=>by show X r≤X r+_+_;omega).trans (hf.2.1.mono fun r=>by show X r≤X r+_+_;omega),hd.same.trans hf.2.2,hd.many,fun j hj=>?_⟩⟩
   ·refine hf.1.mono fun r=>?_
    rw [uz.2.1,qE]
    show X r+_≤X r+_+_;omega
   ·by_cases e:(j:Int) < many
    ·rw [if_pos e]
     unfold getM
     rw [uz.2.2,hd.wide.1,yx (by omega),zE (by omega)]
     rw [mH (s:=s)]
     intro hh
     have yR:j < (ay s t).length:=by omega
     have yQ:nth ab (ay s t) j∈(ay s t).take many.toNat:=by
      have h5:nth ab ((ay s t).take many.toNat) j=nth ab (ay s t) j:=zE (by omega)
      rw [←h5];exact bS (ek:=ab) (by omega)
     have hc:=tV yQ hh
     have k1:=hd.kp (at' (nth ab (ay s t) j)) (show 0 < X (at' (nth ab (ay s t) j))+bj ((ay s t).take many.toNat) (at' (nth ab (ay s t) j))+bj ((ay s t).drop many.toNat) (at' (nth ab (ay s t) j)) by omega)
     have k2:=hf.2.1 (at' (nth ab (ay s t) j)) (show 0 < X (at' (nth ab (ay s t) j))+bj ((ay s t).take many.toNat) (at' (nth ab (ay s t) j))+bj (uI u d t'.root) (at' (nth ab (ay s t) j)) by omega)
     exact k2.trans k1
    ·rw [if_neg e]
     exact mW uz.1 (by rw [hd.many];omega)
theorem X6 {s:ax} {a:Nat} (oI:s.wf) (ha:a < 64) (h1:1≤qz s a) (hup:qz s a≤1000000):(fU s a).wf∧(∀r,qz (fU s a) r=if a=r then qz s r - 1 else qz s r)∧(∀r,qz (fU s a) r≠0∨a≠r→nth aa (fU s a).rows r=nth aa s.rows r):=by
 have hlen:a < s.refs.length:=by rw [oI.n.2.1];exact ha
 have hw:xu (qz s a - 1)=qz s a - 1:=FV (by omega) (by omega)
 have hrf:(fU s a).refs=s.refs.set a (qz s a - 1):=by
  show s.refs.set a (xu (qz s a - 1))=_
  rw [hw]
 have vF:∀r,qz (fU s a) r=if a=r then qz s r - 1 else qz s r:=fun r=>by
  show nth ae (fU s a).refs r=_
  rw [hrf]
  by_cases e:a=r
  ·subst e;rw [nu (ek:=ae) hlen,if_pos rfl]
  ·rw [ij (ek:=ae) e,if_neg e];rfl
 have hl:=xe s a
 refine ⟨⟨⟨hl.1.trans oI.n.1,hl.2.1.trans oI.n.2.1,hl.2.2.trans oI.n.2.2⟩,?_⟩,vF,fun r hr=>?_⟩
 ·show∀x∈(bif uD s a then s.rows.set a ByteArray.empty else s.rows),_
  cases uD s a with
  |true=>exact VA oI.sz (Nat.zero_le _)
  |false=>exact oI.sz
 ·show nth aa (bif uD s a then s.rows.set a ByteArray.empty else s.rows) r=_
  cases hb:uD s a with
  |false=>rfl
  |true=>
   have hz:qz (fU s a) a=0:=cw hb
   have e:a≠r:=fun e=>by
    rcases hr with hr |hr
    ·rw [←e] at hr;exact hr hz
    ·exact hr e
   exact ij (ek:=aa) e
theorem LX {O:Nat→Nat}:∀ {l:List Pt} {s:ax},s.wf→(∀r,qz s r≤1000000)→(∀p∈l,aV p=true∧ar p=false)→(∀r,((bj l r+bj s.dead r+O r:Nat):Int)≤qz s r)→
  (j1 l s).wf∧(∀r,qz (j1 l s) r≤1000000)∧(∀r,((bj s.dead r+O r:Nat):Int)≤qz (j1 l s) r)∧Kp O s (j1 l s)∧(j1 l s).dead=s.dead∧(j1 l s).gone=s.gone∧dJ s (j1 l s)
 |[],s,oI,hup,_,hsl=>⟨oI,hup,fun r=>by have:=hsl r;rw [re] at this;show ((bj s.dead r+O r:Nat):Int)≤qz s r;omega,Kp.refl _ _,rfl,rfl,dJ.refl _⟩
 |p::l,s,oI,hup,cq,hsl=>by
  have hp:=cq p (by simp)
  have xE:=sj hp.1
  have h1:=hsl (at' p)
  rw [dI,rI hp.2] at h1
  obtain ⟨d1,d2,d3⟩:=X6 oI xE (by omega) (hup _)
  have aje:∀r,((bj l r+bj (fU s (at' p)).dead r+O r:Nat):Int)≤qz (fU s (at' p)) r:=fun r=>by
   show ((bj l r+bj s.dead r+O r:Nat):Int)≤_
   have:=hsl r
   rw [dI] at this
   rw [d2]
   by_cases e:at' p=r
   ·subst e;rw [rI hp.2] at this;rw [if_pos rfl];omega
   ·rw [if_neg e];rw [y3 e] at this;omega
  obtain ⟨e1,e2,e3,e4,e5,e6,e7⟩:=LX (l:=l) (s:=fU s (at' p)) d1 (fun r=>by
   rw [d2];have:=hup r;by_cases e:at' p=r
   ·rw [if_pos e];omega
   ·rw [if_neg e];exact this) (fun q hq=>cq q (by simp [hq])) aje
  refine ⟨e1,e2,e3,?_,e5,e6,⟨e7.bY,e7.bT,e7.same⟩⟩
  refine Kp.trans (fun r hr=>d3 r ?_) e4
  have:=aje r
  left;omega
theorem yC {s:ax} {O:Nat→Nat} (h:Acc s O) (ht:s.bY < 1000000):Acc (gY s) O∧Kp O s (gY s)∧(gY s).bY=s.bY+1∧(gY s).bT=s.bT∧(gY s).same=s.same:=by
 obtain ⟨e1,e2,e3,e4,e5,e6,e7⟩:=LX (O:=O) h.wf h.up (fun p hp=>h.ok p (by simp [hp])) h.sl
 refine ⟨⟨⟨e1.n,e1.sz⟩,e2,?_,fun r=>?_,fun p hp=>?_⟩,e4,?_,e7.bT,e7.same⟩
 ·show 1≤(j1 s.gone s).bY+1∧(j1 s.gone s).bY+1≤1000000
  rw [e7.bY];have:=h.bY;omega
 ·show ((bj [] r+bj (j1 s.gone s).dead r+O r:Nat):Int)≤_
  rw [e5,re];have:=e3 r
  show _≤qz (j1 s.gone s) r
  omega
 ·have hp:p∈[]++(j1 s.gone s).dead:=hp
  rw [e5] at hp
  exact h.ok p (by simp at hp;simp [hp])
 ·show (j1 s.gone s).bY+1=_
  rw [e7.bY]
abbrev nhB (p:Pt):Bool:= !(ar p)
theorem uo (s:ax):∀(n:Nat),(hZ s n bL).filter nhB=[]
 |0=>rfl
 |n+1=>by
  show (bL::(ly s n bL).flatMap (hZ s n)).filter nhB=[]
  rw [qv rfl]
  have h:=uo s n
  simp only [cl,List.replicate,List.flatMap_cons,List.flatMap_nil,List.filter_append,h,List.filter_cons_of_neg (show¬nhB bL=true by decide),List.append_nil,List.filter_nil]
def aa2:Nat→Nat
 |0=>1
 |n+1=>1+4 * aa2 n
theorem NP {s:ax} {n:Nat} (one:∀ {p:Pt},rj s n p→∃k,k≤aa2 n∧∀(f:Nat) (rest out:List Pt),jZ (f+k) s (p::rest) out=jZ f s rest (out++(hZ s n p).filter nhB)):∀ {l:List Pt},(∀q∈l,rj s n q)→∃k,k≤l.length * aa2 n∧∀(f:Nat) (rest out:List Pt),jZ (f+k) s (l++rest) out=jZ f s rest (out++(l.flatMap (hZ s n)).filter nhB)
 |[],_=>⟨0,Nat.zero_le _,fun f rest out=>by simp⟩
 |q::l,h=>by
  obtain ⟨k1,h1,e1⟩:=one (h q (by simp))
  obtain ⟨k2,h2,e2⟩:=NP one (l:=l) fun x hx=>h x (by simp [hx])
  refine ⟨k2+k1,by rw [List.length_cons,Nat.succ_mul];omega,fun f rest out=>?_⟩
  rw [←Nat.add_assoc,List.cons_append,e1,e2,List.flatMap_cons,List.filter_append,List.append_assoc]
theorem UX {s:ax}:∀ {n:Nat} {p:Pt},rj s n p→∃k,k≤aa2 n∧∀(f:Nat) (rest out:List Pt),jZ (f+k) s (p::rest) out=jZ f s rest (out++(hZ s n p).filter nhB)
 |0,p,h=>by
  refine ⟨1,Nat.le_refl _,fun f rest out=>?_⟩
  cases hh:ar p with
  |true=>
   rw [jZ,hh,show (hZ s 0 p).filter nhB=[] by show [p].filter nhB=[];simp [nhB,hh]]
   simp
  |false=>
   have h0:=(h.2 hh).1
   rw [jZ,hh,decide_eq_false (p:=p.2.2.2.2 > 0) (by omega),show (hZ s 0 p).filter nhB=[p] by show [p].filter nhB=[p];simp [nhB,hh]]
   rfl
 |n+1,p,h=>by
  cases hh:ar p with
  |true=>
   refine ⟨1,by show 1≤1+_;omega,fun f rest out=>?_⟩
   rw [jZ,hh,ic hh,uo,List.append_nil];rfl
  |false=>
   have hb:=oq hh (h.2.1 hh)
   have FH:p.2.2.2.2=(((n+1):Nat):Int):=hb.2.1
   obtain ⟨k,hk,e⟩:=NP (s:=s) (n:=n) (fun h=>UX h) (l:=ly s n p) h.2.2
   have h4:=FR h
   refine ⟨k+1,by rw [h4] at hk;show _≤1+4 * aa2 n;omega,fun f rest out=>?_⟩
   rw [←Nat.add_assoc,jZ,hh,FH,decide_eq_true (p:=(((n+1):Nat):Int) > 0) (by omega)]
   show jZ (f+k) s (ly s n p++rest) (out++[p])=_
   rw [e]
   show jZ f s rest (out++[p]++_)=jZ f s rest (out++(p::(ly s n p).flatMap (hZ s n)).filter nhB)
   rw [List.filter_cons_of_pos (by simp [nhB,hh]),List.append_assoc];rfl
theorem UW {s:ax} {t:aZ} {d:Nat} (h:oF s t d):ND s t=true∧allM s t=(hZ s d t.root).filter nhB:=by
 obtain ⟨k,hk,e⟩:=UX h.snd
 have hp:aa2 d≤21:=by
  have:=h.le
  match d,this with
  |0,_=>decide
  |1,_=>decide
  |2,_=>decide
 obtain ⟨g,hg⟩:∃g,40=g+1+k:=⟨39 - k,by omega⟩
 have he:jZ 40 s [t.root] []=some ((hZ s d t.root).filter nhB):=by
  rw [hg,e (g+1) [] []];rfl
 unfold ND allM
 rw [he];exact ⟨rfl,rfl⟩
theorem L7 {s:ax} {many:Int}:∀ {l:List Pt} {i:Int},(∀j,j < l.length→ar (nth ab l j)=false→rj s 0 (nth ab l j)∧i+j < many)→j3 s many i l=true
 |[],i,_=>rfl
 |p::l,i,h=>by
  have l7:j3 s many (i+1) l=true:=L7 fun j hj hh=>by
   have:=h (j+1) (by simp;omega) hh
   exact ⟨this.1,by have:=this.2;omega⟩
  cases hh:ar p with
  |true=>rw [FB hh];exact l7
  |false=>
   obtain ⟨h1,h2⟩:=h 0 (by simp) hh
   have h3:=h1.2 hh
   have h2:i+((0:Nat):Int) < many:=h2
   rw [O4 hh (O5 (by rw [show (bA s p).2=true from h3.2.2];rfl) (decide_eq_false (fun fq=>fq h3.1)) (decide_eq_false (by have:p.2.1≤s.bY:=h3.2.1;omega)) (decide_eq_false (by omega)))]
   exact l7
theorem Tree.oz {s:ax} {t:aZ} {d:Nat} (h:Tree s t d):oz s t=true:=by
 have ⟨h1,h2⟩:=DW h.rm
 have hw:=mz h.rm
 rw [ZJ (zD (by rw [cn.2 ⟨h.m0,h.m1⟩];rfl) (decide_eq_false (by rw [h.dm,h.rm.dep];simp)) (by rw [h.rm.snd.pok];rfl)) (by rw [h1];rfl),h1]
 refine L7 fun j hj hh=>⟨KL h.rm.snd (bS (ek:=ab) hj),?_⟩
 refine Classical.byContradiction fun FJ=>?_
 have:=h.tail j (by have:=h.m0;omega)
 rw [hw,yx hj] at this
 rw [hh] at this
 cases this
end GL
end Go.Proofs.YtbfgjadbfjkcdaaGreatDoor
