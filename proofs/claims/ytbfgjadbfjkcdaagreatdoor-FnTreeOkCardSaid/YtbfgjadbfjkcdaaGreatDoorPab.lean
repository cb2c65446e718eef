/- FnTreeOk returns true for every code (its row lists package variables, tied by the card): part 2 of 39. -/
import Derived.Test.YtbfgjadbfjkcdaaGreatDoorPaa
set_option maxHeartbeats 20000000
set_option linter.all false
namespace Go.Proofs.YtbfgjadbfjkcdaaGreatDoor
namespace GL
inductive Q (α:Type 1):Type 1 where
 |ret (a:α)
 |ask (r:fC) (k:Option AV→Q α)
def Q.run {α:Type 1}:Q α→St→α
 | .ret a,_=>a
 | .ask r k,τ=>(k (τ r)).run τ
def Q.tr {α:Type 1}:Q α→St→List fC
 | .ret _,_=>[]
 | .ask r k,τ=>r::(k (τ r)).tr τ
theorem Q.loc {α:Type 1} {τ τ':St}:∀(q:Q α),agree (q.tr τ) τ τ'→q.run τ'=q.run τ∧q.tr τ'=q.tr τ
 | .ret _,_=>⟨rfl,rfl⟩
 | .ask r k,h=>by
  have e:τ' r=τ r:=(h r (by simp [Q.tr])).symm
  have:=Q.loc (k (τ r)) (fun x hx=>h x (by simp [Q.tr,hx]))
  simp only [Q.run,Q.tr,e]
  exact ⟨this.1,by rw [this.2]⟩
inductive Rs:Type 1 where
 |no
 |go (u:AM)
 |mZ (p:Prop) (u:AM)
 |br (p:Prop) (b:Bool) (d:Nat)
 |ex (p:Prop) (α:Type) (φ:α→Prop) (u:List (fC×(α→AV)))
def inst {α:Type} (x:α):List (fC×(α→AV))→AM
 |[]=>[]
 |p::u=>(p.1,p.2 x)::inst x u
def Rs.pre:Rs→Prop
 | .no=>False
 | .go _=>True
 | .mZ p _=>p
 | .br p _ _=>p
 | .ex p _ _ _=>p
def Rs.ne:Rs→Prop
 | .ex _ _ φ _=>∃x,φ x
 |_=>True
def Rs.out:Rs→AM→Prop
 | .no,_=>False
 | .go u,x=>x=u
 | .mZ _ u,x=>x=u
 | .br _ b d,x=>x=[(.s d, .s (.v (.bool b)))]
 | .ex _ _ φ u,x=>∃y,φ y∧x=inst y u
def K3 {α:Type}:List (fC×α)→List fC
 |[]=>[]
 |p::u=>p.1::K3 u
def Rs.dom:Rs→List fC
 | .no=>[]
 | .go u=>K3 u
 | .mZ _ u=>K3 u
 | .br _ _ d=>[.s d]
 | .ex _ _ _ u=>K3 u
theorem HW {α:Type} {u:List (fC×α)} {p:fC×α} (h:p∈u):p.1∈K3 u:=by
 induction u with
 |nil=>cases h
 |cons q u ih=>
  rcases List.mem_cons.1 h with rfl |h
  ·simp [K3]
  ·simp [K3,ih h]
theorem MS {α:Type} (x:α):∀(u:List (fC×(α→AV))),K3 (inst x u)=K3 u
 |[]=>rfl
 |p::u=>by simp [inst,K3,MS x u]
theorem Rs.FN {r:Rs} {u:AM} (h:r.out u):∀p∈u,p.1∈r.dom:=by
 intro p hp
 cases r with
 |no=>exact h.elim
 |go v=>cases h;exact HW hp
 |mZ q v=>cases h;exact HW hp
 |br q b d=>cases h;simp at hp;subst hp;simp [Rs.dom]
 |ex q α φ v=>
  obtain ⟨x,_,rfl⟩:=h
  have:=HW hp
  rwa [MS] at this
theorem Rs.ahB {r:Rs} (hp:r.pre) (hn:r.ne):∃u,r.out u:=by
 cases r with
 |no=>exact hp.elim
 |go v=>exact ⟨_,rfl⟩
 |mZ q v=>exact ⟨_,rfl⟩
 |br q b d=>exact ⟨_,rfl⟩
 |ex q α φ v=>obtain ⟨x,hx⟩:=hn;exact ⟨_,x,hx,rfl⟩
structure Tr where
 j:Nat
 R:List fC
 W:List fC
def hit (nk:Nat→Nat→Bool) (i:Nat):Tr→Bool
 |⟨j,_,_⟩=>nk i j
theorem aep (nk:Nat→Nat→Bool) (i:Nat) (t:Tr):hit nk i t=nk i t.j:=rfl
def jB (nk:Nat→Nat→Bool) (i:Nat) (R W:List fC):List Tr→Bool
 |[]=>true
 |t::l=>(bif hit nk i t then true else indep t.R t.W R W)&&jB nk i R W l
theorem KH {nk:Nat→Nat→Bool} {i:Nat} {R W:List fC}:∀ {l:List Tr},jB nk i R W l=true→∀t∈l,nk i t.j=false→indep t.R t.W R W=true
 |[],_,t,ht,_=>by cases ht
 |s::l,h,t,ht,ha=>by
  simp only [jB,Bool.and_eq_true] at h
  rcases List.mem_cons.1 ht with rfl |ht
  ·have:=h.1;rw [aep,ha] at this;exact this
  ·exact KH h.2 t ht ha
def aL (F:Nat→Q Rs) (nk:Nat→Nat→Bool):List Nat→List Tr→St→(St→Prop)→Prop
 |[],_,τ,K=>K τ
 |i::l,T,τ,K=>jB nk i ((F i).tr τ) ((F i).run τ).dom T=true∧((F i).run τ).pre∧((F i).run τ).ne∧∀u,((F i).run τ).out u→aL F nk l (⟨i,(F i).tr τ,((F i).run τ).dom⟩::T) (τ.ap u) K
theorem rK {nk:Nat→Nat→Bool} {i:Nat} {R W:List fC}:∀ {l m:List Tr},jB nk i R W (l++m)=true→jB nk i R W l=true∧jB nk i R W m=true
 |[],m,h=>⟨rfl,h⟩
 |s::l,m,h=>by
  simp only [List.cons_append,jB,Bool.and_eq_true] at h ⊢
  exact ⟨⟨h.1,(rK h.2).1⟩,(rK h.2).2⟩
theorem AK {nk:Nat→Nat→Bool} {i:Nat} {R W:List fC}:∀ {l m:List Tr},jB nk i R W l=true→jB nk i R W m=true→jB nk i R W (l++m)=true
 |[],m,_,h=>h
 |s::l,m,h,h'=>by
  simp only [List.cons_append,jB,Bool.and_eq_true] at h ⊢
  exact ⟨h.1,AK h.2 h'⟩
theorem agG {F:Nat→Q Rs} {nk:Nat→Nat→Bool} {K:St→Prop} {t:Tr} {M:List Tr}:∀(l:List Nat) (L:List Tr) (τ:St),aL F nk l (L++t::M) τ K→aL F nk l (L++M) τ K:=by
 intro l
 induction l with
 |nil=>intro L τ h;exact h
 |cons i l ih=>
  intro L τ ⟨h1,h2,h3,h4⟩
  have h5:=rK h1
  have h6:=h5.2
  simp only [jB,Bool.and_eq_true] at h6
  exact ⟨AK h5.1 h6.2,h2,h3,fun u hu=>ih (_::L) _ (h4 u hu)⟩
theorem afE {F:Nat→Q Rs} {nk:Nat→Nat→Bool} {i:Nat} {post:List Nat} {K:St→Prop}:
  ∀(pre:List Nat) (T:List Tr) (τ:St),(∀j∈pre,nk i j=false)→aL F nk (pre++i::post) T τ K→
   ((F i).run τ).pre∧((F i).run τ).ne∧(∀t∈T,nk i t.j=false→indep t.R t.W ((F i).tr τ) ((F i).run τ).dom=true)∧∀u,((F i).run τ).out u→aL F nk (pre++post) T (τ.ap u) K:=by
 intro pre
 induction pre with
 |nil=>
  intro T τ _ h
  obtain ⟨h1,h2,h3,h4⟩:=h
  exact ⟨h2,h3,KH h1,fun u hu=>agG post [] _ (h4 u hu)⟩
 |cons j pre ih=>
  intro T τ aez h
  obtain ⟨hj1,yR,hj3,hj4⟩:=h
  obtain ⟨u0,hu0⟩:=Rs.ahB yR hj3
  have hIH:=fun u hu=>ih (⟨j,(F j).tr τ,((F j).run τ).dom⟩::T) (τ.ap u) (fun k hk=>aez k (by simp [hk])) (hj4 u hu)
  have IY:∀u,((F j).run τ).out u→(F i).run (τ.ap u)=(F i).run τ∧(F i).tr (τ.ap u)=(F i).tr τ:=by
   intro u hu
   obtain ⟨_,_,h3,_⟩:=hIH u hu
   have ajr:=h3 ⟨j,(F j).tr τ,((F j).run τ).dom⟩ (by simp) (aez j (by simp))
   simp only [indep,Bool.and_eq_true] at ajr
   have hag:agree ((F i).tr (τ.ap u)) (τ.ap u) τ:=afD fun p hp hm=>FO ajr.1.1 (Rs.FN hu p hp) hm rfl
   have:=Q.loc (F i) hag
   exact ⟨this.1.symm,this.2.symm⟩
  obtain ⟨e1,e2⟩:=IY u0 hu0
  obtain ⟨g1,g2,g3,g4⟩:=hIH u0 hu0
  rw [e1] at g1 g2
  rw [e1,e2] at g3
  have aeq:=g3 ⟨j,(F j).tr τ,((F j).run τ).dom⟩ (by simp) (aez j (by simp))
  simp only [indep,Bool.and_eq_true] at aeq
  refine ⟨g1,g2,fun t ht ha=>g3 t (by simp [ht]) ha,fun v hv=>?_⟩
  have alg:agree ((F j).tr τ) τ (τ.ap v):=fun r hr=>(St.wi (fun p hp e=>FO aeq.2 (Rs.FN hv p hp) hr e)).symm
  have hj:=Q.loc (F j) alg
  refine ⟨by rw [hj.1,hj.2];exact hj1,by rw [hj.1];exact yR,by rw [hj.1];exact hj3,fun u hu=>?_⟩
  rw [hj.1] at hu
  obtain ⟨f1,f2⟩:=IY u hu
  obtain ⟨_,_,_,k4⟩:=hIH u hu
  have:=k4 v (by rw [f1];exact hv)
  rw [St.agD (u:=u) (v:=v) (fun p hp q hq=>FO aeq.1.2 (Rs.FN hu p hp) (Rs.FN hv q hq))] at this
  rw [hj.1,hj.2]
  exact this
def OpS (P:Program) (N:Nat) (ops:Array Oper) (o:Oper) (q:Q Rs):Prop:=
 ∀c τ a w,Rel N c τ a w→(q.run τ).pre→∀(K:Act→World→Prop) (Q':Exit→Act→World→Prop),
  (∀u a' w',(q.run τ).out u→Rel N c (τ.ap u) a' w'→K a' w')→if Region.wanted o (yielded ops a.tmps)=true then o.wp P a w K Q' else K (a.put o.dst undef) w
section
variable {P:Program} {N:Nat} {ops:Array Oper} {F:Nat→Q Rs}
def xy (o:Oper):List Nat:=(o.after.toList.filter (Region.binds .any)).map (·.on)
def zP (listed:Array Bool) (i:Nat):Prop:=listed.getD i false=true
def rest (n:Nat) (listed:Array Bool):List Nat:=(List.range n).filter fun i=> !listed.getD i true
def closed (ops:Array Oper) (listed:Array Bool):Prop:=∀i o,ops[i]?=some o→zP listed i→∀p∈xy o,zP listed p
structure Anc (ops:Array Oper) (nk:Nat→Nat→Bool):Prop where
 lt:∀i o,ops[i]?=some o→∀p∈xy o,p < i
 step:∀i o,ops[i]?=some o→∀j,nk i j=true→∃k∈xy o,k=j∨nk k j=true
theorem aiy {nk:Nat→Nat→Bool} (h:Anc ops nk) {listed:Array Bool} (hc:closed ops listed):∀(i:Nat) (o:Oper),ops[i]?=some o→(∀p∈xy o,zP listed p)→
  ∀j,nk i j=true→zP listed j:=by
 intro i
 induction i using Nat.strongRecOn with
 |_ i ih=>
  intro o ho hp j ht
  obtain ⟨k,hk,rfl |htk⟩:=h.step i o ho j ht
  ·exact hp k hk
  ·have hki:=h.lt i o ho k hk
   have hi:i < ops.size:=(Array.getElem?_eq_some_iff.1 ho).1
   have cq:ops[k]?=some ops[k]:=Array.getElem?_eq_getElem (by omega)
   exact ih k hki _ cq (hc k _ cq (hp k hk)) j htk
theorem mem_ready {listed:Array Bool} {i:Nat}:i∈Region.ready .any ops listed↔i∈rest ops.size listed∧∀o,ops[i]?=some o→∀p∈xy o,zP listed p:=by
 simp only [Region.ready,rest,List.mem_filter,List.mem_range,Bool.and_eq_true]
 constructor
 ·rintro ⟨hi,hl,ha⟩
  refine ⟨⟨hi,hl⟩,fun o ho p hp=>?_⟩
  rw [ho] at ha
  simp only [Option.map_some,Option.getD_some] at ha
  obtain ⟨e,he,rfl⟩:=List.mem_map.1 hp
  rw [List.mem_filter] at he
  have:=Array.all_eq_true_iff_forall_mem.1 ha e (by simpa using he.1)
  simp only [Bool.or_eq_true,he.2,Bool.not_true] at this
  simpa [zP] using this
 ·rintro ⟨⟨hi,hl⟩,ha⟩
  refine ⟨hi,hl,?_⟩
  have ho:ops[i]?=some ops[i]:=Array.getElem?_eq_getElem hi
  rw [ho]
  simp only [Option.map_some,Option.getD_some]
  rw [Array.all_eq_true_iff_forall_mem]
  intro e he
  cases hb:Region.binds .any e with
  |false=>simp
  |true=>
   have:=ha _ ho e.on (List.mem_map.2 ⟨e,by rw [List.mem_filter];exact ⟨by simpa using he,hb⟩,rfl⟩)
   simpa [zP] using this
theorem VU {n:Nat} {listed:Array Bool} {i:Nat} (hs:listed.size=n) (hi:i∈rest n listed):
  ∃pre post,rest n listed=pre++i::post∧rest n (listed.setIfInBounds i true)=pre++post∧∀j∈pre,j < i:=by
 obtain ⟨pre,post,he⟩:=List.append_of_mem hi
 have hp:(rest n listed).Pairwise (· < ·):=List.Pairwise.filter _ List.pairwise_lt_range
 have hpp:=hp
 rw [he] at hp
 have cg:i < n:=by simp only [rest,List.mem_filter,List.mem_range] at hi;exact hi.1
 obtain ⟨h1,h2,h3⟩:=List.pairwise_append.1 hp
 refine ⟨pre,post,he,?_,fun j hj=>h3 j hj i (by simp)⟩
 have e1:rest n (listed.setIfInBounds i true)=(rest n listed).filter (fun j=> !Nat.beq j i):=by
  simp only [rest,List.filter_filter]
  refine List.filter_congr fun j hj=>?_
  by_cases hji:j=i
  ·subst hji
   simp [Array.getD,hs,cg]
  ·have hb:Nat.beq j i=false:=by rw [←Bool.not_eq_true];simpa using hji
   rw [hb]
   simp only [Bool.not_false,Bool.true_and]
   have:(listed.setIfInBounds i true).getD j true=listed.getD j true:=by
    rw [Array.getD_eq_getD_getElem?,Array.getD_eq_getD_getElem?,Array.getElem?_setIfInBounds_ne (fun h=>hji h.symm)]
   rw [this]
 rw [e1,he,List.filter_append,List.filter_cons]
 have hb:Nat.beq i i=true:=by simp
 rw [hb]
 simp only [Bool.not_true,Bool.false_eq_true,if_false]
 congr 1
 ·rw [List.filter_eq_self]
  intro j hj
  have:=h3 j hj i (by simp)
  have fq:Nat.beq j i=false:=by rw [←Bool.not_eq_true];simp;omega
  simp [fq]
 ·rw [List.filter_eq_self]
  intro j hj
  have:=(List.pairwise_cons.1 h2).1 j hj
  have fq:Nat.beq j i=false:=by rw [←Bool.not_eq_true];simp;omega
  simp [fq]
theorem acq {nk:Nat→Nat→Bool} (h:∀i o,ops[i]?=some o→OpS P N ops o (F i)) (hA:Anc ops nk) {Q':Exit→Act→World→Prop} {c:Ctx} {K:St→Prop}
  (hQ:∀τ a w,K τ→Rel N c τ a w→Q' .normal a w):∀(fuel:Nat) (listed:Array Bool) (τ:St) (a:Act) (w:World),
   (rest ops.size listed).length=fuel→listed.size=ops.size→closed ops listed→aL F nk (rest ops.size listed) [] τ K→Rel N c τ a w→wpAny P .any ops Q' fuel listed a w:=by
 intro fuel
 induction fuel with
 |zero=>
  intro listed τ a w hlen _ _ hk hr
  have agd:rest ops.size listed=[]:=List.length_eq_zero_iff.1 hlen
  refine ⟨?_,?_⟩
  ·rw [List.eq_nil_iff_forall_not_mem]
   intro i hi
   have:=(mem_ready.1 hi).1
   rw [agd] at this
   cases this
  ·rw [agd] at hk
   exact hQ τ a w hk hr
 |succ fuel ih=>
  intro listed τ a w hlen hs hcl hk hr
  refine ⟨fun agd=>?_,fun i hi=>?_⟩
  ·
   exfalso
   cases hl:rest ops.size listed with
   |nil=>rw [hl] at hlen;simp at hlen
   |cons i l=>
    have yQ:i∈rest ops.size listed:=by rw [hl];simp
    have cg:i < ops.size:=by simp only [rest,List.mem_filter,List.mem_range] at yQ;exact yQ.1
    have ho:ops[i]?=some ops[i]:=Array.getElem?_eq_getElem cg
    have aei:i∈Region.ready .any ops listed:=by
     refine mem_ready.2 ⟨yQ,fun o ho' p hp=>?_⟩
     rw [ho] at ho';cases ho'
     have hpi:=hA.lt i _ ho p hp
     have hpw:(rest ops.size listed).Pairwise (· < ·):=List.Pairwise.filter _ List.pairwise_lt_range
     have agc:p∉rest ops.size listed:=by
      intro hm
      rw [hl] at hm hpw
      rcases List.mem_cons.1 hm with rfl |hm
      ·omega
      ·have:=(List.pairwise_cons.1 hpw).1 p hm;omega
     have hpn:p < listed.size:=by omega
     have:listed.getD p true=true:=by
      cases hb:listed.getD p true with
      |true=>rfl
      |false=>exact absurd (by simp only [rest,List.mem_filter,List.mem_range];exact ⟨by omega,by rw [hb];rfl⟩) agc
     unfold zP
     simp only [Array.getD,hpn,dif_pos] at this ⊢
     exact this
    rw [agd] at aei
    cases aei
  ·have hm:=mem_ready.1 hi
   obtain ⟨pre,post,he,he',bM⟩:=VU hs hm.1
   have cg:i < ops.size:=by have:=hm.1;simp only [rest,List.mem_filter,List.mem_range] at this;exact this.1
   have ho:ops[i]?=some ops[i]:=Array.getElem?_eq_getElem cg
   have hp:=hm.2 _ ho
   have aez:∀j∈pre,nk i j=false:=by
    intro j hj
    cases ht:nk i j with
    |false=>rfl
    |true=>
     exfalso
     have CR:=aiy hA hcl i _ ho hp j ht
     have hmj:j∈rest ops.size listed:=by rw [he];simp [hj]
     simp only [rest,List.mem_filter,List.mem_range] at hmj
     have hjn:j < listed.size:=by omega
     have e2:=hmj.2
     unfold zP at CR
     simp only [Array.getD,hjn,dif_pos] at e2 CR
     rw [CR] at e2
     cases e2
   rw [he] at hk
   obtain ⟨aej,_,_,hK⟩:=afE pre [] τ aez hk
   have ajp:(rest ops.size (listed.setIfInBounds i true)).length=fuel:=by
    rw [he'];rw [he] at hlen;simp at hlen ⊢;omega
   have alb:closed ops (listed.setIfInBounds i true):=by
    have up:∀p,zP listed p→zP (listed.setIfInBounds i true) p:=by
     intro p hp
     unfold zP at hp ⊢
     rw [Array.getD_eq_getD_getElem?] at hp ⊢
     by_cases e:i=p
     ·subst e
      simp [hs,cg]
     ·rw [Array.getElem?_setIfInBounds_ne e]
      exact hp
    intro k o hk agf p hpp
    by_cases e:i=k
    ·subst e
     rw [ho] at hk;cases hk
     exact up p (hp p hpp)
    ·refine up p (hcl k o hk ?_ p hpp)
     unfold zP at agf ⊢
     rw [Array.getD_eq_getD_getElem?] at agf ⊢
     rw [Array.getElem?_setIfInBounds_ne e] at agf
     exact agf
   refine wpOp_step ho fun K' hK'=>?_
   exact h i _ ho c τ a w hr aej K' Q' fun u a' w' hu uJ=>hK' _ _ (ih _ _ a' w' ajp (by simpa using hs) alb (by rw [he'];exact hK u hu) uJ)
def aT (F:Nat→Q Rs):List Nat→St→(St→Prop)→Prop
 |[],τ,K=>K τ
 |i::l,τ,K=>((F i).run τ).pre∧∀u,((F i).run τ).out u→aT F l (τ.ap u) K
theorem U4 (h:∀i o,ops[i]?=some o→OpS P N ops o (F i)) {Q':Exit→Act→World→Prop} {c:Ctx} {K:St→Prop}
  (hQ:∀τ a w,K τ→Rel N c τ a w→Q' .normal a w):∀(l:List Nat) (τ:St) (a:Act) (w:World),(∀i∈l,i < ops.size)→aT F l τ K→Rel N c τ a w→wpOps P ops Q' l a w:=by
 intro l
 induction l with
 |nil=>intro τ a w _ hk hr;exact hQ τ a w hk hr
 |cons i l ih=>
  intro τ a w hl hk hr
  obtain ⟨hp,hK⟩:=hk
  have hi:i < ops.size:=hl i (by simp)
  have ho:ops[i]?=some ops[i]:=Array.getElem?_eq_getElem hi
  rw [wpOps_cons]
  refine wpOp_step ho fun K' hK'=>?_
  exact h i _ ho c τ a w hr hp K' Q' fun u a' w' hu uJ=>hK' _ _ (ih _ a' w' (fun k hk=>hl k (by simp [hk])) (hK u hu) uJ)
theorem RB (n:Nat):rest n (Array.replicate n false)=List.range n:=by
 unfold rest
 rw [List.filter_eq_self]
 intro i hi
 have:i < n:=by simpa using hi
 simp [Array.getD,this]
end
end GL
namespace GL
def LU (ms:List Nat):List Nat→Nat
 |[]=>0
 |p::ps=>(2 ^ p|||ms.getD p 0)|||LU ms ps
theorem LS {ms:List Nat} {j:Nat}:∀ {ps:List Nat},(LU ms ps).testBit j=true→∃p∈ps,p=j∨(ms.getD p 0).testBit j=true
 |[],h=>by simp [LU] at h
 |p::ps,h=>by
  simp only [LU,Nat.testBit_or,Bool.or_eq_true,Nat.testBit_two_pow] at h
  rcases h with (h |h) |h
  ·exact ⟨p,by simp, .inl (by simpa using h)⟩
  ·exact ⟨p,by simp, .inr h⟩
  ·obtain ⟨q,hq,h⟩:=LS h;exact ⟨q,by simp [hq],h⟩
def uv:List Oper→List Nat→List Nat
 |[],ms=>ms
 |o::l,ms=>uv l (ms++[LU ms (xy o)])
def K0:List Oper→Nat→Bool
 |[],_=>true
 |o::l,i=>(xy o).all (fun p=>Nat.blt p i)&&K0 l (i+1)
theorem yE:∀(l:List Oper) (ms:List Nat) (i:Nat),i < ms.length→(uv l ms).getD i 0=ms.getD i 0
 |[],_,_,_=>rfl
 |o::l,ms,i,h=>by
  rw [uv,yE l _ i (by simp;omega)]
  simp [List.getElem?_append_left h]
theorem S4:∀(l:List Oper) (ms:List Nat) (i:Nat) (o:Oper),l[i]?=some o→K0 l ms.length=true→
  ∀j,((uv l ms).getD (ms.length+i) 0).testBit j=true→∃k∈xy o,k=j∨((uv l ms).getD k 0).testBit j=true
 |[],_,i,o,h,_=>by simp at h
 |o'::l,ms,0,o,h,bM=>by
  simp at h;subst h
  intro j hj
  simp only [K0,Bool.and_eq_true] at bM
  rw [uv,yE l _ _ (by simp)] at hj
  simp at hj
  obtain ⟨p,hp,h⟩:=LS hj
  have rM:p < ms.length:=by have:=List.all_eq_true.1 bM.1 p hp;simpa using this
  refine ⟨p,hp,?_⟩
  rcases h with h |h
  ·exact .inl h
  ·right
   rw [uv,yE l _ p (by simp;omega)]
   simpa [List.getElem?_append_left rM] using h
 |o'::l,ms,i+1,o,h,bM=>by
  intro j hj
  simp only [K0,Bool.and_eq_true] at bM
  have:=S4 l (ms++[LU ms (xy o')]) i o (by simpa using h) (by simpa using bM.2) j (by
   rw [uv] at hj
   simpa [Nat.add_assoc,Nat.add_comm 1 i] using hj)
  rw [uv]
  exact this
theorem ZS:∀(l:List Oper) (n i:Nat) (o:Oper),K0 l n=true→l[i]?=some o→∀p∈xy o,p < n+i
 |[],_,i,o,_,h=>by simp at h
 |o'::l,n,0,o,bM,h=>by
  simp at h;subst h
  simp only [K0,Bool.and_eq_true] at bM
  intro p hp
  have:=List.all_eq_true.1 bM.1 p hp
  simpa using this
 |o'::l,n,i+1,o,bM,h=>by
  simp only [K0,Bool.and_eq_true] at bM
  intro p hp
  have:=ZS l (n+1) i o bM.2 (by simpa using h) p hp
  omega
def aaH (ms:List Nat) (i j:Nat):Bool:=(ms.getD i 0).testBit j
theorem aix {ops:Array Oper} (h:K0 ops.toList 0=true):Anc ops (aaH (uv ops.toList [])) where
 lt:=fun i o ho p hp=>by
  have:=ZS ops.toList 0 i o h (by simpa using ho) p hp
  omega
 step:=fun i o ho j hj=>by
  have:=S4 ops.toList [] i o (by simpa using ho) (by simpa using h) j (by simpa [aaH] using hj)
  exact this
abbrev sO:=Exit→St→Prop
def LW (r:Rs) (τ:St) (k:St→Prop):Prop:=match r with
 | .no=>False
 | .go u=>k (τ.ap u)
 | .mZ p u=>p∧k (τ.ap u)
 | .br p b d=>p∧(b=true→k (τ.ap [(.s d, .s (.v (.bool true)))]))∧(b=false→k (τ.ap [(.s d, .s (.v (.bool false)))]))
 | .ex p _ φ u=>p∧∀x,φ x→k (τ.ap (inst x u))
noncomputable def vcT (F:Oper→Q Rs) (l:List Oper) (τ:St) (K:St→Prop):Prop:=
 List.rec (motive:=fun _=>St→Prop) K (fun o _ ih τ=>LW ((F o).run τ) τ ih) l τ
theorem acy {F:Oper→Q Rs} {o:Oper} {l:List Oper} {τ:St} {K:St→Prop}:vcT F (o::l) τ K=LW ((F o).run τ) τ (fun τ'=>vcT F l τ' K):=rfl
def ahj (A B:List fC):Bool:=A.all fun r=>B.any (fC.beq r)
theorem QP {A B:List fC} (h:ahj A B=true):∀r∈A,r∈B:=fun r hr=>by
 have:=List.all_eq_true.1 h r hr
 obtain ⟨q,hq,e⟩:=List.any_eq_true.1 this
 rw [fC.beq_iff.1 e];exact hq
def SX (r:Rs) (τ:St) (k:St→Prop):Prop:=match r with
 | .no=>False
 | .go u=>k (τ.ap u)
 | .mZ p u=>p∧k (τ.ap u)
 | .br p b d=>p∧(b=true→k (τ.ap [(.s d, .s (.v (.bool true)))]))∧(b=false→k (τ.ap [(.s d, .s (.v (.bool false)))]))
 | .ex p _ φ u=>p∧(∃x,φ x)∧∀x,φ x→k (τ.ap (inst x u))
def agM (F:Oper→Q Rs) (nk:Nat→Nat→Bool) (o:Oper) (i:Nat) (T:List Tr) (τ:St) (ih:Nat→List Tr→St→Prop):Prop:=
 ∃R W:List fC,(ahj ((F o).tr τ) R&&ahj ((F o).run τ).dom W)=true∧match jB nk i R W T with
  |false=>False
  |true=>SX ((F o).run τ) τ (ih (i+1) (⟨i,R,W⟩::T))
noncomputable def vcA (F:Oper→Q Rs) (nk:Nat→Nat→Bool) (l:List Oper) (i:Nat) (T:List Tr) (τ:St) (K:St→Prop):Prop:=
 List.rec (motive:=fun _=>Nat→List Tr→St→Prop) (fun _ _ τ=>K τ) (fun o _ ih i T τ=>agM F nk o i T τ ih) l i T τ
theorem acz {F:Oper→Q Rs} {nk:Nat→Nat→Bool} {o:Oper} {l:List Oper} {i:Nat} {T:List Tr} {τ:St} {K:St→Prop}:vcA F nk (o::l) i T τ K=agM F nk o i T τ (fun i T τ'=>vcA F nk l i T τ' K):=rfl
def agH:List Tr→List Tr→Prop
 |[],[]=>True
 |t::l,s::m=>(t.j=s.j∧(∀r∈t.R,r∈s.R)∧∀r∈t.W,r∈s.W)∧agH l m
 |_,_=>False
theorem JK {x y x' y':List fC} (h:X7 x' y'=true) (hx:∀r∈x,r∈x') (hy:∀r∈y,r∈y'):X7 x y=true:=by
 unfold X7
 refine List.all_eq_true.2 fun r hr=>List.all_eq_true.2 fun q hq=>?_
 have:=FO h (hx r hr) (hy q hq)
 rw [fC.beq_false.2 this];rfl
theorem KG {nk:Nat→Nat→Bool} {i:Nat} {R W R' W':List fC} (hR:∀r∈R,r∈R') (hW:∀r∈W,r∈W'):∀ {T T':List Tr},agH T T'→jB nk i R' W' T'=true→jB nk i R W T=true
 |[],[],_,_=>rfl
 |[],_::_,h,_=>h.elim
 |_::_,[],h,_=>h.elim
 |t::l,s::m,h,h'=>by
  simp only [jB,aep,Bool.and_eq_true] at h' ⊢
  refine ⟨?_,KG hR hW h.2 h'.2⟩
  rw [h.1.1]
  cases ha:nk i s.j with
  |true=>rfl
  |false=>
   have h1:=h'.1
   rw [ha] at h1
   simp only [cond_false,indep,Bool.and_eq_true] at h1 ⊢
   exact ⟨⟨JK h1.1.1 h.1.2.2 hR,JK h1.1.2 h.1.2.2 hW⟩,JK h1.2 hW h.1.2.1⟩
def lift (N:Nat) (c:Ctx) (Q':sO):Exit→Act→World→Prop:=fun e a w=>∃τ,Rel N c τ a w∧Q' e τ
def TW (P:Program) (N:Nat) (cd:Code) (τ:St) (Q':sO):Prop:=∀c a w,Rel N c τ a w→cd.wp P (lift N c Q') a w
def DK (next:St→Prop) (Q':sO):sO:=fun e τ=>match e with
 | .normal=>next τ
 |e=>Q' e τ
def IW (id:Nat) (Q':sO):sO:=fun e τ=>match e with
 | .exit id'=>bif Nat.beq id' id then Q' .normal τ else Q' (.exit id') τ
 |e=>Q' e τ
abbrev Sm:=Array Oper→Oper→Q Rs
def YR (P:Program) (N:Nat) (S:Sm):Prop:=∀(ops:Array Oper) (i:Nat) (o:Oper),ops[i]?=some o→OpS P N ops o (S ops o)
def vc (P:Program) (N:Nat) (S:Sm):Code→St→sO→Prop
 | .skip,τ,Q'=>Q' .normal τ
 | .region _ ops false,τ,Q'=>vcT (S ops) ops.toList τ (Q' .normal)
 | .region _ ops true,τ,Q'=>match K0 ops.toList 0 with
  |false=>False
  |true=>vcA (S ops) (aaH (uv ops.toList [])) ops.toList 0 [] τ (Q' .normal)
 | .seq x y,τ,Q'=>vc P N S x τ (DK (fun τ'=>vc P N S y τ' Q') Q')
 | .cond o x y,τ,Q'=>match o with
  | .tmp t=>match τ (.s t) with
   |some (.o (.s (.q b)))=>(b=true→vc P N S x τ Q')∧(b=false→vc P N S y τ Q')
   |some (.o (.s (.v (.bool true))))=>vc P N S x τ Q'
   |some (.o (.s (.v (.bool false))))=>vc P N S y τ Q'
   |_=>False
  | .const (.bool true)=>vc P N S x τ Q'
  | .const (.bool false)=>vc P N S y τ Q'
  |_=>False
 | .block id x,τ,Q'=>vc P N S x τ (IW id Q')
 | .loop x,τ,Q'=>TW P N (.loop x) τ Q'
 | .scope x,τ,Q'=>TW P N (.scope x) τ Q'
 | .exit id,τ,Q'=>Q' (.exit id) τ
 | .label _,τ,Q'=>Q' .normal τ
 | .ret,τ,Q'=>Q' .ret τ
 |_,_,_=>False
section
variable {P:Program} {N:Nat} {τ:St} {Q':sO} {S:Sm}
theorem TW.mono {cd:Code} {Q2:sO} (h:TW P N cd τ Q') (hq:∀e τ,Q' e τ→Q2 e τ):TW P N cd τ Q2:=
 fun c a w hr=>Code.wp_mono (fun _ _ _ ⟨τ',uJ,hq'⟩=>⟨τ',uJ,hq _ _ hq'⟩) (h c a w hr)
theorem TW.seq {x y:Code} (h:TW P N x τ (DK (fun τ'=>TW P N y τ' Q') Q')):TW P N (.seq x y) τ Q':=fun c a w hr=>by
 refine wp_seq (Code.wp_mono ?_ (h c a w hr))
 rintro e a' w' ⟨τ',uJ,hq⟩
 cases e with
 |normal=>exact hq c a' w' uJ
 |_=>exact ⟨τ',uJ,hq⟩
theorem TW.block {id:Nat} {x:Code} (h:TW P N x τ (IW id Q')):TW P N (.block id x) τ Q':=fun c a w hr=>by
 refine wp_block (Code.wp_mono ?_ (h c a w hr))
 rintro e a' w' ⟨τ',uJ,hq⟩
 cases e with
 |exit id'=>
  simp only [Exit.inBlock]
  simp only [IW] at hq
  split
  ·rename_i e;subst e;simp at hq;exact ⟨τ',uJ,hq⟩
  ·rename_i e
   have:Nat.beq id' id=false:=by rw [←Bool.not_eq_true];simpa using e
   rw [this] at hq;exact ⟨τ',uJ,hq⟩
 |_=>exact ⟨τ',uJ,hq⟩
theorem ahg {F:Oper→Q Rs} {K:St→Prop} (ops:List Oper):∀(l:List Oper) (k:Nat) (τ:St),ops.drop k=l→vcT F l τ K→aT (fun i=>match ops[i]? with
  |some o=>F o
  |none=>.ret .no) (List.range' k l.length) τ K:=by
 intro l
 induction l with
 |nil=>intro k τ _ h;exact h
 |cons o l ih=>
  intro k τ hk h
  have h0:ops[k]?=some o:=by
   have:(ops.drop k)[0]?=some o:=by rw [hk];rfl
   simpa using this
  have hd:ops.drop (k+1)=l:=by
   have:=List.drop_drop (i:=1) (j:=k) (l:=ops)
   rw [hk] at this
   simpa using this.symm
  simp only [List.length_cons,List.range'_succ,aT,h0]
  rw [acy] at h
  cases hr:(F o).run τ with
  |no=>rw [hr] at h;exact (h:False).elim
  |go u=>rw [hr] at h;simp only [LW] at h;exact ⟨trivial,fun v hv=>by cases hv;exact ih (k+1) _ hd h⟩
  |mZ p u=>rw [hr] at h;simp only [LW] at h;exact ⟨h.1,fun v hv=>by cases hv;exact ih (k+1) _ hd h.2⟩
  |br p b d=>
   rw [hr] at h
   simp only [LW] at h
   refine ⟨h.1,fun v hv=>?_⟩
   cases hv
   cases b with
   |true=>exact ih (k+1) _ hd (h.2.1 rfl)
   |false=>exact ih (k+1) _ hd (h.2.2 rfl)
  |ex p α φ u=>
   rw [hr] at h
   simp only [LW] at h
   refine ⟨h.1,fun v hv=>?_⟩
   obtain ⟨x,hx,rfl⟩:=hv
   exact ih (k+1) _ hd (h.2 x hx)
theorem ahh {F:Oper→Q Rs} {nk:Nat→Nat→Bool} {K:St→Prop} (ops:List Oper):∀(l:List Oper) (k:Nat) (T T':List Tr) (τ:St),agH T T'→ops.drop k=l→vcA F nk l k T' τ K→aL (fun i=>match ops[i]? with
  |some o=>F o
  |none=>.ret .no) nk (List.range' k l.length) T τ K:=by
 intro l
 induction l with
 |nil=>intro k T T' τ _ _ h;exact h
 |cons o l ih=>
  intro k T T' τ hT hk h
  have h0:ops[k]?=some o:=by
   have:(ops.drop k)[0]?=some o:=by rw [hk];rfl
   simpa using this
  have hd:ops.drop (k+1)=l:=by
   have:=List.drop_drop (i:=1) (j:=k) (l:=ops)
   rw [hk] at this
   simpa using this.symm
  simp only [List.length_cons,List.range'_succ,aL,h0]
  rw [acz] at h
  obtain ⟨R,W,hs,h⟩:=h
  simp only [Bool.and_eq_true] at hs
  have hR:=QP hs.1
  have hW:=QP hs.2
  split at h
  ·exact h.elim
  ·rename_i hap
   refine ⟨KG hR hW hT hap,?_⟩
   have hT':agH (⟨k,(F o).tr τ,((F o).run τ).dom⟩::T) (⟨k,R,W⟩::T'):=⟨⟨rfl,hR,hW⟩,hT⟩
   cases hr:(F o).run τ with
   |no=>rw [hr] at h;exact (h:False).elim
   |go u=>rw [hr] at h hT';simp only [SX] at h;exact ⟨trivial,trivial,fun v hv=>by cases hv;exact ih (k+1) _ _ _ hT' hd h⟩
   |mZ p u=>rw [hr] at h hT';simp only [SX] at h;exact ⟨h.1,trivial,fun v hv=>by cases hv;exact ih (k+1) _ _ _ hT' hd h.2⟩
   |br p b d=>
    rw [hr] at h hT'
    simp only [SX] at h
    refine ⟨h.1,tv,fun v hv=>?_⟩
    cases hv
    cases b with
    |true=>exact ih (k+1) _ _ _ hT' hd (h.2.1 rfl)
    |false=>exact ih (k+1) _ _ _ hT' hd (h.2.2 rfl)
   |ex p α φ u=>
    rw [hr] at h hT'
    simp only [SX] at h
    refine ⟨h.1,h.2.1,fun v hv=>?_⟩
    obtain ⟨x,hx,rfl⟩:=hv
    exact ih (k+1) _ _ _ hT' hd (h.2.2 x hx)
theorem TW.text {id:Nat} {ops:Array Oper} (hS:YR P N S) (hk:vcT (S ops) ops.toList τ (Q' .normal)):TW P N (.region id ops false) τ Q':=fun c a w hr=>by
 refine wp_region ?_
 have h1:=ahg ops.toList ops.toList 0 τ (by simp) hk
 refine U4 (F:=fun i=>match ops.toList[i]? with
  |some o=>S ops o
  |none=>.ret .no) (fun i o ho=>?_) (Q':=lift N c Q') (c:=c) (K:=Q' .normal) (fun τ' _ _ hk' uJ=>⟨τ',uJ,hk'⟩) _ τ a w (fun i hi=>by simpa using hi) ?_ hr
 ·have:ops.toList[i]?=some o:=by simpa using ho
  simp only [this]
  exact hS ops i o ho
 ·simpa [List.range_eq_range'] using h1
theorem TW.any {id:Nat} {ops:Array Oper} (hm:P.follows .mixedOrders=true) (hS:YR P N S) (hl:K0 ops.toList 0=true) (hk:vcA (S ops) (aaH (uv ops.toList [])) ops.toList 0 [] τ (Q' .normal)):
  TW P N (.region id ops true) τ Q':=fun c a w hr=>by
 refine wp_region_any hm ?_
 have h1:=ahh ops.toList ops.toList 0 [] [] τ trivial (by simp) hk
 refine acq (F:=fun i=>match ops.toList[i]? with
  |some o=>S ops o
  |none=>.ret .no) (fun i o ho=>?_) (aix hl) (Q':=lift N c Q') (c:=c) (K:=Q' .normal) (fun τ' _ _ hk' uJ=>⟨τ',uJ,hk'⟩) ops.size (Array.replicate ops.size false) τ a _ ?_ (by simp) ?_ ?_ hr.drew
 ·have:ops.toList[i]?=some o:=by simpa using ho
  simp only [this]
  exact hS ops i o ho
 ·rw [RB];simp
 ·intro i o ho hi
  have:i < ops.size:=(Array.getElem?_eq_some_iff.1 ho).1
  simp [zP,Array.getD,this] at hi
 ·rw [RB];simpa [List.range_eq_range'] using h1
theorem A5 {c:Ctx} {a:Act} {w:World} {t:Nat} {av:AV} {b:Bool} (hr:Rel N c τ a w) (h:τ (.s t)=some av) (hav:∀T β v,av.rel T β v→v= .bool b):a.eval (.tmp t)= .bool b:=by
 obtain ⟨T,β,hh⟩:=hr
 obtain ⟨v,hv,cV⟩:=hh.iC t _ h
 have:v= .bool b:=hav T β v cV
 subst this
 show a.tmps.getD t undef=_
 rw [Array.getD_eq_getD_getElem?,hv];rfl
theorem gH (hm:P.follows .mixedOrders=true) (hS:YR P N S):∀(cd:Code) (τ:St) (Q':sO),vc P N S cd τ Q'→TW P N cd τ Q'
 | .skip,τ,Q',h=>fun _ _ _ hr=>wp_skip ⟨τ,hr,h⟩
 | .region _ ops false,τ,Q',h=>TW.text hS h
 | .region _ ops true,τ,Q',h=>by
  simp only [vc] at h
  split at h
  ·exact h.elim
  ·rename_i hl;exact TW.any hm hS hl h
 | .seq x y,τ,Q',h=>TW.seq ((gH hm hS x τ _ h).mono fun e τ' hq=>by
  cases e with
  |normal=>exact gH hm hS y τ' Q' hq
  |_=>exact hq)
 | .cond o x y,τ,Q',h=>by
  intro c a w hr
  simp only [vc] at h
  split at h
  ·rename_i t
   split at h
   ·rename_i b hb
    have hv:=A5 (b:=b) hr hb (fun _ _ _ h=>h)
    refine wp_cond hv ?_
    cases b
    ·exact gH hm hS y τ Q' (h.2 rfl) c a w hr
    ·exact gH hm hS x τ Q' (h.1 rfl) c a w hr
   ·rename_i hb
    exact wp_cond (A5 (b:=true) hr hb (fun _ _ _ h=>h)) (gH hm hS x τ Q' h c a w hr)
   ·rename_i hb
    exact wp_cond (A5 (b:=false) hr hb (fun _ _ _ h=>h)) (gH hm hS y τ Q' h c a w hr)
   ·exact h.elim
  ·exact wp_cond (show a.eval (.const (.bool true))= .bool true from rfl) (gH hm hS x τ Q' h c a w hr)
  ·exact wp_cond (show a.eval (.const (.bool false))= .bool false from rfl) (gH hm hS y τ Q' h c a w hr)
  ·exact h.elim
 | .block id x,τ,Q',h=>TW.block (gH hm hS x τ _ h)
 | .loop x,τ,Q',h=>h
 | .scope x,τ,Q',h=>h
 | .exit id,τ,Q',h=>fun _ _ _ hr=>wp_exit ⟨τ,hr,h⟩
 | .label l,τ,Q',h=>fun _ _ _ hr=>wp_label ⟨τ,hr,h⟩
 | .ret,τ,Q',h=>fun _ _ _ hr=>wp_ret ⟨τ,hr,h⟩
 | .rangeFunc _ _ _ _,_,_,h=>h.elim
 | .goto _,_,_,h=>h.elim
 | .refuse _,_,_,h=>h.elim
def oH (τ:St) (bT:List fC):St:=fun r=>bif bT.any (fC.beq r) then τ r else none
def LF:List (Nat×Nat)→Nat→Nat
 |[],i=>i
 |p::l,i=>bif Nat.beq p.1 i then p.2 else LF l i
def iI:List fC→List Nat
 |[]=>[]
 | .b i::l=>i::iI l
 | .s _::l=>iI l
def iH:AM→List Nat
 |[]=>[]
 |(.b i,_)::l=>i::iH l
 |(.s _,_)::l=>iH l
def il (l:List Nat) (i:Nat):Bool:=l.any fun j=>Nat.beq j i
def af8 (σ:Nat→Nat):List Nat→Bool
 |[]=>true
 |i::l=>(l.all fun j=>Nat.beq j i|| !(Nat.beq (σ j) (σ i)))&&af8 σ l
def akB (σ:Nat→Nat) (l:List Nat):Bool:=l.all fun i=>Nat.beq (σ i) i||((Nat.ble 1000 i&&Nat.blt i 1000000000)&&(Nat.ble 1000 (σ i)&&Nat.blt (σ i) 1000000000))||Nat.ble 1000000000 i
def O1 (bk:List Nat):AM→Bool
 |[]=>true
 |p::u=>p.2.boxes.all (il bk)&&O1 bk u
def CC (bk:List Nat) (σ:Nat→Nat) (τ:St):List fC→Bool
 |[]=>true
 |r::l=>(match τ r with
  |some av=>av.boxes.all (fun i=>il bk i&&Nat.beq (σ i) i)
  |none=>match r with
   | .b _=>false
   | .s _=>true)&&(match r with
  | .b i=>Nat.beq (σ i) i
  | .s _=>true)&&CC bk σ τ l
def Y6 (σ:Nat→Nat) (τ':St):AM→Prop
 |[]=>True
 |(.s n,av)::u=>GN (τ' (.s n)) (av.lx σ)∧Y6 σ τ' u
 |(.b i,av)::u=>τ' (.b (σ i))=some (av.lx σ)∧Y6 σ τ' u
def Q1 (τ τ':St):List fC→Prop
 |[]=>True
 |r::l=>match τ r with
  |some av=>τ' r=some av∧Q1 τ τ' l
  |none=>Q1 τ τ' l
def EM (sg:List (Nat×Nat)) (τ τ':St) (bT:List fC) (u:AM):Prop:=
 match af8 (LF sg) (iH u++iI bT)&&(akB (LF sg) (iH u++iI bT)&&(O1 (iH u++iI bT) u&&CC (iH u++iI bT) (LF sg) τ bT)) with
 |true=>Y6 (LF sg) τ' u∧Q1 τ τ' bT
 |false=>False
theorem fp {l:List Nat} {i:Nat}:il l i=true↔i∈l:=by
 unfold il
 rw [List.any_eq_true]
 constructor
 ·rintro ⟨j,hj,h⟩
  have:j=i:=by simpa using h
  exact this ▸ hj
 ·intro h;exact ⟨i,h,by simp⟩
theorem L0 {u:AM} {i:Nat}:i∈iH u↔∃p∈u,p.1= .b i:=by
 induction u with
 |nil=>simp [iH]
 |cons p u ih=>
  obtain ⟨r,av⟩:=p
  cases r with
  |s n=>simp [iH,ih]
  |b n=>simp [iH,ih,eq_comm]
theorem L1 {l:List fC} {i:Nat}:i∈iI l↔.b i∈l:=by
 induction l with
 |nil=>simp [iI]
 |cons r l ih=>
  cases r with
  |s n=>simp [iI,ih]
  |b n=>simp [iI,ih]
theorem TS {σ:Nat→Nat}:∀ {l:List Nat},af8 σ l=true→∀i∈l,∀j∈l,σ i=σ j→i=j
 |[],_,i,hi,j,hj=>by cases hi
 |k::l,h,i,hi,j,hj=>by
  intro e
  simp only [af8,Bool.and_eq_true] at h
  have key:∀x∈l,σ x=σ k→x=k:=by
   intro x hx he
   have:=List.all_eq_true.1 h.1 x hx
   simp only [Bool.or_eq_true] at this
   rcases this with h1 |h1
   ·simpa using h1
   ·rw [he] at h1;simp at h1
  rcases List.mem_cons.1 hi with rfl |CS
  ·rcases List.mem_cons.1 hj with rfl |CR
   ·rfl
   ·exact (key j CR e.symm).symm
  ·rcases List.mem_cons.1 hj with rfl |CR
   ·exact key i CS e
   ·exact TS h.2 i CS j CR e
theorem LY {bk:List Nat}:∀ {u:AM},O1 bk u=true→∀p∈u,∀i∈p.2.boxes,i∈bk
 |[],_,p,hp=>by cases hp
 |q::u,h,p,hp=>by
  intro i hi
  simp only [O1,Bool.and_eq_true] at h
  rcases List.mem_cons.1 hp with rfl |hp
  ·exact fp.1 (List.all_eq_true.1 h.1 i hi)
  ·exact LY h.2 p hp i hi
theorem HV {bk:List Nat} {σ:Nat→Nat} {τ:St}:∀ {l:List fC},CC bk σ τ l=true→∀i, .b i∈l→τ (.b i)≠none
 |[],_,i,hi=>by cases hi
 |q::l,h,i,hi=>by
  simp only [CC,Bool.and_eq_true] at h
  rcases List.mem_cons.1 hi with rfl |hi
  ·intro hn
   have h1:=h.1.1
   rw [hn] at h1
   cases h1
  ·exact HV h.2 i hi
theorem so {bk:List Nat} {σ:Nat→Nat} {τ:St}:∀ {l:List fC},CC bk σ τ l=true→∀r∈l,(∀av,τ r=some av→∀i∈av.boxes,i∈bk∧σ i=i)∧∀i,r= .b i→σ i=i
 |[],_,r,hr=>by cases hr
 |q::l,h,r,hr=>by
  simp only [CC,Bool.and_eq_true] at h
  rcases List.mem_cons.1 hr with rfl |hr
  ·refine ⟨fun av hav i hi=>?_,fun i hi=>?_⟩
   ·have h1:=h.1.1
    rw [hav] at h1
    have h2:=List.all_eq_true.1 h1 i hi
    simp only [Bool.and_eq_true] at h2
    exact ⟨fp.1 h2.1,by simpa using h2.2⟩
   ·subst hi
    simpa using h.1.2
  ·exact so h.2 r hr
theorem zo {σ:Nat→Nat} {τ':St}:∀ {u:AM},Y6 σ τ' u→∀p∈u,(∀n,p.1= .s n→GN (τ' (.s n)) (p.2.lx σ))∧∀n,p.1= .b n→τ' (.b (σ n))=some (p.2.lx σ)
 |[],_,p,hp=>by cases hp
 |(.s m,av)::u,h,p,hp=>by
  rcases List.mem_cons.1 hp with rfl |hp
  ·exact ⟨fun n hn=>(by cases hn;exact h.1),fun n hn=>(by cases hn)⟩
  ·exact zo h.2 p hp
 |(.b m,av)::u,h,p,hp=>by
  rcases List.mem_cons.1 hp with rfl |hp
  ·exact ⟨fun n hn=>(by cases hn),fun n hn=>(by cases hn;exact h.1)⟩
  ·exact zo h.2 p hp
theorem zp {τ τ':St}:∀ {l:List fC},Q1 τ τ' l→∀r∈l,∀av,τ r=some av→τ' r=some av
 |[],_,r,hr=>by cases hr
 |q::l,h,r,hr=>by
  intro av hav
  simp only [Q1] at h
  split at h
  ·rename_i av' hq
   rcases List.mem_cons.1 hr with rfl |hr
   ·rw [hq] at hav;cases hav;exact h.1
   ·exact zp h.2 r hr av hav
  ·rename_i hq
   rcases List.mem_cons.1 hr with rfl |hr
   ·rw [hq] at hav;cases hav
   ·exact zp h r hr av hav
theorem SV.qK {σ:Nat→Nat} {x:SV} (h:∀i∈x.boxes,σ i=i):x.lx σ=x:=by
 cases x<;>simp [SV.lx,SV.boxes] at h ⊢ <;>exact h
theorem RE {σ:Nat→Nat}:∀ {l:List SV},(∀i∈bX l,σ i=i)→BF σ l=l
 |[],_=>rfl
 |x::l,h=>by
  simp only [bX,List.mem_append] at h
  simp [BF,SV.qK (x:=x) (fun i hi=>h i (.inl hi)),RE (l:=l) (fun i hi=>h i (.inr hi))]
theorem A0.qK {σ:Nat→Nat} {x:A0} (h:∀i∈x.boxes,σ i=i):x.lx σ=x:=by
 cases x with
 |s x=>simp [A0.lx,SV.qK (x:=x) h]
 |a l=>simp [A0.lx,RE (l:=l) h]
theorem RD {σ:Nat→Nat}:∀ {l:List A0},(∀i∈eN l,σ i=i)→BE σ l=l
 |[],_=>rfl
 |x::l,h=>by
  simp only [eN,List.mem_append] at h
  simp [BE,A0.qK (x:=x) (fun i hi=>h i (.inl hi)),RD (l:=l) (fun i hi=>h i (.inr hi))]
theorem RF {σ:Nat→Nat}:∀ {l:List (Nat×Nat)},(∀i∈jA l,σ i=i)→BG σ l=l
 |[],_=>rfl
 |p::l,h=>by
  simp only [jA,List.mem_cons] at h
  simp [BG,h p.1 (.inl rfl),RF (l:=l) (fun i hi=>h i (.inr hi))]
theorem AV.qK {σ:Nat→Nat} {x:AV} (h:∀i∈x.boxes,σ i=i):x.lx σ=x:=by
 cases x with
 |fn f l=>simp [AV.lx,RF (l:=l) h]
 |o x=>simp [AV.lx,A0.qK (x:=x) h]
 |t l=>simp [AV.lx,RD (l:=l) h]
 |_=>rfl
theorem XD {bT:List fC} {r:fC} {av:AV} (h:oH τ bT r=some av):r∈bT∧τ r=some av:=by
 unfold oH at h
 cases hk:bT.any (fC.beq r) with
 |true=>
  rw [hk] at h
  obtain ⟨q,hq,e⟩:=List.any_eq_true.1 hk
  have:r=q:=fC.beq_iff.1 e
  exact ⟨this ▸ hq,h⟩
 |false=>rw [hk] at h;cases h
theorem GC {sg:List (Nat×Nat)} {τ':St} {bT:List fC} {u:AM} (h:EM sg τ τ' bT u):Sub (LF sg) ((oH τ bT).ap u) τ':=by
 unfold EM at h
 split at h
 ·rename_i hc
  simp only [Bool.and_eq_true] at hc
  obtain ⟨ak4,akX,hU,hK⟩:=hc
  obtain ⟨h1,h2⟩:=h
  have key:∀r av,(oH τ bT).ap u r=some av→(∃p∈u,p=(r,av))∨(r∈bT∧τ r=some av):=by
   intro r av hr
   rcases St.AL (τ:=oH τ bT) (u:=u) (r:=r) with ⟨v,hv,hm⟩ |⟨hv,_⟩
   ·rw [hr] at hv;cases hv;exact .inl ⟨_,hm,rfl⟩
   ·rw [hr] at hv;exact .inr (XD hv.symm)
  have ahL:∀i,(oH τ bT).ap u (.b i)≠none→i∈iH u++iI bT:=by
   intro i hi
   obtain ⟨av,hav⟩:=Option.ne_none_iff_exists'.1 hi
   rw [List.mem_append]
   rcases key _ _ hav with ⟨p,hp,rfl⟩ |⟨hk,_⟩
   ·exact .inl (L0.2 ⟨_,hp,rfl⟩)
   ·exact .inr (L1.2 hk)
  refine ⟨fun i av hi=>?_,fun i av hi=>?_,fun r av hr i hi=>?_,fun i j hi hj e=>TS ak4 i (ahL i hi) j (ahL j hj) e,fun i hi=>?_⟩
  ·rcases key _ _ hi with ⟨p,hp,rfl⟩ |⟨hk,ht⟩
   ·exact (zo h1 _ hp).1 i rfl
   ·rw [AV.qK fun j hj=>(((so hK _ hk).1 av ht) j hj).2,zp h2 _ hk av ht]
    exact VD
  ·rcases key _ _ hi with ⟨p,hp,rfl⟩ |⟨hk,ht⟩
   ·exact (zo h1 _ hp).2 i rfl
   ·rw [AV.qK fun j hj=>(((so hK _ hk).1 av ht) j hj).2,(so hK _ hk).2 i rfl]
    exact zp h2 _ hk av ht
  ·have yQ:i∈iH u++iI bT:=by
    rcases key _ _ hr with ⟨p,hp,rfl⟩ |⟨hk,ht⟩
    ·exact LY hU _ hp i hi
    ·exact (((so hK _ hk).1 av ht) i hi).1
   rcases List.mem_append.1 yQ with hm |hm
   ·obtain ⟨p,hp,e⟩:=L0.1 hm
    intro hn
    rcases St.AL (τ:=oH τ bT) (u:=u) (r:=.b i) with ⟨v,hv,_⟩ |⟨_,uy⟩
    ·rw [hn] at hv;cases hv
    ·exact uy p hp e
   ·intro hn
    rcases St.AL (τ:=oH τ bT) (u:=u) (r:=.b i) with ⟨v,hv,_⟩ |⟨hv,uy⟩
    ·rw [hn] at hv;cases hv
    ·rw [hn] at hv
     have hk:=L1.1 hm
     have hx:oH τ bT (.b i)=τ (.b i):=by
      unfold oH
      have:bT.any (fC.beq (.b i))=true:=List.any_eq_true.2 ⟨_,hk,fC.US _⟩
      rw [this];rfl
     rw [hx] at hv
     exact HV hK i hk hv.symm
  ·have:=List.all_eq_true.1 akX i (ahL i hi)
   simp only [Bool.or_eq_true,Bool.and_eq_true] at this
   rcases this with (h3 |h3) |h3
   ·exact .inl (by simpa using h3)
   ·exact .inr (.inl ⟨⟨cH h3.1.1,cH h3.1.2⟩,cH h3.2.1,cH h3.2.2⟩)
   ·exact .inr (.inr (cH h3))
 ·exact h.elim
end
end GL
end Go.Proofs.YtbfgjadbfjkcdaaGreatDoor
