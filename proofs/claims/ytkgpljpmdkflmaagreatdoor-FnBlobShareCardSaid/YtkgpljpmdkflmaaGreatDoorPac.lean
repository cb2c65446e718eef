/- A drawn law returns true for every code (its row lists package variables, tied by the card): part 3. -/
import Derived.Test.YtkgpljpmdkflmaaGreatDoorPab
set_option maxHeartbeats 20000000
set_option maxRecDepth 100000
set_option linter.all false
namespace Go.Proofs.YtkgpljpmdkflmaaGreatDoor
namespace GL
def LQ (ms:List Nat):List Nat→Nat
 |[]=>0
 |p::ps=>(2 ^ p|||ms.getD p 0)|||LQ ms ps
theorem LP {ms:List Nat}{j:Nat}:∀{ps:List Nat},(LQ ms ps).testBit j=true→∃p∈ps,p=j∨(ms.getD p 0).testBit j=true
 |[],h=>by simp [LQ] at h
 |p::ps,h=>by
  simp only [LQ,Nat.testBit_or,Bool.or_eq_true,Nat.testBit_two_pow] at h
  rcases h with (h |h) |h
  ·exact⟨p,by simp,.inl (by simpa using h)⟩
  ·exact⟨p,by simp,.inr h⟩
  ·obtain⟨q,hq,h⟩:=LP h;exact⟨q,by simp [hq],h⟩
def qo:List Oper→List Nat→List Nat
 |[],ms=>ms
 |o::l,ms=>qo l (ms++[LQ ms (xA o)])
def KX:List Oper→Nat→Bool
 |[],_=>true
 |o::l,i=>(xA o).all (fun p=>Nat.blt p i)&&KX l (i+1)
theorem abC:∀(l:List Oper) (ms:List Nat),(qo l ms).length=ms.length+l.length
 |[],ms=>by simp [qo]
 |o::l,ms=>by rw [qo,abC l];simp;omega
theorem yA:∀(l:List Oper) (ms:List Nat) (i:Nat),i<ms.length→(qo l ms).getD i 0=ms.getD i 0
 |[],_,_,_=>rfl
 |o::l,ms,i,h=>by
  rw [qo,yA l _ i (by simp;omega)]
  simp [ZC2 h]
theorem SQ:∀(l:List Oper) (ms:List Nat) (i:Nat) (o:Oper),l[i]?=some o→KX l ms.length=true→
  ∀j,((qo l ms).getD (ms.length+i) 0).testBit j=true→∃k∈xA o,k=j∨((qo l ms).getD k 0).testBit j=true
 |[],_,i,o,h,_=>by simp at h
 |o'::l,ms,0,o,h,bV=>by
  simp at h;subst h
  intro j hj
  simp only [KX,ZA9] at bV
  rw [qo,yA l _ _ (by simp)] at hj
  simp at hj
  obtain⟨p,hp,h⟩:=LP hj
  have rW:p<ms.length:=by have:=ZC8.1 bV.1 p hp;simpa using this
  refine⟨p,hp,?_⟩
  rcases h with h |h
  ·exact .inl h
  ·right
   rw [qo,yA l _ p (by simp;omega)]
   simpa [ZC2 rW] using h
 |o'::l,ms,i+1,o,h,bV=>by
  intro j hj
  simp only [KX,ZA9] at bV
  have:=SQ l (ms++[LQ ms (xA o')]) i o (by simpa using h) (by simpa using bV.2) j (by
   rw [qo] at hj
   simpa [ZF7,Nat.add_comm 1 i] using hj)
  rw [qo]
  exact this
theorem ZF:∀(l:List Oper) (n i:Nat) (o:Oper),KX l n=true→l[i]?=some o→∀p∈xA o,p<n+i
 |[],_,i,o,_,h=>by simp at h
 |o'::l,n,0,o,bV,h=>by
  simp at h;subst h
  simp only [KX,ZA9] at bV
  intro p hp
  have:=ZC8.1 bV.1 p hp
  simpa using this
 |o'::l,n,i+1,o,bV,h=>by
  simp only [KX,ZA9] at bV
  intro p hp
  have:=ZF l (n+1) i o bV.2 (by simpa using h) p hp
  omega
def aav (ms:List Nat) (i j:Nat):Bool:=(ms.getD i 0).testBit j
theorem aij {ops:Array Oper}(h:KX ops.toList 0=true):Anc ops (aav (qo ops.toList [])) where
 lt:=fun i o ho p hp=>by
  have:=ZF ops.toList 0 i o h (by simpa using ho) p hp
  omega
 step:=fun i o ho j hj=>by
  have:=SQ ops.toList [] i o (by simpa using ho) (by simpa using h) j (by simpa [aav] using hj)
  exact this
abbrev o8:=Exit→St→Prop
def LS (r:Rs) (τ:St) (k:St→Prop):Prop:=match r with
 |.no=>False
 |.go u=>k (τ.ap u)
 |.nc p u=>p∧k (τ.ap u)
 |.br p b d=>p∧(b=true→k (τ.ap [(.s d,.s (.v (.bool true)))]))∧(b=false→k (τ.ap [(.s d,.s (.v (.bool false)))]))
 |.ex p _ φ u=>p∧∀x,φ x→k (τ.ap (inst x u))
noncomputable def vcT (F:Oper→Q Rs) (l:List Oper) (τ:St) (K:St→Prop):Prop:=
 List.rec (motive:=fun _=>St→Prop) K (fun o _ ih τ=>LS ((F o).run τ) τ ih) l τ
theorem acj {F:Oper→Q Rs}{o:Oper}{l:List Oper}{τ:St}{K:St→Prop}:vcT F (o::l) τ K=LS ((F o).run τ) τ (fun τ'=>vcT F l τ' K):=rfl
def ag6 (A B:List fK):Bool:=A.all fun r=>B.any (fK.beq r)
theorem QH {A B:List fK}(h:ag6 A B=true):∀r∈A,r∈B:=fun r hr=>by
 have:=ZC8.1 h r hr
 obtain⟨q,hq,e⟩:=List.any_eq_true.1 this
 rw [fK.beq_iff.1 e];exact hq
def SI (r:Rs) (τ:St) (k:St→Prop):Prop:=match r with
 |.no=>False
 |.go u=>k (τ.ap u)
 |.nc p u=>p∧k (τ.ap u)
 |.br p b d=>p∧(b=true→k (τ.ap [(.s d,.s (.v (.bool true)))]))∧(b=false→k (τ.ap [(.s d,.s (.v (.bool false)))]))
 |.ex p _ φ u=>p∧(∃x,φ x)∧∀x,φ x→k (τ.ap (inst x u))
def agw (F:Oper→Q Rs) (nr:Nat→Nat→Bool) (o:Oper) (i:Nat) (T:List Tr) (τ:St) (ih:Nat→List Tr→St→Prop):Prop:=
 ∃R W:List fK,(ag6 ((F o).tr τ) R&&ag6 ((F o).run τ).dom W)=true∧match jK nr i R W T with
  |false=>False
  |true=>SI ((F o).run τ) τ (ih (i+1) (⟨i,R,W⟩::T))
noncomputable def vcA (F:Oper→Q Rs) (nr:Nat→Nat→Bool) (l:List Oper) (i:Nat) (T:List Tr) (τ:St) (K:St→Prop):Prop:=
 List.rec (motive:=fun _=>Nat→List Tr→St→Prop) (fun _ _ τ=>K τ) (fun o _ ih i T τ=>agw F nr o i T τ ih) l i T τ
theorem ack {F:Oper→Q Rs}{nr:Nat→Nat→Bool}{o:Oper}{l:List Oper}{i:Nat}{T:List Tr}{τ:St}{K:St→Prop}:vcA F nr (o::l) i T τ K=agw F nr o i T τ (fun i T τ'=>vcA F nr l i T τ' K):=rfl
def agr:List Tr→List Tr→Prop
 |[],[]=>True
 |t::l,s::m=>(t.j=s.j∧(∀r∈t.R,r∈s.R)∧∀r∈t.W,r∈s.W)∧agr l m
 |_,_=>False
theorem JK {x y x' y':List fK}(h:XU x' y'=true) (hx:∀r∈x,r∈x') (hy:∀r∈y,r∈y'):XU x y=true:=by
 unfold XU
 refine ZC8.2 fun r hr=>ZC8.2 fun q hq=>?_
 have:=FP h (hx r hr) (hy q hq)
 rw [fK.beq_false.2 this];rfl
theorem KE {nr:Nat→Nat→Bool}{i:Nat}{R W R' W':List fK}(hR:∀r∈R,r∈R') (hW:∀r∈W,r∈W'):∀{T T':List Tr},agr T T'→jK nr i R' W' T'=true→jK nr i R W T=true
 |[],[],_,_=>rfl
 |[],_::_,h,_=>h.elim
 |_::_,[],h,_=>h.elim
 |t::l,s::m,h,h'=>by
  simp only [jK,aea,ZA9] at h' ⊢
  refine⟨?_,KE hR hW h.2 h'.2⟩
  rw [h.1.1]
  cases ha:nr i s.j with
  |true=>rfl
  |false=>
   have h1:=h'.1
   rw [ha] at h1
   simp only [cond_false,indep,ZA9] at h1 ⊢
   exact⟨⟨JK h1.1.1 h.1.2.2 hR,JK h1.1.2 h.1.2.2 hW⟩,JK h1.2 hW h.1.2.1⟩
def lift (N:Nat) (c:Ctx) (Q':o8):Exit→Act→World→Prop:=fun e a w=>∃τ,Rel N c τ a w∧Q' e τ
def TW (P:Program) (N:Nat) (cd:Code) (τ:St) (Q':o8):Prop:=∀c a w,Rel N c τ a w→cd.wp P (lift N c Q') a w
def zf (next:St→Prop) (Q':o8):o8:=fun e τ=>match e with
 |.normal=>next τ
 |e=>Q' e τ
def IW (id:Nat) (Q':o8):o8:=fun e τ=>match e with
 |.exit id'=>bif Nat.beq id' id then Q' .normal τ else Q' (.exit id') τ
 |e=>Q' e τ
abbrev Sm:=Array Oper→Oper→Q Rs
def UL (P:Program) (N:Nat) (S:Sm):Prop:=∀(ops:Array Oper) (i:Nat) (o:Oper),ops[i]?=some o→OpS P N ops o (S ops o)
def vc (P:Program) (N:Nat) (S:Sm):Code→St→o8→Prop
 |.skip,τ,Q'=>Q' .normal τ
 |.region _ ops false,τ,Q'=>vcT (S ops) ops.toList τ (Q' .normal)
 |.region _ ops true,τ,Q'=>match KX ops.toList 0 with
  |false=>False
  |true=>vcA (S ops) (aav (qo ops.toList [])) ops.toList 0 [] τ (Q' .normal)
 |.seq x y,τ,Q'=>vc P N S x τ (zf (fun τ'=>vc P N S y τ' Q') Q')
 |.cond o x y,τ,Q'=>match o with
  |.tmp t=>match τ (.s t) with
   |some (.o (.s (.q b)))=>(b=true→vc P N S x τ Q')∧(b=false→vc P N S y τ Q')
   |some (.o (.s (.v (.bool true))))=>vc P N S x τ Q'
   |some (.o (.s (.v (.bool false))))=>vc P N S y τ Q'
   |_=>False
  |.const (.bool true)=>vc P N S x τ Q'
  |.const (.bool false)=>vc P N S y τ Q'
  |_=>False
 |.block id x,τ,Q'=>vc P N S x τ (IW id Q')
 |.loop x,τ,Q'=>TW P N (.loop x) τ Q'
 |.scope x,τ,Q'=>TW P N (.scope x) τ Q'
 |.exit id,τ,Q'=>Q' (.exit id) τ
 |.label _,τ,Q'=>Q' .normal τ
 |.ret,τ,Q'=>Q' .ret τ
 |_,_,_=>False
section
variable {P:Program}{N:Nat}{τ:St}{Q':o8}{S:Sm}
theorem TW.mono {cd:Code}{Q2:o8}(h:TW P N cd τ Q') (hq:∀e τ,Q' e τ→Q2 e τ):TW P N cd τ Q2:=
 fun c a w hr=>Code.wp_mono (fun _ _ _ ⟨τ',uN,hq'⟩=>⟨τ',uN,hq _ _ hq'⟩) (h c a w hr)
theorem TW.seq {x y:Code}(h:TW P N x τ (zf (fun τ'=>TW P N y τ' Q') Q')):TW P N (.seq x y) τ Q':=fun c a w hr=>by
 refine wp_seq (Code.wp_mono ?_ (h c a w hr))
 rintro e a' w' ⟨τ',uN,hq⟩
 cases e with
 |normal=>exact hq c a' w' uN
 |_=>exact⟨τ',uN,hq⟩
theorem TW.block {id:Nat}{x:Code}(h:TW P N x τ (IW id Q')):TW P N (.block id x) τ Q':=fun c a w hr=>by
 refine wp_block (Code.wp_mono ?_ (h c a w hr))
 rintro e a' w' ⟨τ',uN,hq⟩
 cases e with
 |exit id'=>
  simp only [Exit.inBlock]
  simp only [IW] at hq
  split
  ·rename_i e;subst e;simp at hq;exact⟨τ',uN,hq⟩
  ·rename_i e
   have:Nat.beq id' id=false:=by rw [←Bool.not_eq_true];simpa using e
   rw [this] at hq;exact⟨τ',uN,hq⟩
 |_=>exact⟨τ',uN,hq⟩
theorem ag3 {F:Oper→Q Rs}{K:St→Prop}(ops:List Oper):∀(l:List Oper) (k:Nat) (τ:St),ops.drop k=l→vcT F l τ K→aT (fun i=>match ops[i]? with
  |some o=>F o
  |none=>.ret .no) (List.range' k l.length) τ K:=by
 intro l
 induction l with
 |nil=>intro k τ _ h;exact h
 |cons o l ih=>
  intro k τ hk h
  have h0:ops[k]?=some o:=by
   have:(ops.drop k)[0]?=some o:=by rw [hk];rfl
   simpa using this
  have hd:ops.drop (k+1)=l:=by
   have:=List.drop_drop (i:=1) (j:=k) (l:=ops)
   rw [hk] at this
   simpa using this.symm
  simp only [ZA1,List.range'_succ,aT,h0]
  rw [acj] at h
  cases hr:(F o).run τ with
  |no=>rw [hr] at h;exact (h:False).elim
  |go u=>rw [hr] at h;simp only [LS] at h;exact⟨trivial,fun v hv=>by cases hv;exact ih (k+1) _ hd h⟩
  |nc p u=>rw [hr] at h;simp only [LS] at h;exact⟨h.1,fun v hv=>by cases hv;exact ih (k+1) _ hd h.2⟩
  |br p b d=>
   rw [hr] at h
   simp only [LS] at h
   refine⟨h.1,fun v hv=>?_⟩
   cases hv
   cases b with
   |true=>exact ih (k+1) _ hd (h.2.1 rfl)
   |false=>exact ih (k+1) _ hd (h.2.2 rfl)
  |ex p α φ u=>
   rw [hr] at h
   simp only [LS] at h
   refine⟨h.1,fun v hv=>?_⟩
   obtain⟨x,hx,rfl⟩:=hv
   exact ih (k+1) _ hd (h.2 x hx)
theorem ag4 {F:Oper→Q Rs}{nr:Nat→Nat→Bool}{K:St→Prop}(ops:List Oper):∀(l:List Oper) (k:Nat) (T T':List Tr) (τ:St),agr T T'→ops.drop k=l→vcA F nr l k T' τ K→aL (fun i=>match ops[i]? with
  |some o=>F o
  |none=>.ret .no) nr (List.range' k l.length) T τ K:=by
 intro l
 induction l with
 |nil=>intro k T T' τ _ _ h;exact h
 |cons o l ih=>
  intro k T T' τ hT hk h
  have h0:ops[k]?=some o:=by
   have:(ops.drop k)[0]?=some o:=by rw [hk];rfl
   simpa using this
  have hd:ops.drop (k+1)=l:=by
   have:=List.drop_drop (i:=1) (j:=k) (l:=ops)
   rw [hk] at this
   simpa using this.symm
  simp only [ZA1,List.range'_succ,aL,h0]
  rw [ack] at h
  obtain⟨R,W,hs,h⟩:=h
  simp only [ZA9] at hs
  have hR:=QH hs.1
  have hW:=QH hs.2
  split at h
  ·exact h.elim
  ·rename_i hap
   refine⟨KE hR hW hT hap,?_⟩
   have hT':agr (⟨k,(F o).tr τ,((F o).run τ).dom⟩::T) (⟨k,R,W⟩::T'):=⟨⟨rfl,hR,hW⟩,hT⟩
   cases hr:(F o).run τ with
   |no=>rw [hr] at h;exact (h:False).elim
   |go u=>rw [hr] at h hT';simp only [SI] at h;exact⟨trivial,trivial,fun v hv=>by cases hv;exact ih (k+1) _ _ _ hT' hd h⟩
   |nc p u=>rw [hr] at h hT';simp only [SI] at h;exact⟨h.1,trivial,fun v hv=>by cases hv;exact ih (k+1) _ _ _ hT' hd h.2⟩
   |br p b d=>
    rw [hr] at h hT'
    simp only [SI] at h
    refine⟨h.1,aa,fun v hv=>?_⟩
    cases hv
    cases b with
    |true=>exact ih (k+1) _ _ _ hT' hd (h.2.1 rfl)
    |false=>exact ih (k+1) _ _ _ hT' hd (h.2.2 rfl)
   |ex p α φ u=>
    rw [hr] at h hT'
    simp only [SI] at h
    refine⟨h.1,h.2.1,fun v hv=>?_⟩
    obtain⟨x,hx,rfl⟩:=hv
    exact ih (k+1) _ _ _ hT' hd (h.2.2 x hx)
theorem TW.text {id:Nat}{ops:Array Oper}(hS:UL P N S) (hk:vcT (S ops) ops.toList τ (Q' .normal)):TW P N (.region id ops false) τ Q':=fun c a w hr=>by
 refine wp_region ?_
 have h1:=ag3 ops.toList ops.toList 0 τ (by simp) hk
 refine UR (F:=fun i=>match ops.toList[i]? with
  |some o=>S ops o
  |none=>.ret .no) (fun i o ho=>?_) (Q':=lift N c Q') (c:=c) (K:=Q' .normal) (fun τ' _ _ hk' uN=>⟨τ',uN,hk'⟩) _ τ a w (fun i hi=>by simpa using hi) ?_ hr
 ·have:ops.toList[i]?=some o:=by simpa using ho
  simp only [this]
  exact hS ops i o ho
 ·simpa [List.range_eq_range'] using h1
theorem TW.any {id:Nat}{ops:Array Oper}(hm:P.follows .mixedOrders=true) (hS:UL P N S) (hl:KX ops.toList 0=true) (hk:vcA (S ops) (aav (qo ops.toList [])) ops.toList 0 [] τ (Q' .normal)):
  TW P N (.region id ops true) τ Q':=fun c a w hr=>by
 refine wp_region_any hm ?_
 have h1:=ag4 ops.toList ops.toList 0 [] [] τ trivial (by simp) hk
 refine acb (F:=fun i=>match ops.toList[i]? with
  |some o=>S ops o
  |none=>.ret .no) (fun i o ho=>?_) (aij hl) (Q':=lift N c Q') (c:=c) (K:=Q' .normal) (fun τ' _ _ hk' uN=>⟨τ',uN,hk'⟩) ops.size (Array.replicate ops.size false) τ a _ ?_ (by simp) ?_ ?_ hr.drew
 ·have:ops.toList[i]?=some o:=by simpa using ho
  simp only [this]
  exact hS ops i o ho
 ·rw [Q0];simp
 ·intro i o ho hi
  have:i<ops.size:=(ZF1.1 ho).1
  simp [zP,Array.getD,this] at hi
 ·rw [Q0];simpa [List.range_eq_range'] using h1
theorem BA {c:Ctx}{a:Act}{w:World}{t:Nat}{av:AV}{b:Bool}(hr:Rel N c τ a w) (h:τ (.s t)=some av) (hav:∀T β v,av.rel T β v→v= .bool b):a.eval (.tmp t)= .bool b:=by
 obtain⟨T,β,hh⟩:=hr
 obtain⟨v,hv,c7⟩:=hh.iK t _ h
 have:v= .bool b:=hav T β v c7
 subst this
 show a.tmps.getD t undef=_
 rw [ZE8,hv];rfl
theorem gq (hm:P.follows .mixedOrders=true) (hS:UL P N S):∀(cd:Code) (τ:St) (Q':o8),vc P N S cd τ Q'→TW P N cd τ Q'
 |.skip,τ,Q',h=>fun _ _ _ hr=>wp_skip ⟨τ,hr,h⟩
 |.region _ ops false,τ,Q',h=>TW.text hS h
 |.region _ ops true,τ,Q',h=>by
  simp only [vc] at h
  split at h
  ·exact h.elim
  ·rename_i hl;exact TW.any hm hS hl h
 |.seq x y,τ,Q',h=>TW.seq ((gq hm hS x τ _ h).mono fun e τ' hq=>by
  cases e with
  |normal=>exact gq hm hS y τ' Q' hq
  |_=>exact hq)
 |.cond o x y,τ,Q',h=>by
  intro c a w hr
  simp only [vc] at h
  split at h
  ·rename_i t
   split at h
   ·rename_i b hb
    have hv:=BA (b:=b) hr hb (fun _ _ _ h=>h)
    refine wp_cond hv ?_
    cases b
    ·exact gq hm hS y τ Q' (h.2 rfl) c a w hr
    ·exact gq hm hS x τ Q' (h.1 rfl) c a w hr
   ·rename_i hb
    exact wp_cond (BA (b:=true) hr hb (fun _ _ _ h=>h)) (gq hm hS x τ Q' h c a w hr)
   ·rename_i hb
    exact wp_cond (BA (b:=false) hr hb (fun _ _ _ h=>h)) (gq hm hS y τ Q' h c a w hr)
   ·exact h.elim
  ·exact wp_cond (show a.eval (.const (.bool true))= .bool true from rfl) (gq hm hS x τ Q' h c a w hr)
  ·exact wp_cond (show a.eval (.const (.bool false))= .bool false from rfl) (gq hm hS y τ Q' h c a w hr)
  ·exact h.elim
 |.block id x,τ,Q',h=>TW.block (gq hm hS x τ _ h)
 |.loop x,τ,Q',h=>h
 |.scope x,τ,Q',h=>h
 |.exit id,τ,Q',h=>fun _ _ _ hr=>wp_exit ⟨τ,hr,h⟩
 |.label l,τ,Q',h=>fun _ _ _ hr=>wp_label ⟨τ,hr,h⟩
 |.ret,τ,Q',h=>fun _ _ _ hr=>wp_ret ⟨τ,hr,h⟩
 |.rangeFunc _ _ _ _,_,_,h=>h.elim
 |.goto _,_,_,h=>h.elim
 |.refuse _,_,_,h=>h.elim
def oO (τ:St) (ca:List fK):St:=fun r=>bif ca.any (fK.beq r) then τ r else none
def LB:List (Nat×Nat)→Nat→Nat
 |[],i=>i
 |p::l,i=>bif Nat.beq p.1 i then p.2 else LB l i
def iQ:List fK→List Nat
 |[]=>[]
 |.b i::l=>i::iQ l
 |.s _::l=>iQ l
def iP:AO→List Nat
 |[]=>[]
 |(.b i,_)::l=>i::iP l
 |(.s _,_)::l=>iP l
def iy (l:List Nat) (i:Nat):Bool:=l.any fun j=>Nat.beq j i
def afU (σ:Nat→Nat):List Nat→Bool
 |[]=>true
 |i::l=>(l.all fun j=>Nat.beq j i|| !(Nat.beq (σ j) (σ i)))&&afU σ l
def akC (σ:Nat→Nat) (l:List Nat):Bool:=l.all fun i=>Nat.beq (σ i) i||((Nat.ble 1000 i&&Nat.blt i 1000000000)&&(Nat.ble 1000 (σ i)&&Nat.blt (σ i) 1000000000))||Nat.ble 1000000000 i
def OW (bk:List Nat):AO→Bool
 |[]=>true
 |p::u=>p.2.boxes.all (iy bk)&&OW bk u
def CH (bk:List Nat) (σ:Nat→Nat) (τ:St):List fK→Bool
 |[]=>true
 |r::l=>(match τ r with
  |some av=>av.boxes.all (fun i=>iy bk i&&Nat.beq (σ i) i)
  |none=>match r with
   |.b _=>false
   |.s _=>true)&&(match r with
  |.b i=>Nat.beq (σ i) i
  |.s _=>true)&&CH bk σ τ l
def YS (σ:Nat→Nat) (τ':St):AO→Prop
 |[]=>True
 |(.s n,av)::u=>GN (τ' (.s n)) (av.lB σ)∧YS σ τ' u
 |(.b i,av)::u=>τ' (.b (σ i))=some (av.lB σ)∧YS σ τ' u
def QR (τ τ':St):List fK→Prop
 |[]=>True
 |r::l=>match τ r with
  |some av=>τ' r=some av∧QR τ τ' l
  |none=>QR τ τ' l
def EP (sg:List (Nat×Nat)) (τ τ':St) (ca:List fK) (u:AO):Prop:=
 match afU (LB sg) (iP u++iQ ca)&&(akC (LB sg) (iP u++iQ ca)&&(OW (iP u++iQ ca) u&&CH (iP u++iQ ca) (LB sg) τ ca)) with
 |true=>YS (LB sg) τ' u∧QR τ τ' ca
 |false=>False
theorem fA {l:List Nat}{i:Nat}:iy l i=true↔i∈l:=by
 unfold iy
 rw [List.any_eq_true]
 constructor
 ·rintro⟨j,hj,h⟩
  have:j=i:=by simpa using h
  exact this ▸ hj
 ·intro h;exact⟨i,h,by simp⟩
theorem LX {u:AO}{i:Nat}:i∈iP u↔∃p∈u,p.1= .b i:=by
 induction u with
 |nil=>simp [iP]
 |cons p u ih=>
  obtain⟨r,av⟩:=p
  cases r with
  |s n=>simp [iP,ih]
  |b n=>simp [iP,ih,eq_comm]
theorem LY {l:List fK}{i:Nat}:i∈iQ l↔.b i∈l:=by
 induction l with
 |nil=>simp [iQ]
 |cons r l ih=>
  cases r with
  |s n=>simp [iQ,ih]
  |b n=>simp [iQ,ih]
theorem TF {σ:Nat→Nat}:∀{l:List Nat},afU σ l=true→∀i∈l,∀j∈l,σ i=σ j→i=j
 |[],_,i,hi,j,hj=>by cases hi
 |k::l,h,i,hi,j,hj=>by
  intro e
  simp only [afU,ZA9] at h
  have key:∀x∈l,σ x=σ k→x=k:=by
   intro x hx he
   have:=ZC8.1 h.1 x hx
   simp only [Bool.or_eq_true] at this
   rcases this with h1 |h1
   ·simpa using h1
   ·rw [he] at h1;simp at h1
  rcases ZB8.1 hi with rfl |CY
  ·rcases ZB8.1 hj with rfl |CX
   ·rfl
   ·exact (key j CX e.symm).symm
  ·rcases ZB8.1 hj with rfl |CX
   ·exact key i CY e
   ·exact TF h.2 i CY j CX e
theorem LV {bk:List Nat}:∀{u:AO},OW bk u=true→∀p∈u,∀i∈p.2.boxes,i∈bk
 |[],_,p,hp=>by cases hp
 |q::u,h,p,hp=>by
  intro i hi
  simp only [OW,ZA9] at h
  rcases ZB8.1 hp with rfl |hp
  ·exact fA.1 (ZC8.1 h.1 i hi)
  ·exact LV h.2 p hp i hi
theorem HV {bk:List Nat}{σ:Nat→Nat}{τ:St}:∀{l:List fK},CH bk σ τ l=true→∀i,.b i∈l→τ (.b i)≠none
 |[],_,i,hi=>by cases hi
 |q::l,h,i,hi=>by
  simp only [CH,ZA9] at h
  rcases ZB8.1 hi with rfl |hi
  ·intro hn
   have h1:=h.1.1
   rw [hn] at h1
   cases h1
  ·exact HV h.2 i hi
theorem sB {bk:List Nat}{σ:Nat→Nat}{τ:St}:∀{l:List fK},CH bk σ τ l=true→∀r∈l,(∀av,τ r=some av→∀i∈av.boxes,i∈bk∧σ i=i)∧∀i,r= .b i→σ i=i
 |[],_,r,hr=>by cases hr
 |q::l,h,r,hr=>by
  simp only [CH,ZA9] at h
  rcases ZB8.1 hr with rfl |hr
  ·refine⟨fun av hav i hi=>?_,fun i hi=>?_⟩
   ·have h1:=h.1.1
    rw [hav] at h1
    have h2:=ZC8.1 h1 i hi
    simp only [ZA9] at h2
    exact⟨fA.1 h2.1,by simpa using h2.2⟩
   ·subst hi
    simpa using h.1.2
  ·exact sB h.2 r hr
theorem zl {σ:Nat→Nat}{τ':St}:∀{u:AO},YS σ τ' u→∀p∈u,(∀n,p.1= .s n→GN (τ' (.s n)) (p.2.lB σ))∧∀n,p.1= .b n→τ' (.b (σ n))=some (p.2.lB σ)
 |[],_,p,hp=>by cases hp
 |(.s m,av)::u,h,p,hp=>by
  rcases ZB8.1 hp with rfl |hp
  ·exact⟨fun n hn=>(by cases hn;exact h.1),fun n hn=>(by cases hn)⟩
  ·exact zl h.2 p hp
 |(.b m,av)::u,h,p,hp=>by
  rcases ZB8.1 hp with rfl |hp
  ·exact⟨fun n hn=>(by cases hn),fun n hn=>(by cases hn;exact h.1)⟩
  ·exact zl h.2 p hp
theorem zm {τ τ':St}:∀{l:List fK},QR τ τ' l→∀r∈l,∀av,τ r=some av→τ' r=some av
 |[],_,r,hr=>by cases hr
 |q::l,h,r,hr=>by
  intro av hav
  simp only [QR] at h
  split at h
  ·rename_i av' hq
   rcases ZB8.1 hr with rfl |hr
   ·rw [hq] at hav;cases hav;exact h.1
   ·exact zm h.2 r hr av hav
  ·rename_i hq
   rcases ZB8.1 hr with rfl |hr
   ·rw [hq] at hav;cases hav
   ·exact zm h r hr av hav
theorem SV.qW {σ:Nat→Nat}{x:SV}(h:∀i∈x.boxes,σ i=i):x.lB σ=x:=by
 cases x<;>simp [SV.lB,SV.boxes] at h ⊢ <;>exact h
theorem Q4 {σ:Nat→Nat}:∀{l:List SV},(∀i∈cf l,σ i=i)→BL σ l=l
 |[],_=>rfl
 |x::l,h=>by
  simp only [cf,ZB4] at h
  simp [BL,SV.qW (x:=x) (fun i hi=>h i (.inl hi)),Q4 (l:=l) (fun i hi=>h i (.inr hi))]
theorem A0.qW {σ:Nat→Nat}{x:A0}(h:∀i∈x.boxes,σ i=i):x.lB σ=x:=by
 cases x with
 |s x=>simp [A0.lB,SV.qW (x:=x) h]
 |a l=>simp [A0.lB,Q4 (l:=l) h]
theorem Q3 {σ:Nat→Nat}:∀{l:List A0},(∀i∈eU l,σ i=i)→BJ σ l=l
 |[],_=>rfl
 |x::l,h=>by
  simp only [eU,ZB4] at h
  simp [BJ,A0.qW (x:=x) (fun i hi=>h i (.inl hi)),Q3 (l:=l) (fun i hi=>h i (.inr hi))]
theorem Q5 {σ:Nat→Nat}:∀{l:List (Nat×Nat)},(∀i∈jJ l,σ i=i)→BM σ l=l
 |[],_=>rfl
 |p::l,h=>by
  simp only [jJ,ZB8] at h
  simp [BM,h p.1 (.inl rfl),Q5 (l:=l) (fun i hi=>h i (.inr hi))]
theorem AV.qW {σ:Nat→Nat}{x:AV}(h:∀i∈x.boxes,σ i=i):x.lB σ=x:=by
 cases x with
 |fn f l=>simp [AV.lB,Q5 (l:=l) h]
 |o x=>simp [AV.lB,A0.qW (x:=x) h]
 |t l=>simp [AV.lB,Q3 (l:=l) h]
 |_=>rfl
theorem W2 {ca:List fK}{r:fK}{av:AV}(h:oO τ ca r=some av):r∈ca∧τ r=some av:=by
 unfold oO at h
 cases hk:ca.any (fK.beq r) with
 |true=>
  rw [hk] at h
  obtain⟨q,hq,e⟩:=List.any_eq_true.1 hk
  have:r=q:=fK.beq_iff.1 e
  exact⟨this ▸ hq,h⟩
 |false=>rw [hk] at h;cases h
theorem GC {sg:List (Nat×Nat)}{τ':St}{ca:List fK}{u:AO}(h:EP sg τ τ' ca u):Sub (LB sg) ((oO τ ca).ap u) τ':=by
 unfold EP at h
 split at h
 ·rename_i hc
  simp only [ZA9] at hc
  obtain⟨ak5,akY,hU,hK⟩:=hc
  obtain⟨h1,h2⟩:=h
  have key:∀r av,(oO τ ca).ap u r=some av→(∃p∈u,p=(r,av))∨(r∈ca∧τ r=some av):=by
   intro r av hr
   rcases St.AN (τ:=oO τ ca) (u:=u) (r:=r) with ⟨v,hv,hm⟩ |⟨hv,_⟩
   ·rw [hr] at hv;cases hv;exact .inl ⟨_,hm,rfl⟩
   ·rw [hr] at hv;exact .inr (W2 hv.symm)
  have ahy:∀i,(oO τ ca).ap u (.b i)≠none→i∈iP u++iQ ca:=by
   intro i hi
   obtain⟨av,hav⟩:=Option.ne_none_iff_exists'.1 hi
   rw [ZB4]
   rcases key _ _ hav with ⟨p,hp,rfl⟩ |⟨hk,_⟩
   ·exact .inl (LX.2 ⟨_,hp,rfl⟩)
   ·exact .inr (LY.2 hk)
  refine⟨fun i av hi=>?_,fun i av hi=>?_,fun r av hr i hi=>?_,fun i j hi hj e=>TF ak5 i (ahy i hi) j (ahy j hj) e,fun i hi=>?_⟩
  ·rcases key _ _ hi with ⟨p,hp,rfl⟩ |⟨hk,ht⟩
   ·exact (zl h1 _ hp).1 i rfl
   ·rw [AV.qW fun j hj=>(((sB hK _ hk).1 av ht) j hj).2,zm h2 _ hk av ht]
    exact U1
  ·rcases key _ _ hi with ⟨p,hp,rfl⟩ |⟨hk,ht⟩
   ·exact (zl h1 _ hp).2 i rfl
   ·rw [AV.qW fun j hj=>(((sB hK _ hk).1 av ht) j hj).2,(sB hK _ hk).2 i rfl]
    exact zm h2 _ hk av ht
  ·have yL:i∈iP u++iQ ca:=by
    rcases key _ _ hr with ⟨p,hp,rfl⟩ |⟨hk,ht⟩
    ·exact LV hU _ hp i hi
    ·exact (((sB hK _ hk).1 av ht) i hi).1
   rcases ZB4.1 yL with hm |hm
   ·obtain⟨p,hp,e⟩:=LX.1 hm
    intro hn
    rcases St.AN (τ:=oO τ ca) (u:=u) (r:=.b i) with ⟨v,hv,_⟩ |⟨_,uA⟩
    ·rw [hn] at hv;cases hv
    ·exact uA p hp e
   ·intro hn
    rcases St.AN (τ:=oO τ ca) (u:=u) (r:=.b i) with ⟨v,hv,_⟩ |⟨hv,uA⟩
    ·rw [hn] at hv;cases hv
    ·rw [hn] at hv
     have hk:=LY.1 hm
     have hx:oO τ ca (.b i)=τ (.b i):=by
      unfold oO
      have:ca.any (fK.beq (.b i))=true:=List.any_eq_true.2 ⟨_,hk,fK.UG _⟩
      rw [this];rfl
     rw [hx] at hv
     exact HV hK i hk hv.symm
  ·have:=ZC8.1 akY i (ahy i hi)
   simp only [Bool.or_eq_true,ZA9] at this
   rcases this with (h3 |h3) |h3
   ·exact .inl (by simpa using h3)
   ·exact .inr (.inl ⟨⟨zqNlb h3.1.1,zqNlb h3.1.2⟩,zqNlb h3.2.1,zqNlb h3.2.2⟩)
   ·exact .inr (.inr (zqNlb h3))
 ·exact h.elim
end
end GL
end Go.Proofs.YtkgpljpmdkflmaaGreatDoor
