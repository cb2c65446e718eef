/- A drawn law returns true for every code (its row lists package variables, tied by the card): part 3. -/
import Derived.Test.YtclcgjhhehbdeaaGreatDoorPab
set_option maxHeartbeats 20000000
set_option maxRecDepth 100000
set_option linter.all false
namespace Go.Proofs.YtclcgjhhehbdeaaGreatDoor
namespace GL
def LM (ms:List Nat):List Nat→Nat
 |[]=>0
 |p::ps=>(2 ^ p|||ms.getD p 0)|||LM ms ps
theorem LL {ms:List Nat}{j:Nat}:∀{ps:List Nat},(LM ms ps).testBit j=true→∃p∈ps,p=j∨(ms.getD p 0).testBit j=true
 |[],h=>by simp [LM] at h
 |p::ps,h=>by
  simp only [LM,Nat.testBit_or,Bool.or_eq_true,Nat.testBit_two_pow] at h
  rcases h with (h |h) |h
  ·exact⟨p,by simp,.inl (by simpa using h)⟩
  ·exact⟨p,by simp,.inr h⟩
  ·obtain⟨q,hq,h⟩:=LL h;exact⟨q,by simp [hq],h⟩
def qh:List Oper→List Nat→List Nat
 |[],ms=>ms
 |o::l,ms=>qh l (ms++[LM ms (xt o)])
def KT:List Oper→Nat→Bool
 |[],_=>true
 |o::l,i=>(xt o).all (fun p=>Nat.blt p i)&&KT l (i+1)
theorem aby:∀(l:List Oper) (ms:List Nat),(qh l ms).length=ms.length+l.length
 |[],ms=>by simp [qh]
 |o::l,ms=>by rw [qh,aby l];simp;omega
theorem yt:∀(l:List Oper) (ms:List Nat) (i:Nat),i<ms.length→(qh l ms).getD i 0=ms.getD i 0
 |[],_,_,_=>rfl
 |o::l,ms,i,h=>by
  rw [qh,yt l _ i (by simp;omega)]
  simp [ZC2 h]
theorem SM:∀(l:List Oper) (ms:List Nat) (i:Nat) (o:Oper),l[i]?=some o→KT l ms.length=true→
  ∀j,((qh l ms).getD (ms.length+i) 0).testBit j=true→∃k∈xt o,k=j∨((qh l ms).getD k 0).testBit j=true
 |[],_,i,o,h,_=>by simp at h
 |o'::l,ms,0,o,h,bU=>by
  simp at h;subst h
  intro j hj
  simp only [KT,ZA9] at bU
  rw [qh,yt l _ _ (by simp)] at hj
  simp at hj
  obtain⟨p,hp,h⟩:=LL hj
  have rP:p<ms.length:=by have:=ZC8.1 bU.1 p hp;simpa using this
  refine⟨p,hp,?_⟩
  rcases h with h |h
  ·exact .inl h
  ·right
   rw [qh,yt l _ p (by simp;omega)]
   simpa [ZC2 rP] using h
 |o'::l,ms,i+1,o,h,bU=>by
  intro j hj
  simp only [KT,ZA9] at bU
  have:=SM l (ms++[LM ms (xt o')]) i o (by simpa using h) (by simpa using bU.2) j (by
   rw [qh] at hj
   simpa [ZF7,Nat.add_comm 1 i] using hj)
  rw [qh]
  exact this
theorem ZB:∀(l:List Oper) (n i:Nat) (o:Oper),KT l n=true→l[i]?=some o→∀p∈xt o,p<n+i
 |[],_,i,o,_,h=>by simp at h
 |o'::l,n,0,o,bU,h=>by
  simp at h;subst h
  simp only [KT,ZA9] at bU
  intro p hp
  have:=ZC8.1 bU.1 p hp
  simpa using this
 |o'::l,n,i+1,o,bU,h=>by
  simp only [KT,ZA9] at bU
  intro p hp
  have:=ZB l (n+1) i o bU.2 (by simpa using h) p hp
  omega
def aar (ms:List Nat) (i j:Nat):Bool:=(ms.getD i 0).testBit j
theorem aii {ops:Array Oper}(h:KT ops.toList 0=true):Anc ops (aar (qh ops.toList [])) where
 lt:=fun i o ho p hp=>by
  have:=ZB ops.toList 0 i o h (by simpa using ho) p hp
  omega
 step:=fun i o ho j hj=>by
  have:=SM ops.toList [] i o (by simpa using ho) (by simpa using h) j (by simpa [aar] using hj)
  exact this
abbrev oX:=Exit→St→Prop
def LO (r:Rs) (τ:St) (k:St→Prop):Prop:=match r with
 |.no=>False
 |.go u=>k (τ.ap u)
 |.mV p u=>p∧k (τ.ap u)
 |.br p b d=>p∧(b=true→k (τ.ap [(.s d,.s (.v (.bool true)))]))∧(b=false→k (τ.ap [(.s d,.s (.v (.bool false)))]))
 |.ex p _ φ u=>p∧∀x,φ x→k (τ.ap (inst x u))
noncomputable def vcT (F:Oper→Q Rs) (l:List Oper) (τ:St) (K:St→Prop):Prop:=
 List.rec (motive:=fun _=>St→Prop) K (fun o _ ih τ=>LO ((F o).run τ) τ ih) l τ
theorem acf {F:Oper→Q Rs}{o:Oper}{l:List Oper}{τ:St}{K:St→Prop}:vcT F (o::l) τ K=LO ((F o).run τ) τ (fun τ'=>vcT F l τ' K):=rfl
def ag4 (A B:List fI):Bool:=A.all fun r=>B.any (fI.beq r)
theorem QD {A B:List fI}(h:ag4 A B=true):∀r∈A,r∈B:=fun r hr=>by
 have:=ZC8.1 h r hr
 obtain⟨q,hq,e⟩:=List.any_eq_true.1 this
 rw [fI.beq_iff.1 e];exact hq
def SF (r:Rs) (τ:St) (k:St→Prop):Prop:=match r with
 |.no=>False
 |.go u=>k (τ.ap u)
 |.mV p u=>p∧k (τ.ap u)
 |.br p b d=>p∧(b=true→k (τ.ap [(.s d,.s (.v (.bool true)))]))∧(b=false→k (τ.ap [(.s d,.s (.v (.bool false)))]))
 |.ex p _ φ u=>p∧(∃x,φ x)∧∀x,φ x→k (τ.ap (inst x u))
def agu (F:Oper→Q Rs) (nc:Nat→Nat→Bool) (o:Oper) (i:Nat) (T:List Tr) (τ:St) (ih:Nat→List Tr→St→Prop):Prop:=
 ∃R W:List fI,(ag4 ((F o).tr τ) R&&ag4 ((F o).run τ).dom W)=true∧match jG nc i R W T with
  |false=>False
  |true=>SF ((F o).run τ) τ (ih (i+1) (⟨i,R,W⟩::T))
noncomputable def vcA (F:Oper→Q Rs) (nc:Nat→Nat→Bool) (l:List Oper) (i:Nat) (T:List Tr) (τ:St) (K:St→Prop):Prop:=
 List.rec (motive:=fun _=>Nat→List Tr→St→Prop) (fun _ _ τ=>K τ) (fun o _ ih i T τ=>agu F nc o i T τ ih) l i T τ
theorem acg {F:Oper→Q Rs}{nc:Nat→Nat→Bool}{o:Oper}{l:List Oper}{i:Nat}{T:List Tr}{τ:St}{K:St→Prop}:vcA F nc (o::l) i T τ K=agu F nc o i T τ (fun i T τ'=>vcA F nc l i T τ' K):=rfl
def agp:List Tr→List Tr→Prop
 |[],[]=>True
 |t::l,s::m=>(t.j=s.j∧(∀r∈t.R,r∈s.R)∧∀r∈t.W,r∈s.W)∧agp l m
 |_,_=>False
theorem JF {x y x' y':List fI}(h:XR x' y'=true) (hx:∀r∈x,r∈x') (hy:∀r∈y,r∈y'):XR x y=true:=by
 unfold XR
 refine ZC8.2 fun r hr=>ZC8.2 fun q hq=>?_
 have:=FL h (hx r hr) (hy q hq)
 rw [fI.beq_false.2 this];rfl
theorem KA {nc:Nat→Nat→Bool}{i:Nat}{R W R' W':List fI}(hR:∀r∈R,r∈R') (hW:∀r∈W,r∈W'):∀{T T':List Tr},agp T T'→jG nc i R' W' T'=true→jG nc i R W T=true
 |[],[],_,_=>rfl
 |[],_::_,h,_=>h.elim
 |_::_,[],h,_=>h.elim
 |t::l,s::m,h,h'=>by
  simp only [jG,ad6,ZA9] at h' ⊢
  refine⟨?_,KA hR hW h.2 h'.2⟩
  rw [h.1.1]
  cases ha:nc i s.j with
  |true=>rfl
  |false=>
   have h1:=h'.1
   rw [ha] at h1
   simp only [cond_false,indep,ZA9] at h1 ⊢
   exact⟨⟨JF h1.1.1 h.1.2.2 hR,JF h1.1.2 h.1.2.2 hW⟩,JF h1.2 hW h.1.2.1⟩
def lift (N:Nat) (c:Ctx) (Q':oX):Exit→Act→World→Prop:=fun e a w=>∃τ,Rel N c τ a w∧Q' e τ
def TW (P:Program) (N:Nat) (cd:Code) (τ:St) (Q':oX):Prop:=∀c a w,Rel N c τ a w→cd.wp P (lift N c Q') a w
def y7 (next:St→Prop) (Q':oX):oX:=fun e τ=>match e with
 |.normal=>next τ
 |e=>Q' e τ
def IQ (id:Nat) (Q':oX):oX:=fun e τ=>match e with
 |.exit id'=>bif Nat.beq id' id then Q' .normal τ else Q' (.exit id') τ
 |e=>Q' e τ
abbrev Sm:=Array Oper→Oper→Q Rs
def UI (P:Program) (N:Nat) (S:Sm):Prop:=∀(ops:Array Oper) (i:Nat) (o:Oper),ops[i]?=some o→OpS P N ops o (S ops o)
def vc (P:Program) (N:Nat) (S:Sm):Code→St→oX→Prop
 |.skip,τ,Q'=>Q' .normal τ
 |.region _ ops false,τ,Q'=>vcT (S ops) ops.toList τ (Q' .normal)
 |.region _ ops true,τ,Q'=>match KT ops.toList 0 with
  |false=>False
  |true=>vcA (S ops) (aar (qh ops.toList [])) ops.toList 0 [] τ (Q' .normal)
 |.seq x y,τ,Q'=>vc P N S x τ (y7 (fun τ'=>vc P N S y τ' Q') Q')
 |.cond o x y,τ,Q'=>match o with
  |.tmp t=>match τ (.s t) with
   |some (.o (.s (.q b)))=>(b=true→vc P N S x τ Q')∧(b=false→vc P N S y τ Q')
   |some (.o (.s (.v (.bool true))))=>vc P N S x τ Q'
   |some (.o (.s (.v (.bool false))))=>vc P N S y τ Q'
   |_=>False
  |.const (.bool true)=>vc P N S x τ Q'
  |.const (.bool false)=>vc P N S y τ Q'
  |_=>False
 |.block id x,τ,Q'=>vc P N S x τ (IQ id Q')
 |.loop x,τ,Q'=>TW P N (.loop x) τ Q'
 |.scope x,τ,Q'=>TW P N (.scope x) τ Q'
 |.exit id,τ,Q'=>Q' (.exit id) τ
 |.label _,τ,Q'=>Q' .normal τ
 |.ret,τ,Q'=>Q' .ret τ
 |_,_,_=>False
section
variable {P:Program}{N:Nat}{τ:St}{Q':oX}{S:Sm}
theorem TW.mono {cd:Code}{Q2:oX}(h:TW P N cd τ Q') (hq:∀e τ,Q' e τ→Q2 e τ):TW P N cd τ Q2:=
 fun c a w hr=>Code.wp_mono (fun _ _ _ ⟨τ',uG,hq'⟩=>⟨τ',uG,hq _ _ hq'⟩) (h c a w hr)
theorem TW.seq {x y:Code}(h:TW P N x τ (y7 (fun τ'=>TW P N y τ' Q') Q')):TW P N (.seq x y) τ Q':=fun c a w hr=>by
 refine wp_seq (Code.wp_mono ?_ (h c a w hr))
 rintro e a' w' ⟨τ',uG,hq⟩
 cases e with
 |normal=>exact hq c a' w' uG
 |_=>exact⟨τ',uG,hq⟩
theorem TW.block {id:Nat}{x:Code}(h:TW P N x τ (IQ id Q')):TW P N (.block id x) τ Q':=fun c a w hr=>by
 refine wp_block (Code.wp_mono ?_ (h c a w hr))
 rintro e a' w' ⟨τ',uG,hq⟩
 cases e with
 |exit id'=>
  simp only [Exit.inBlock]
  simp only [IQ] at hq
  split
  ·rename_i e;subst e;simp at hq;exact⟨τ',uG,hq⟩
  ·rename_i e
   have:Nat.beq id' id=false:=by rw [←Bool.not_eq_true];simpa using e
   rw [this] at hq;exact⟨τ',uG,hq⟩
 |_=>exact⟨τ',uG,hq⟩
theorem ag1 {F:Oper→Q Rs}{K:St→Prop}(ops:List Oper):∀(l:List Oper) (k:Nat) (τ:St),ops.drop k=l→vcT F l τ K→aT (fun i=>match ops[i]? with
  |some o=>F o
  |none=>.ret .no) (List.range' k l.length) τ K:=by
 intro l
 induction l with
 |nil=>intro k τ _ h;exact h
 |cons o l ih=>
  intro k τ hk h
  have h0:ops[k]?=some o:=by
   have:(ops.drop k)[0]?=some o:=by rw [hk];rfl
   simpa using this
  have hd:ops.drop (k+1)=l:=by
   have:=List.drop_drop (i:=1) (j:=k) (l:=ops)
   rw [hk] at this
   simpa using this.symm
  simp only [ZA1,List.range'_succ,aT,h0]
  rw [acf] at h
  cases hr:(F o).run τ with
  |no=>rw [hr] at h;exact (h:False).elim
  |go u=>rw [hr] at h;simp only [LO] at h;exact⟨trivial,fun v hv=>by cases hv;exact ih (k+1) _ hd h⟩
  |mV p u=>rw [hr] at h;simp only [LO] at h;exact⟨h.1,fun v hv=>by cases hv;exact ih (k+1) _ hd h.2⟩
  |br p b d=>
   rw [hr] at h
   simp only [LO] at h
   refine⟨h.1,fun v hv=>?_⟩
   cases hv
   cases b with
   |true=>exact ih (k+1) _ hd (h.2.1 rfl)
   |false=>exact ih (k+1) _ hd (h.2.2 rfl)
  |ex p α φ u=>
   rw [hr] at h
   simp only [LO] at h
   refine⟨h.1,fun v hv=>?_⟩
   obtain⟨x,hx,rfl⟩:=hv
   exact ih (k+1) _ hd (h.2 x hx)
theorem ag2 {F:Oper→Q Rs}{nc:Nat→Nat→Bool}{K:St→Prop}(ops:List Oper):∀(l:List Oper) (k:Nat) (T T':List Tr) (τ:St),agp T T'→ops.drop k=l→vcA F nc l k T' τ K→aL (fun i=>match ops[i]? with
  |some o=>F o
  |none=>.ret .no) nc (List.range' k l.length) T τ K:=by
 intro l
 induction l with
 |nil=>intro k T T' τ _ _ h;exact h
 |cons o l ih=>
  intro k T T' τ hT hk h
  have h0:ops[k]?=some o:=by
   have:(ops.drop k)[0]?=some o:=by rw [hk];rfl
   simpa using this
  have hd:ops.drop (k+1)=l:=by
   have:=List.drop_drop (i:=1) (j:=k) (l:=ops)
   rw [hk] at this
   simpa using this.symm
  simp only [ZA1,List.range'_succ,aL,h0]
  rw [acg] at h
  obtain⟨R,W,hs,h⟩:=h
  simp only [ZA9] at hs
  have hR:=QD hs.1
  have hW:=QD hs.2
  split at h
  ·exact h.elim
  ·rename_i hap
   refine⟨KA hR hW hT hap,?_⟩
   have hT':agp (⟨k,(F o).tr τ,((F o).run τ).dom⟩::T) (⟨k,R,W⟩::T'):=⟨⟨rfl,hR,hW⟩,hT⟩
   cases hr:(F o).run τ with
   |no=>rw [hr] at h;exact (h:False).elim
   |go u=>rw [hr] at h hT';simp only [SF] at h;exact⟨trivial,trivial,fun v hv=>by cases hv;exact ih (k+1) _ _ _ hT' hd h⟩
   |mV p u=>rw [hr] at h hT';simp only [SF] at h;exact⟨h.1,trivial,fun v hv=>by cases hv;exact ih (k+1) _ _ _ hT' hd h.2⟩
   |br p b d=>
    rw [hr] at h hT'
    simp only [SF] at h
    refine⟨h.1,aa,fun v hv=>?_⟩
    cases hv
    cases b with
    |true=>exact ih (k+1) _ _ _ hT' hd (h.2.1 rfl)
    |false=>exact ih (k+1) _ _ _ hT' hd (h.2.2 rfl)
   |ex p α φ u=>
    rw [hr] at h hT'
    simp only [SF] at h
    refine⟨h.1,h.2.1,fun v hv=>?_⟩
    obtain⟨x,hx,rfl⟩:=hv
    exact ih (k+1) _ _ _ hT' hd (h.2.2 x hx)
theorem TW.text {id:Nat}{ops:Array Oper}(hS:UI P N S) (hk:vcT (S ops) ops.toList τ (Q' .normal)):TW P N (.region id ops false) τ Q':=fun c a w hr=>by
 refine wp_region ?_
 have h1:=ag1 ops.toList ops.toList 0 τ (by simp) hk
 refine UO (F:=fun i=>match ops.toList[i]? with
  |some o=>S ops o
  |none=>.ret .no) (fun i o ho=>?_) (Q':=lift N c Q') (c:=c) (K:=Q' .normal) (fun τ' _ _ hk' uG=>⟨τ',uG,hk'⟩) _ τ a w (fun i hi=>by simpa using hi) ?_ hr
 ·have:ops.toList[i]?=some o:=by simpa using ho
  simp only [this]
  exact hS ops i o ho
 ·simpa [List.range_eq_range'] using h1
theorem TW.any {id:Nat}{ops:Array Oper}(hm:P.follows .mixedOrders=true) (hS:UI P N S) (hl:KT ops.toList 0=true) (hk:vcA (S ops) (aar (qh ops.toList [])) ops.toList 0 [] τ (Q' .normal)):
  TW P N (.region id ops true) τ Q':=fun c a w hr=>by
 refine wp_region_any hm ?_
 have h1:=ag2 ops.toList ops.toList 0 [] [] τ trivial (by simp) hk
 refine ab7 (F:=fun i=>match ops.toList[i]? with
  |some o=>S ops o
  |none=>.ret .no) (fun i o ho=>?_) (aii hl) (Q':=lift N c Q') (c:=c) (K:=Q' .normal) (fun τ' _ _ hk' uG=>⟨τ',uG,hk'⟩) ops.size (Array.replicate ops.size false) τ a _ ?_ (by simp) ?_ ?_ hr.drew
 ·have:ops.toList[i]?=some o:=by simpa using ho
  simp only [this]
  exact hS ops i o ho
 ·rw [QW];simp
 ·intro i o ho hi
  have:i<ops.size:=(ZF1.1 ho).1
  simp [zJ,Array.getD,this] at hi
 ·rw [QW];simpa [List.range_eq_range'] using h1
theorem A5 {c:Ctx}{a:Act}{w:World}{t:Nat}{av:AV}{b:Bool}(hr:Rel N c τ a w) (h:τ (.s t)=some av) (hav:∀T β v,av.rel T β v→v= .bool b):a.eval (.tmp t)= .bool b:=by
 obtain⟨T,β,hh⟩:=hr
 obtain⟨v,hv,c6⟩:=hh.iH t _ h
 have:v= .bool b:=hav T β v c6
 subst this
 show a.tmps.getD t undef=_
 rw [ZE8,hv];rfl
theorem gn (hm:P.follows .mixedOrders=true) (hS:UI P N S):∀(cd:Code) (τ:St) (Q':oX),vc P N S cd τ Q'→TW P N cd τ Q'
 |.skip,τ,Q',h=>fun _ _ _ hr=>wp_skip ⟨τ,hr,h⟩
 |.region _ ops false,τ,Q',h=>TW.text hS h
 |.region _ ops true,τ,Q',h=>by
  simp only [vc] at h
  split at h
  ·exact h.elim
  ·rename_i hl;exact TW.any hm hS hl h
 |.seq x y,τ,Q',h=>TW.seq ((gn hm hS x τ _ h).mono fun e τ' hq=>by
  cases e with
  |normal=>exact gn hm hS y τ' Q' hq
  |_=>exact hq)
 |.cond o x y,τ,Q',h=>by
  intro c a w hr
  simp only [vc] at h
  split at h
  ·rename_i t
   split at h
   ·rename_i b hb
    have hv:=A5 (b:=b) hr hb (fun _ _ _ h=>h)
    refine wp_cond hv ?_
    cases b
    ·exact gn hm hS y τ Q' (h.2 rfl) c a w hr
    ·exact gn hm hS x τ Q' (h.1 rfl) c a w hr
   ·rename_i hb
    exact wp_cond (A5 (b:=true) hr hb (fun _ _ _ h=>h)) (gn hm hS x τ Q' h c a w hr)
   ·rename_i hb
    exact wp_cond (A5 (b:=false) hr hb (fun _ _ _ h=>h)) (gn hm hS y τ Q' h c a w hr)
   ·exact h.elim
  ·exact wp_cond (show a.eval (.const (.bool true))= .bool true from rfl) (gn hm hS x τ Q' h c a w hr)
  ·exact wp_cond (show a.eval (.const (.bool false))= .bool false from rfl) (gn hm hS y τ Q' h c a w hr)
  ·exact h.elim
 |.block id x,τ,Q',h=>TW.block (gn hm hS x τ _ h)
 |.loop x,τ,Q',h=>h
 |.scope x,τ,Q',h=>h
 |.exit id,τ,Q',h=>fun _ _ _ hr=>wp_exit ⟨τ,hr,h⟩
 |.label l,τ,Q',h=>fun _ _ _ hr=>wp_label ⟨τ,hr,h⟩
 |.ret,τ,Q',h=>fun _ _ _ hr=>wp_ret ⟨τ,hr,h⟩
 |.rangeFunc _ _ _ _,_,_,h=>h.elim
 |.goto _,_,_,h=>h.elim
 |.refuse _,_,_,h=>h.elim
def oI (τ:St) (bZ:List fI):St:=fun r=>bif bZ.any (fI.beq r) then τ r else none
def K7:List (Nat×Nat)→Nat→Nat
 |[],i=>i
 |p::l,i=>bif Nat.beq p.1 i then p.2 else K7 l i
def iN:List fI→List Nat
 |[]=>[]
 |.b i::l=>i::iN l
 |.s _::l=>iN l
def iM:AJ→List Nat
 |[]=>[]
 |(.b i,_)::l=>i::iM l
 |(.s _,_)::l=>iM l
def ix (l:List Nat) (i:Nat):Bool:=l.any fun j=>Nat.beq j i
def afS (σ:Nat→Nat):List Nat→Bool
 |[]=>true
 |i::l=>(l.all fun j=>Nat.beq j i|| !(Nat.beq (σ j) (σ i)))&&afS σ l
def akz (σ:Nat→Nat) (l:List Nat):Bool:=l.all fun i=>Nat.beq (σ i) i||((Nat.ble 1000 i&&Nat.blt i 1000000000)&&(Nat.ble 1000 (σ i)&&Nat.blt (σ i) 1000000000))||Nat.ble 1000000000 i
def OS (bk:List Nat):AJ→Bool
 |[]=>true
 |p::u=>p.2.boxes.all (ix bk)&&OS bk u
def CC (bk:List Nat) (σ:Nat→Nat) (τ:St):List fI→Bool
 |[]=>true
 |r::l=>(match τ r with
  |some av=>av.boxes.all (fun i=>ix bk i&&Nat.beq (σ i) i)
  |none=>match r with
   |.b _=>false
   |.s _=>true)&&(match r with
  |.b i=>Nat.beq (σ i) i
  |.s _=>true)&&CC bk σ τ l
def YO (σ:Nat→Nat) (τ':St):AJ→Prop
 |[]=>True
 |(.s n,av)::u=>GI (τ' (.s n)) (av.lr σ)∧YO σ τ' u
 |(.b i,av)::u=>τ' (.b (σ i))=some (av.lr σ)∧YO σ τ' u
def QN (τ τ':St):List fI→Prop
 |[]=>True
 |r::l=>match τ r with
  |some av=>τ' r=some av∧QN τ τ' l
  |none=>QN τ τ' l
def EJ (sg:List (Nat×Nat)) (τ τ':St) (bZ:List fI) (u:AJ):Prop:=
 match afS (K7 sg) (iM u++iN bZ)&&(akz (K7 sg) (iM u++iN bZ)&&(OS (iM u++iN bZ) u&&CC (iM u++iN bZ) (K7 sg) τ bZ)) with
 |true=>YO (K7 sg) τ' u∧QN τ τ' bZ
 |false=>False
theorem fx {l:List Nat}{i:Nat}:ix l i=true↔i∈l:=by
 unfold ix
 rw [List.any_eq_true]
 constructor
 ·rintro⟨j,hj,h⟩
  have:j=i:=by simpa using h
  exact this ▸ hj
 ·intro h;exact⟨i,h,by simp⟩
theorem LS {u:AJ}{i:Nat}:i∈iM u↔∃p∈u,p.1= .b i:=by
 induction u with
 |nil=>simp [iM]
 |cons p u ih=>
  obtain⟨r,av⟩:=p
  cases r with
  |s n=>simp [iM,ih]
  |b n=>simp [iM,ih,eq_comm]
theorem LU {l:List fI}{i:Nat}:i∈iN l↔.b i∈l:=by
 induction l with
 |nil=>simp [iN]
 |cons r l ih=>
  cases r with
  |s n=>simp [iN,ih]
  |b n=>simp [iN,ih]
theorem TB {σ:Nat→Nat}:∀{l:List Nat},afS σ l=true→∀i∈l,∀j∈l,σ i=σ j→i=j
 |[],_,i,hi,j,hj=>by cases hi
 |k::l,h,i,hi,j,hj=>by
  intro e
  simp only [afS,ZA9] at h
  have key:∀x∈l,σ x=σ k→x=k:=by
   intro x hx he
   have:=ZC8.1 h.1 x hx
   simp only [Bool.or_eq_true] at this
   rcases this with h1 |h1
   ·simpa using h1
   ·rw [he] at h1;simp at h1
  rcases ZB8.1 hi with rfl |CS
  ·rcases ZB8.1 hj with rfl |CR
   ·rfl
   ·exact (key j CR e.symm).symm
  ·rcases ZB8.1 hj with rfl |CR
   ·exact key i CS e
   ·exact TB h.2 i CS j CR e
theorem LQ {bk:List Nat}:∀{u:AJ},OS bk u=true→∀p∈u,∀i∈p.2.boxes,i∈bk
 |[],_,p,hp=>by cases hp
 |q::u,h,p,hp=>by
  intro i hi
  simp only [OS,ZA9] at h
  rcases ZB8.1 hp with rfl |hp
  ·exact fx.1 (ZC8.1 h.1 i hi)
  ·exact LQ h.2 p hp i hi
theorem HQ {bk:List Nat}{σ:Nat→Nat}{τ:St}:∀{l:List fI},CC bk σ τ l=true→∀i,.b i∈l→τ (.b i)≠none
 |[],_,i,hi=>by cases hi
 |q::l,h,i,hi=>by
  simp only [CC,ZA9] at h
  rcases ZB8.1 hi with rfl |hi
  ·intro hn
   have h1:=h.1.1
   rw [hn] at h1
   cases h1
  ·exact HQ h.2 i hi
theorem sq {bk:List Nat}{σ:Nat→Nat}{τ:St}:∀{l:List fI},CC bk σ τ l=true→∀r∈l,(∀av,τ r=some av→∀i∈av.boxes,i∈bk∧σ i=i)∧∀i,r= .b i→σ i=i
 |[],_,r,hr=>by cases hr
 |q::l,h,r,hr=>by
  simp only [CC,ZA9] at h
  rcases ZB8.1 hr with rfl |hr
  ·refine⟨fun av hav i hi=>?_,fun i hi=>?_⟩
   ·have h1:=h.1.1
    rw [hav] at h1
    have h2:=ZC8.1 h1 i hi
    simp only [ZA9] at h2
    exact⟨fx.1 h2.1,by simpa using h2.2⟩
   ·subst hi
    simpa using h.1.2
  ·exact sq h.2 r hr
theorem ze {σ:Nat→Nat}{τ':St}:∀{u:AJ},YO σ τ' u→∀p∈u,(∀n,p.1= .s n→GI (τ' (.s n)) (p.2.lr σ))∧∀n,p.1= .b n→τ' (.b (σ n))=some (p.2.lr σ)
 |[],_,p,hp=>by cases hp
 |(.s m,av)::u,h,p,hp=>by
  rcases ZB8.1 hp with rfl |hp
  ·exact⟨fun n hn=>(by cases hn;exact h.1),fun n hn=>(by cases hn)⟩
  ·exact ze h.2 p hp
 |(.b m,av)::u,h,p,hp=>by
  rcases ZB8.1 hp with rfl |hp
  ·exact⟨fun n hn=>(by cases hn),fun n hn=>(by cases hn;exact h.1)⟩
  ·exact ze h.2 p hp
theorem zf {τ τ':St}:∀{l:List fI},QN τ τ' l→∀r∈l,∀av,τ r=some av→τ' r=some av
 |[],_,r,hr=>by cases hr
 |q::l,h,r,hr=>by
  intro av hav
  simp only [QN] at h
  split at h
  ·rename_i av' hq
   rcases ZB8.1 hr with rfl |hr
   ·rw [hq] at hav;cases hav;exact h.1
   ·exact zf h.2 r hr av hav
  ·rename_i hq
   rcases ZB8.1 hr with rfl |hr
   ·rw [hq] at hav;cases hav
   ·exact zf h r hr av hav
theorem SV.qP {σ:Nat→Nat}{x:SV}(h:∀i∈x.boxes,σ i=i):x.lr σ=x:=by
 cases x<;>simp [SV.lr,SV.boxes] at h ⊢ <;>exact h
theorem QZ {σ:Nat→Nat}:∀{l:List SV},(∀i∈cc l,σ i=i)→BF σ l=l
 |[],_=>rfl
 |x::l,h=>by
  simp only [cc,ZB4] at h
  simp [BF,SV.qP (x:=x) (fun i hi=>h i (.inl hi)),QZ (l:=l) (fun i hi=>h i (.inr hi))]
theorem A0.qP {σ:Nat→Nat}{x:A0}(h:∀i∈x.boxes,σ i=i):x.lr σ=x:=by
 cases x with
 |s x=>simp [A0.lr,SV.qP (x:=x) h]
 |a l=>simp [A0.lr,QZ (l:=l) h]
theorem QY {σ:Nat→Nat}:∀{l:List A0},(∀i∈eR l,σ i=i)→BE σ l=l
 |[],_=>rfl
 |x::l,h=>by
  simp only [eR,ZB4] at h
  simp [BE,A0.qP (x:=x) (fun i hi=>h i (.inl hi)),QY (l:=l) (fun i hi=>h i (.inr hi))]
theorem Q0 {σ:Nat→Nat}:∀{l:List (Nat×Nat)},(∀i∈jF l,σ i=i)→BG σ l=l
 |[],_=>rfl
 |p::l,h=>by
  simp only [jF,ZB8] at h
  simp [BG,h p.1 (.inl rfl),Q0 (l:=l) (fun i hi=>h i (.inr hi))]
theorem AV.qP {σ:Nat→Nat}{x:AV}(h:∀i∈x.boxes,σ i=i):x.lr σ=x:=by
 cases x with
 |fn f l=>simp [AV.lr,Q0 (l:=l) h]
 |o x=>simp [AV.lr,A0.qP (x:=x) h]
 |t l=>simp [AV.lr,QY (l:=l) h]
 |_=>rfl
theorem WZ {bZ:List fI}{r:fI}{av:AV}(h:oI τ bZ r=some av):r∈bZ∧τ r=some av:=by
 unfold oI at h
 cases hk:bZ.any (fI.beq r) with
 |true=>
  rw [hk] at h
  obtain⟨q,hq,e⟩:=List.any_eq_true.1 hk
  have:r=q:=fI.beq_iff.1 e
  exact⟨this ▸ hq,h⟩
 |false=>rw [hk] at h;cases h
theorem F8 {sg:List (Nat×Nat)}{τ':St}{bZ:List fI}{u:AJ}(h:EJ sg τ τ' bZ u):Sub (K7 sg) ((oI τ bZ).ap u) τ':=by
 unfold EJ at h
 split at h
 ·rename_i hc
  simp only [ZA9] at hc
  obtain⟨ak2,akV,hU,hK⟩:=hc
  obtain⟨h1,h2⟩:=h
  have key:∀r av,(oI τ bZ).ap u r=some av→(∃p∈u,p=(r,av))∨(r∈bZ∧τ r=some av):=by
   intro r av hr
   rcases St.AI (τ:=oI τ bZ) (u:=u) (r:=r) with ⟨v,hv,hm⟩ |⟨hv,_⟩
   ·rw [hr] at hv;cases hv;exact .inl ⟨_,hm,rfl⟩
   ·rw [hr] at hv;exact .inr (WZ hv.symm)
  have ahw:∀i,(oI τ bZ).ap u (.b i)≠none→i∈iM u++iN bZ:=by
   intro i hi
   obtain⟨av,hav⟩:=Option.ne_none_iff_exists'.1 hi
   rw [ZB4]
   rcases key _ _ hav with ⟨p,hp,rfl⟩ |⟨hk,_⟩
   ·exact .inl (LS.2 ⟨_,hp,rfl⟩)
   ·exact .inr (LU.2 hk)
  refine⟨fun i av hi=>?_,fun i av hi=>?_,fun r av hr i hi=>?_,fun i j hi hj e=>TB ak2 i (ahw i hi) j (ahw j hj) e,fun i hi=>?_⟩
  ·rcases key _ _ hi with ⟨p,hp,rfl⟩ |⟨hk,ht⟩
   ·exact (ze h1 _ hp).1 i rfl
   ·rw [AV.qP fun j hj=>(((sq hK _ hk).1 av ht) j hj).2,zf h2 _ hk av ht]
    exact UY
  ·rcases key _ _ hi with ⟨p,hp,rfl⟩ |⟨hk,ht⟩
   ·exact (ze h1 _ hp).2 i rfl
   ·rw [AV.qP fun j hj=>(((sq hK _ hk).1 av ht) j hj).2,(sq hK _ hk).2 i rfl]
    exact zf h2 _ hk av ht
  ·have yE:i∈iM u++iN bZ:=by
    rcases key _ _ hr with ⟨p,hp,rfl⟩ |⟨hk,ht⟩
    ·exact LQ hU _ hp i hi
    ·exact (((sq hK _ hk).1 av ht) i hi).1
   rcases ZB4.1 yE with hm |hm
   ·obtain⟨p,hp,e⟩:=LS.1 hm
    intro hn
    rcases St.AI (τ:=oI τ bZ) (u:=u) (r:=.b i) with ⟨v,hv,_⟩ |⟨_,uu⟩
    ·rw [hn] at hv;cases hv
    ·exact uu p hp e
   ·intro hn
    rcases St.AI (τ:=oI τ bZ) (u:=u) (r:=.b i) with ⟨v,hv,_⟩ |⟨hv,uu⟩
    ·rw [hn] at hv;cases hv
    ·rw [hn] at hv
     have hk:=LU.1 hm
     have hx:oI τ bZ (.b i)=τ (.b i):=by
      unfold oI
      have:bZ.any (fI.beq (.b i))=true:=List.any_eq_true.2 ⟨_,hk,fI.UD _⟩
      rw [this];rfl
     rw [hx] at hv
     exact HQ hK i hk hv.symm
  ·have:=ZC8.1 akV i (ahw i hi)
   simp only [Bool.or_eq_true,ZA9] at this
   rcases this with (h3 |h3) |h3
   ·exact .inl (by simpa using h3)
   ·exact .inr (.inl ⟨⟨zqNlb h3.1.1,zqNlb h3.1.2⟩,zqNlb h3.2.1,zqNlb h3.2.2⟩)
   ·exact .inr (.inr (zqNlb h3))
 ·exact h.elim
end
end GL
end Go.Proofs.YtclcgjhhehbdeaaGreatDoor
