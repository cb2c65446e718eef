/- Part 2 of the proof of a drawn law. -/
import Derived.Test.YtnkbdhldiinfdaaGreatDoorPaa
set_option maxHeartbeats 20000000
set_option maxRecDepth 100000
set_option linter.all false
namespace Go.Proofs.YtnkbdhldiinfdaaGreatDoor
namespace GL
def LS (ms:List Nat):List Nat→Nat
 |[]=>0
 |p::ps=>(2 ^ p|||ms.getD p 0)|||LS ms ps
theorem LR {ms:List Nat}{j:Nat}:∀{ps:List Nat},(LS ms ps).testBit j=true→∃p∈ps,p=j∨(ms.getD p 0).testBit j=true
 |[],h=>by simp [LS] at h
 |p::ps,h=>by
  simp only [LS,Nat.testBit_or,Bool.or_eq_true,Nat.testBit_two_pow] at h
  rcases h with (h |h) |h
  ·exact⟨p,by simp,.inl (by simpa using h)⟩
  ·exact⟨p,by simp,.inr h⟩
  ·obtain⟨q,hq,h⟩:=LR h;exact⟨q,by simp [hq],h⟩
def qm:List Oper→List Nat→List Nat
 |[],ms=>ms
 |o::l,ms=>qm l (ms++[LS ms (xx o)])
def KZ:List Oper→Nat→Bool
 |[],_=>true
 |o::l,i=>(xx o).all (λp=>Nat.blt p i)&&KZ l (i+1)
theorem yy:∀(l:List Oper) (ms:List Nat) (i:Nat),i<ms.length→(qm l ms).getD i 0=ms.getD i 0
 |[],_,_,_=>rfl
 |o::l,ms,i,h=>by
  rw [qm,yy l _ i (by simp;omega)]
  simp [ZC2 h]
theorem SU:∀(l:List Oper) (ms:List Nat) (i:Nat) (o:Oper),l[i]?=some o→KZ l ms.length=true→
  ∀j,((qm l ms).getD (ms.length+i) 0).testBit j=true→∃k∈xx o,k=j∨((qm l ms).getD k 0).testBit j=true
 |[],_,i,o,h,_=>by simp at h
 |o'::l,ms,0,o,h,bU=>by
  simp at h;subst h
  intro j hj
  simp only [KZ,ZA9] at bU
  rw [qm,yy l _ _ (by simp)] at hj
  simp at hj
  obtain⟨p,hp,h⟩:=LR hj
  have rT:p<ms.length:=by have:=ZC9.1 bU.1 p hp;simpa using this
  refine⟨p,hp,?_⟩
  rcases h with h |h
  ·exact .inl h
  ·right
   rw [qm,yy l _ p (by simp;omega)]
   simpa [ZC2 rT] using h
 |o'::l,ms,i+1,o,h,bU=>by
  intro j hj
  simp only [KZ,ZA9] at bU
  have:=SU l (ms++[LS ms (xx o')]) i o (by simpa using h) (by simpa using bU.2) j (by
   rw [qm] at hj
   simpa [ZF7,Nat.add_comm 1 i] using hj)
  rw [qm]
  exact this
theorem ZI:∀(l:List Oper) (n i:Nat) (o:Oper),KZ l n=true→l[i]?=some o→∀p∈xx o,p<n+i
 |[],_,i,o,_,h=>by simp at h
 |o'::l,n,0,o,bU,h=>by
  simp at h;subst h
  simp only [KZ,ZA9] at bU
  intro p hp
  have:=ZC9.1 bU.1 p hp
  simpa using this
 |o'::l,n,i+1,o,bU,h=>by
  simp only [KZ,ZA9] at bU
  intro p hp
  have:=ZI l (n+1) i o bU.2 (by simpa using h) p hp
  omega
def aay (ms:List Nat) (i j:Nat):Bool:=(ms.getD i 0).testBit j
theorem air {ops:Array Oper}(h:KZ ops.toList 0=true):Anc ops (aay (qm ops.toList [])) where
 lt:=λi o ho p hp=>by
  have:=ZI ops.toList 0 i o h (by simpa using ho) p hp
  omega
 step:=λi o ho j hj=>by
  have:=SU ops.toList [] i o (by simpa using ho) (by simpa using h) j (by simpa [aay] using hj)
  exact this
abbrev o6:=Exit→St→Prop
def LV (r:Rs) (τ:St) (k:St→Prop):Prop:=match r with
 |.no=>False
 |.go u=>k (τ.ap u)
 |.mZ p u=>p∧k (τ.ap u)
 |.br p b d=>p∧(b=true→k (τ.ap [(.s d,.s (.v (.bool true)))]))∧(b=false→k (τ.ap [(.s d,.s (.v (.bool false)))]))
 |.ex p _ φ u=>p∧∀x,φ x→k (τ.ap (inst x u))
noncomputable def vcT (F:Oper→Q Rs) (l:List Oper) (τ:St) (K:St→Prop):Prop:=
 List.rec (motive:=λ_=>St→Prop) K (λo _ ih τ=>LV ((F o).run τ) τ ih) l τ
theorem acn {F:Oper→Q Rs}{o:Oper}{l:List Oper}{τ:St}{K:St→Prop}:vcT F (o::l) τ K=LV ((F o).run τ) τ (λτ'=>vcT F l τ' K):=rfl
def ahc (A B:List fJ):Bool:=A.all λr=>B.any (fJ.beq r)
theorem QJ {A B:List fJ}(h:ahc A B=true):∀r∈A,r∈B:=λr hr=>by
 have:=ZC9.1 h r hr
 obtain⟨q,hq,e⟩:=List.any_eq_true.1 this
 rw [fJ.beq_iff.1 e];exact hq
def SL (r:Rs) (τ:St) (k:St→Prop):Prop:=match r with
 |.no=>False
 |.go u=>k (τ.ap u)
 |.mZ p u=>p∧k (τ.ap u)
 |.br p b d=>p∧(b=true→k (τ.ap [(.s d,.s (.v (.bool true)))]))∧(b=false→k (τ.ap [(.s d,.s (.v (.bool false)))]))
 |.ex p _ φ u=>p∧(∃x,φ x)∧∀x,φ x→k (τ.ap (inst x u))
def agC (F:Oper→Q Rs) (nk:Nat→Nat→Bool) (o:Oper) (i:Nat) (T:List Tr) (τ:St) (ih:Nat→List Tr→St→Prop):Prop:=
 ∃R W:List fJ,(ahc ((F o).tr τ) R&&ahc ((F o).run τ).dom W)=true∧match jI nk i R W T with
  |false=>False
  |true=>SL ((F o).run τ) τ (ih (i+1) (⟨i,R,W⟩::T))
noncomputable def vcA (F:Oper→Q Rs) (nk:Nat→Nat→Bool) (l:List Oper) (i:Nat) (T:List Tr) (τ:St) (K:St→Prop):Prop:=
 List.rec (motive:=λ_=>Nat→List Tr→St→Prop) (λ_ _ τ=>K τ) (λo _ ih i T τ=>agC F nk o i T τ ih) l i T τ
theorem aco {F:Oper→Q Rs}{nk:Nat→Nat→Bool}{o:Oper}{l:List Oper}{i:Nat}{T:List Tr}{τ:St}{K:St→Prop}:vcA F nk (o::l) i T τ K=agC F nk o i T τ (λi T τ'=>vcA F nk l i T τ' K):=rfl
def agx:List Tr→List Tr→Prop
 |[],[]=>True
 |t::l,s::m=>(t.j=s.j∧(∀r∈t.R,r∈s.R)∧∀r∈t.W,r∈s.W)∧agx l m
 |_,_=>False
theorem JL {x y x' y':List fJ}(h:XX x' y'=true) (hx:∀r∈x,r∈x') (hy:∀r∈y,r∈y'):XX x y=true:=by
 unfold XX
 refine ZC9.2 λr hr=>ZC9.2 λq hq=>?_
 have:=FQ h (hx r hr) (hy q hq)
 rw [fJ.beq_false.2 this];rfl
theorem KG {nk:Nat→Nat→Bool}{i:Nat}{R W R' W':List fJ}(hR:∀r∈R,r∈R') (hW:∀r∈W,r∈W'):∀{T T':List Tr},agx T T'→jI nk i R' W' T'=true→jI nk i R W T=true
 |[],[],_,_=>rfl
 |[],_::_,h,_=>h.elim
 |_::_,[],h,_=>h.elim
 |t::l,s::m,h,h'=>by
  simp only [jI,aee,ZA9] at h' ⊢
  refine⟨?_,KG hR hW h.2 h'.2⟩
  rw [h.1.1]
  cases ha:nk i s.j with
  |true=>rfl
  |false=>
   have h1:=h'.1
   rw [ha] at h1
   simp only [cond_false,indep,ZA9] at h1 ⊢
   exact⟨⟨JL h1.1.1 h.1.2.2 hR,JL h1.1.2 h.1.2.2 hW⟩,JL h1.2 hW h.1.2.1⟩
def lift (N:Nat) (c:Ctx) (Q':o6):Exit→Act→World→Prop:=λe a w=>∃τ,Rel N c τ a w∧Q' e τ
def TW (P:Program) (N:Nat) (cd:Code) (τ:St) (Q':o6):Prop:=∀c a w,Rel N c τ a w→cd.wp P (lift N c Q') a w
def zd (next:St→Prop) (Q':o6):o6:=λe τ=>match e with
 |.normal=>next τ
 |e=>Q' e τ
def IX (id:Nat) (Q':o6):o6:=λe τ=>match e with
 |.exit id'=>bif Nat.beq id' id then Q' .normal τ else Q' (.exit id') τ
 |e=>Q' e τ
abbrev Sm:=Array Oper→Oper→Q Rs
def UP (P:Program) (N:Nat) (S:Sm):Prop:=∀(ops:Array Oper) (i:Nat) (o:Oper),ops[i]?=some o→OpS P N ops o (S ops o)
def vc (P:Program) (N:Nat) (S:Sm):Code→St→o6→Prop
 |.skip,τ,Q'=>Q' .normal τ
 |.region _ ops false,τ,Q'=>vcT (S ops) ops.toList τ (Q' .normal)
 |.region _ ops true,τ,Q'=>match KZ ops.toList 0 with
  |false=>False
  |true=>vcA (S ops) (aay (qm ops.toList [])) ops.toList 0 [] τ (Q' .normal)
 |.seq x y,τ,Q'=>vc P N S x τ (zd (λτ'=>vc P N S y τ' Q') Q')
 |.cond o x y,τ,Q'=>match o with
  |.tmp t=>match τ (.s t) with
   |some (.o (.s (.q b)))=>(b=true→vc P N S x τ Q')∧(b=false→vc P N S y τ Q')
   |some (.o (.s (.v (.bool true))))=>vc P N S x τ Q'
   |some (.o (.s (.v (.bool false))))=>vc P N S y τ Q'
   |_=>False
  |.const (.bool true)=>vc P N S x τ Q'
  |.const (.bool false)=>vc P N S y τ Q'
  |_=>False
 |.block id x,τ,Q'=>vc P N S x τ (IX id Q')
 |.loop x,τ,Q'=>TW P N (.loop x) τ Q'
 |.scope x,τ,Q'=>TW P N (.scope x) τ Q'
 |.exit id,τ,Q'=>Q' (.exit id) τ
 |.label _,τ,Q'=>Q' .normal τ
 |.ret,τ,Q'=>Q' .ret τ
 |_,_,_=>False
section
variable {P:Program}{N:Nat}{τ:St}{Q':o6}{S:Sm}
theorem TW.mono {cd:Code}{Q2:o6}(h:TW P N cd τ Q') (hq:∀e τ,Q' e τ→Q2 e τ):TW P N cd τ Q2:=
 λc a w hr=>Code.wp_mono (λ_ _ _ ⟨τ',uK,hq'⟩=>⟨τ',uK,hq _ _ hq'⟩) (h c a w hr)
theorem TW.seq {x y:Code}(h:TW P N x τ (zd (λτ'=>TW P N y τ' Q') Q')):TW P N (.seq x y) τ Q':=λc a w hr=>by
 refine wp_seq (Code.wp_mono ?_ (h c a w hr))
 rintro e a' w' ⟨τ',uK,hq⟩
 cases e with
 |normal=>exact hq c a' w' uK
 |_=>exact⟨τ',uK,hq⟩
theorem TW.block {id:Nat}{x:Code}(h:TW P N x τ (IX id Q')):TW P N (.block id x) τ Q':=λc a w hr=>by
 refine wp_block (Code.wp_mono ?_ (h c a w hr))
 rintro e a' w' ⟨τ',uK,hq⟩
 cases e with
 |exit id'=>
  simp only [Exit.inBlock]
  simp only [IX] at hq
  split
  ·rename_i e;subst e;simp at hq;exact⟨τ',uK,hq⟩
  ·rename_i e
   have:Nat.beq id' id=false:=by rw [←Bool.not_eq_true];simpa using e
   rw [this] at hq;exact⟨τ',uK,hq⟩
 |_=>exact⟨τ',uK,hq⟩
theorem ag9 {F:Oper→Q Rs}{K:St→Prop}(ops:List Oper):∀(l:List Oper) (k:Nat) (τ:St),ops.drop k=l→vcT F l τ K→aT (λi=>match ops[i]? with
  |some o=>F o
  |none=>.ret .no) (List.range' k l.length) τ K:=by
 intro l
 induction l with
 |nil=>intro k τ _ h;exact h
 |cons o l ih=>
  intro k τ hk h
  have h0:ops[k]?=some o:=by
   have:(ops.drop k)[0]?=some o:=by rw [hk];rfl
   simpa using this
  have hd:ops.drop (k+1)=l:=by
   have:=ZF9 (i:=1) (j:=k) (l:=ops)
   rw [hk] at this
   simpa using this.symm
  simp only [ZA1,List.range'_succ,aT,h0]
  rw [acn] at h
  cases hr:(F o).run τ with
  |no=>rw [hr] at h;exact (h:False).elim
  |go u=>rw [hr] at h;simp only [LV] at h;exact⟨trivial,λv hv=>by cases hv;exact ih (k+1) _ hd h⟩
  |mZ p u=>rw [hr] at h;simp only [LV] at h;exact⟨h.1,λv hv=>by cases hv;exact ih (k+1) _ hd h.2⟩
  |br p b d=>
   rw [hr] at h
   simp only [LV] at h
   refine⟨h.1,λv hv=>?_⟩
   cases hv
   cases b with
   |true=>exact ih (k+1) _ hd (h.2.1 rfl)
   |false=>exact ih (k+1) _ hd (h.2.2 rfl)
  |ex p α φ u=>
   rw [hr] at h
   simp only [LV] at h
   refine⟨h.1,λv hv=>?_⟩
   obtain⟨x,hx,rfl⟩:=hv
   exact ih (k+1) _ hd (h.2 x hx)
theorem aha {F:Oper→Q Rs}{nk:Nat→Nat→Bool}{K:St→Prop}(ops:List Oper):∀(l:List Oper) (k:Nat) (T T':List Tr) (τ:St),agx T T'→ops.drop k=l→vcA F nk l k T' τ K→aL (λi=>match ops[i]? with
  |some o=>F o
  |none=>.ret .no) nk (List.range' k l.length) T τ K:=by
 intro l
 induction l with
 |nil=>intro k T T' τ _ _ h;exact h
 |cons o l ih=>
  intro k T T' τ hT hk h
  have h0:ops[k]?=some o:=by
   have:(ops.drop k)[0]?=some o:=by rw [hk];rfl
   simpa using this
  have hd:ops.drop (k+1)=l:=by
   have:=ZF9 (i:=1) (j:=k) (l:=ops)
   rw [hk] at this
   simpa using this.symm
  simp only [ZA1,List.range'_succ,aL,h0]
  rw [aco] at h
  obtain⟨R,W,hs,h⟩:=h
  simp only [ZA9] at hs
  have hR:=QJ hs.1
  have hW:=QJ hs.2
  split at h
  ·exact h.elim
  ·rename_i hap
   refine⟨KG hR hW hT hap,?_⟩
   have hT':agx (⟨k,(F o).tr τ,((F o).run τ).dom⟩::T) (⟨k,R,W⟩::T'):=⟨⟨rfl,hR,hW⟩,hT⟩
   cases hr:(F o).run τ with
   |no=>rw [hr] at h;exact (h:False).elim
   |go u=>rw [hr] at h hT';simp only [SL] at h;exact⟨trivial,trivial,λv hv=>by cases hv;exact ih (k+1) _ _ _ hT' hd h⟩
   |mZ p u=>rw [hr] at h hT';simp only [SL] at h;exact⟨h.1,trivial,λv hv=>by cases hv;exact ih (k+1) _ _ _ hT' hd h.2⟩
   |br p b d=>
    rw [hr] at h hT'
    simp only [SL] at h
    refine⟨h.1,aa,λv hv=>?_⟩
    cases hv
    cases b with
    |true=>exact ih (k+1) _ _ _ hT' hd (h.2.1 rfl)
    |false=>exact ih (k+1) _ _ _ hT' hd (h.2.2 rfl)
   |ex p α φ u=>
    rw [hr] at h hT'
    simp only [SL] at h
    refine⟨h.1,h.2.1,λv hv=>?_⟩
    obtain⟨x,hx,rfl⟩:=hv
    exact ih (k+1) _ _ _ hT' hd (h.2.2 x hx)
theorem TW.text {id:Nat}{ops:Array Oper}(hS:UP P N S) (hk:vcT (S ops) ops.toList τ (Q' .normal)):TW P N (.region id ops false) τ Q':=λc a w hr=>by
 refine wp_region ?_
 have h1:=ag9 ops.toList ops.toList 0 τ (by simp) hk
 refine UW (F:=λi=>match ops.toList[i]? with
  |some o=>S ops o
  |none=>.ret .no) (λi o ho=>?_) (Q':=lift N c Q') (c:=c) (K:=Q' .normal) (λτ' _ _ hk' uK=>⟨τ',uK,hk'⟩) _ τ a w (λi hi=>by simpa using hi) ?_ hr
 ·have:ops.toList[i]?=some o:=by simpa using ho
  simp only [this]
  exact hS ops i o ho
 ·simpa [List.range_eq_range'] using h1
theorem TW.any {id:Nat}{ops:Array Oper}(hm:P.follows .mixedOrders=true) (hS:UP P N S) (hl:KZ ops.toList 0=true) (hk:vcA (S ops) (aay (qm ops.toList [])) ops.toList 0 [] τ (Q' .normal)):
  TW P N (.region id ops true) τ Q':=λc a w hr=>by
 refine wp_region_any hm ?_
 have h1:=aha ops.toList ops.toList 0 [] [] τ trivial (by simp) hk
 refine acf (F:=λi=>match ops.toList[i]? with
  |some o=>S ops o
  |none=>.ret .no) (λi o ho=>?_) (air hl) (Q':=lift N c Q') (c:=c) (K:=Q' .normal) (λτ' _ _ hk' uK=>⟨τ',uK,hk'⟩) ops.size (Array.replicate ops.size false) τ a _ ?_ (by simp) ?_ ?_ hr.drew
 ·have:ops.toList[i]?=some o:=by simpa using ho
  simp only [this]
  exact hS ops i o ho
 ·rw [Q3];simp
 ·intro i o ho hi
  have:i<ops.size:=(ZF1.1 ho).1
  simp [zO,Array.getD,this] at hi
 ·rw [Q3];simpa [List.range_eq_range'] using h1
theorem BA {c:Ctx}{a:Act}{w:World}{t:Nat}{av:AV}{b:Bool}(hr:Rel N c τ a w) (h:τ (.s t)=some av) (hav:∀T β v,av.rel T β v→v= .bool b):a.eval (.tmp t)= .bool b:=by
 obtain⟨T,β,hh⟩:=hr
 obtain⟨v,hv,c6⟩:=hh.iJ t _ h
 have:v= .bool b:=hav T β v c6
 subst this
 show a.tmps.getD t undef=_
 rw [ZE8,hv];rfl
theorem gp (hm:P.follows .mixedOrders=true) (hS:UP P N S):∀(cd:Code) (τ:St) (Q':o6),vc P N S cd τ Q'→TW P N cd τ Q'
 |.skip,τ,Q',h=>λ_ _ _ hr=>wp_skip ⟨τ,hr,h⟩
 |.region _ ops false,τ,Q',h=>TW.text hS h
 |.region _ ops true,τ,Q',h=>by
  simp only [vc] at h
  split at h
  ·exact h.elim
  ·rename_i hl;exact TW.any hm hS hl h
 |.seq x y,τ,Q',h=>TW.seq ((gp hm hS x τ _ h).mono λe τ' hq=>by
  cases e with
  |normal=>exact gp hm hS y τ' Q' hq
  |_=>exact hq)
 |.cond o x y,τ,Q',h=>by
  intro c a w hr
  simp only [vc] at h
  split at h
  ·rename_i t
   split at h
   ·rename_i b hb
    have hv:=BA (b:=b) hr hb (λ_ _ _ h=>h)
    refine wp_cond hv ?_
    cases b
    ·exact gp hm hS y τ Q' (h.2 rfl) c a w hr
    ·exact gp hm hS x τ Q' (h.1 rfl) c a w hr
   ·rename_i hb
    exact wp_cond (BA (b:=true) hr hb (λ_ _ _ h=>h)) (gp hm hS x τ Q' h c a w hr)
   ·rename_i hb
    exact wp_cond (BA (b:=false) hr hb (λ_ _ _ h=>h)) (gp hm hS y τ Q' h c a w hr)
   ·exact h.elim
  ·exact wp_cond (show a.eval (.const (.bool true))= .bool true from rfl) (gp hm hS x τ Q' h c a w hr)
  ·exact wp_cond (show a.eval (.const (.bool false))= .bool false from rfl) (gp hm hS y τ Q' h c a w hr)
  ·exact h.elim
 |.block id x,τ,Q',h=>TW.block (gp hm hS x τ _ h)
 |.loop x,τ,Q',h=>h
 |.scope x,τ,Q',h=>h
 |.exit id,τ,Q',h=>λ_ _ _ hr=>wp_exit ⟨τ,hr,h⟩
 |.label l,τ,Q',h=>λ_ _ _ hr=>wp_label ⟨τ,hr,h⟩
 |.ret,τ,Q',h=>λ_ _ _ hr=>wp_ret ⟨τ,hr,h⟩
 |.rangeFunc _ _ _ _,_,_,h=>h.elim
 |.goto _,_,_,h=>h.elim
 |.refuse _,_,_,h=>h.elim
def oM (τ:St) (bZ:List fJ):St:=λr=>bif bZ.any (fJ.beq r) then τ r else none
def LD:List (Nat×Nat)→Nat→Nat
 |[],i=>i
 |p::l,i=>bif Nat.beq p.1 i then p.2 else LD l i
def iP:List fJ→List Nat
 |[]=>[]
 |.b i::l=>i::iP l
 |.s _::l=>iP l
def iO:AO→List Nat
 |[]=>[]
 |(.b i,_)::l=>i::iO l
 |(.s _,_)::l=>iO l
def iz (l:List Nat) (i:Nat):Bool:=l.any λj=>Nat.beq j i
def af0 (σ:Nat→Nat):List Nat→Bool
 |[]=>true
 |i::l=>(l.all λj=>Nat.beq j i|| !(Nat.beq (σ j) (σ i)))&&af0 σ l
def akI (σ:Nat→Nat) (l:List Nat):Bool:=l.all λi=>Nat.beq (σ i) i||((Nat.ble 1000 i&&Nat.blt i 1000000000)&&(Nat.ble 1000 (σ i)&&Nat.blt (σ i) 1000000000))||Nat.ble 1000000000 i
def OY (bk:List Nat):AO→Bool
 |[]=>true
 |p::u=>p.2.boxes.all (iz bk)&&OY bk u
def CH (bk:List Nat) (σ:Nat→Nat) (τ:St):List fJ→Bool
 |[]=>true
 |r::l=>(match τ r with
  |some av=>av.boxes.all (λi=>iz bk i&&Nat.beq (σ i) i)
  |none=>match r with
   |.b _=>false
   |.s _=>true)&&(match r with
  |.b i=>Nat.beq (σ i) i
  |.s _=>true)&&CH bk σ τ l
def YU (σ:Nat→Nat) (τ':St):AO→Prop
 |[]=>True
 |(.s n,av)::u=>GO (τ' (.s n)) (av.ly σ)∧YU σ τ' u
 |(.b i,av)::u=>τ' (.b (σ i))=some (av.ly σ)∧YU σ τ' u
def QT (τ τ':St):List fJ→Prop
 |[]=>True
 |r::l=>match τ r with
  |some av=>τ' r=some av∧QT τ τ' l
  |none=>QT τ τ' l
def EO (sg:List (Nat×Nat)) (τ τ':St) (bZ:List fJ) (u:AO):Prop:=
 match af0 (LD sg) (iO u++iP bZ)&&(akI (LD sg) (iO u++iP bZ)&&(OY (iO u++iP bZ) u&&CH (iO u++iP bZ) (LD sg) τ bZ)) with
 |true=>YU (LD sg) τ' u∧QT τ τ' bZ
 |false=>False
theorem fy {l:List Nat}{i:Nat}:iz l i=true↔i∈l:=by
 unfold iz
 rw [List.any_eq_true]
 constructor
 ·rintro⟨j,hj,h⟩
  have:j=i:=by simpa using h
  exact this ▸ hj
 ·intro h;exact⟨i,h,by simp⟩
theorem LZ {u:AO}{i:Nat}:i∈iO u↔∃p∈u,p.1= .b i:=by
 induction u with
 |nil=>simp [iO]
 |cons p u ih=>
  obtain⟨r,av⟩:=p
  cases r with
  |s n=>simp [iO,ih]
  |b n=>simp [iO,ih,eq_comm]
theorem L0 {l:List fJ}{i:Nat}:i∈iP l↔.b i∈l:=by
 induction l with
 |nil=>simp [iP]
 |cons r l ih=>
  cases r with
  |s n=>simp [iP,ih]
  |b n=>simp [iP,ih]
theorem TJ {σ:Nat→Nat}:∀{l:List Nat},af0 σ l=true→∀i∈l,∀j∈l,σ i=σ j→i=j
 |[],_,i,hi,j,hj=>by cases hi
 |k::l,h,i,hi,j,hj=>by
  intro e
  simp only [af0,ZA9] at h
  have key:∀x∈l,σ x=σ k→x=k:=by
   intro x hx he
   have:=ZC9.1 h.1 x hx
   simp only [Bool.or_eq_true] at this
   rcases this with h1 |h1
   ·simpa using h1
   ·rw [he] at h1;simp at h1
  rcases ZB8.1 hi with rfl |CX
  ·rcases ZB8.1 hj with rfl |CW
   ·rfl
   ·exact (key j CW e.symm).symm
  ·rcases ZB8.1 hj with rfl |CW
   ·exact key i CX e
   ·exact TJ h.2 i CX j CW e
theorem LX {bk:List Nat}:∀{u:AO},OY bk u=true→∀p∈u,∀i∈p.2.boxes,i∈bk
 |[],_,p,hp=>by cases hp
 |q::u,h,p,hp=>by
  intro i hi
  simp only [OY,ZA9] at h
  rcases ZB8.1 hp with rfl |hp
  ·exact fy.1 (ZC9.1 h.1 i hi)
  ·exact LX h.2 p hp i hi
theorem HW {bk:List Nat}{σ:Nat→Nat}{τ:St}:∀{l:List fJ},CH bk σ τ l=true→∀i,.b i∈l→τ (.b i)≠none
 |[],_,i,hi=>by cases hi
 |q::l,h,i,hi=>by
  simp only [CH,ZA9] at h
  rcases ZB8.1 hi with rfl |hi
  ·intro hn
   have h1:=h.1.1
   rw [hn] at h1
   cases h1
  ·exact HW h.2 i hi
theorem sw {bk:List Nat}{σ:Nat→Nat}{τ:St}:∀{l:List fJ},CH bk σ τ l=true→∀r∈l,(∀av,τ r=some av→∀i∈av.boxes,i∈bk∧σ i=i)∧∀i,r= .b i→σ i=i
 |[],_,r,hr=>by cases hr
 |q::l,h,r,hr=>by
  simp only [CH,ZA9] at h
  rcases ZB8.1 hr with rfl |hr
  ·refine⟨λav hav i hi=>?_,λi hi=>?_⟩
   ·have h1:=h.1.1
    rw [hav] at h1
    have h2:=ZC9.1 h1 i hi
    simp only [ZA9] at h2
    exact⟨fy.1 h2.1,by simpa using h2.2⟩
   ·subst hi
    simpa using h.1.2
  ·exact sw h.2 r hr
theorem zj {σ:Nat→Nat}{τ':St}:∀{u:AO},YU σ τ' u→∀p∈u,(∀n,p.1= .s n→GO (τ' (.s n)) (p.2.ly σ))∧∀n,p.1= .b n→τ' (.b (σ n))=some (p.2.ly σ)
 |[],_,p,hp=>by cases hp
 |(.s m,av)::u,h,p,hp=>by
  rcases ZB8.1 hp with rfl |hp
  ·exact⟨λn hn=>(by cases hn;exact h.1),λn hn=>(by cases hn)⟩
  ·exact zj h.2 p hp
 |(.b m,av)::u,h,p,hp=>by
  rcases ZB8.1 hp with rfl |hp
  ·exact⟨λn hn=>(by cases hn),λn hn=>(by cases hn;exact h.1)⟩
  ·exact zj h.2 p hp
theorem zk {τ τ':St}:∀{l:List fJ},QT τ τ' l→∀r∈l,∀av,τ r=some av→τ' r=some av
 |[],_,r,hr=>by cases hr
 |q::l,h,r,hr=>by
  intro av hav
  simp only [QT] at h
  split at h
  ·rename_i av' hq
   rcases ZB8.1 hr with rfl |hr
   ·rw [hq] at hav;cases hav;exact h.1
   ·exact zk h.2 r hr av hav
  ·rename_i hq
   rcases ZB8.1 hr with rfl |hr
   ·rw [hq] at hav;cases hav
   ·exact zk h r hr av hav
theorem SV.qT {σ:Nat→Nat}{x:SV}(h:∀i∈x.boxes,σ i=i):x.ly σ=x:=by
 cases x<;>simp [SV.ly,SV.boxes] at h ⊢ <;>exact h
theorem Q6 {σ:Nat→Nat}:∀{l:List SV},(∀i∈cc l,σ i=i)→BL σ l=l
 |[],_=>rfl
 |x::l,h=>by
  simp only [cc,ZB4] at h
  simp [BL,SV.qT (x:=x) (λi hi=>h i (.inl hi)),Q6 (l:=l) (λi hi=>h i (.inr hi))]
theorem A0.qT {σ:Nat→Nat}{x:A0}(h:∀i∈x.boxes,σ i=i):x.ly σ=x:=by
 cases x with
 |s x=>simp [A0.ly,SV.qT (x:=x) h]
 |a l=>simp [A0.ly,Q6 (l:=l) h]
theorem Q5 {σ:Nat→Nat}:∀{l:List A0},(∀i∈eS l,σ i=i)→BJ σ l=l
 |[],_=>rfl
 |x::l,h=>by
  simp only [eS,ZB4] at h
  simp [BJ,A0.qT (x:=x) (λi hi=>h i (.inl hi)),Q5 (l:=l) (λi hi=>h i (.inr hi))]
theorem Q7 {σ:Nat→Nat}:∀{l:List (Nat×Nat)},(∀i∈jH l,σ i=i)→BM σ l=l
 |[],_=>rfl
 |p::l,h=>by
  simp only [jH,ZB8] at h
  simp [BM,h p.1 (.inl rfl),Q7 (l:=l) (λi hi=>h i (.inr hi))]
theorem AV.qT {σ:Nat→Nat}{x:AV}(h:∀i∈x.boxes,σ i=i):x.ly σ=x:=by
 cases x with
 |fn f l=>simp [AV.ly,Q7 (l:=l) h]
 |o x=>simp [AV.ly,A0.qT (x:=x) h]
 |t l=>simp [AV.ly,Q5 (l:=l) h]
 |_=>rfl
theorem W5 {bZ:List fJ}{r:fJ}{av:AV}(h:oM τ bZ r=some av):r∈bZ∧τ r=some av:=by
 unfold oM at h
 cases hk:bZ.any (fJ.beq r) with
 |true=>
  rw [hk] at h
  obtain⟨q,hq,e⟩:=List.any_eq_true.1 hk
  have:r=q:=fJ.beq_iff.1 e
  exact⟨this ▸ hq,h⟩
 |false=>rw [hk] at h;cases h
theorem GD {sg:List (Nat×Nat)}{τ':St}{bZ:List fJ}{u:AO}(h:EO sg τ τ' bZ u):Sub (LD sg) ((oM τ bZ).ap u) τ':=by
 unfold EO at h
 split at h
 ·rename_i hc
  simp only [ZA9] at hc
  obtain⟨alb,ak4,hU,hK⟩:=hc
  obtain⟨h1,h2⟩:=h
  have key:∀r av,(oM τ bZ).ap u r=some av→(∃p∈u,p=(r,av))∨(r∈bZ∧τ r=some av):=by
   intro r av hr
   rcases St.AN (τ:=oM τ bZ) (u:=u) (r:=r) with ⟨v,hv,hm⟩ |⟨hv,_⟩
   ·rw [hr] at hv;cases hv;exact .inl ⟨_,hm,rfl⟩
   ·rw [hr] at hv;exact .inr (W5 hv.symm)
  have ahF:∀i,(oM τ bZ).ap u (.b i)≠none→i∈iO u++iP bZ:=by
   intro i hi
   obtain⟨av,hav⟩:=Option.ne_none_iff_exists'.1 hi
   rw [ZB4]
   rcases key _ _ hav with ⟨p,hp,rfl⟩ |⟨hk,_⟩
   ·exact .inl (LZ.2 ⟨_,hp,rfl⟩)
   ·exact .inr (L0.2 hk)
  refine⟨λi av hi=>?_,λi av hi=>?_,λr av hr i hi=>?_,λi j hi hj e=>TJ alb i (ahF i hi) j (ahF j hj) e,λi hi=>?_⟩
  ·rcases key _ _ hi with ⟨p,hp,rfl⟩ |⟨hk,ht⟩
   ·exact (zj h1 _ hp).1 i rfl
   ·rw [AV.qT λj hj=>(((sw hK _ hk).1 av ht) j hj).2,zk h2 _ hk av ht]
    exact U5
  ·rcases key _ _ hi with ⟨p,hp,rfl⟩ |⟨hk,ht⟩
   ·exact (zj h1 _ hp).2 i rfl
   ·rw [AV.qT λj hj=>(((sw hK _ hk).1 av ht) j hj).2,(sw hK _ hk).2 i rfl]
    exact zk h2 _ hk av ht
  ·have yJ:i∈iO u++iP bZ:=by
    rcases key _ _ hr with ⟨p,hp,rfl⟩ |⟨hk,ht⟩
    ·exact LX hU _ hp i hi
    ·exact (((sw hK _ hk).1 av ht) i hi).1
   rcases ZB4.1 yJ with hm |hm
   ·obtain⟨p,hp,e⟩:=LZ.1 hm
    intro hn
    rcases St.AN (τ:=oM τ bZ) (u:=u) (r:=.b i) with ⟨v,hv,_⟩ |⟨_,uy⟩
    ·rw [hn] at hv;cases hv
    ·exact uy p hp e
   ·intro hn
    rcases St.AN (τ:=oM τ bZ) (u:=u) (r:=.b i) with ⟨v,hv,_⟩ |⟨hv,uy⟩
    ·rw [hn] at hv;cases hv
    ·rw [hn] at hv
     have hk:=L0.1 hm
     have hx:oM τ bZ (.b i)=τ (.b i):=by
      unfold oM
      have:bZ.any (fJ.beq (.b i))=true:=List.any_eq_true.2 ⟨_,hk,fJ.UK _⟩
      rw [this];rfl
     rw [hx] at hv
     exact HW hK i hk hv.symm
  ·have:=ZC9.1 ak4 i (ahF i hi)
   simp only [Bool.or_eq_true,ZA9] at this
   rcases this with (h3 |h3) |h3
   ·exact .inl (by simpa using h3)
   ·exact .inr (.inl ⟨⟨zqNlb h3.1.1,zqNlb h3.1.2⟩,zqNlb h3.2.1,zqNlb h3.2.2⟩)
   ·exact .inr (.inr (zqNlb h3))
 ·exact h.elim
end
end GL
namespace GL
section
variable {P:Program}{N:Nat}{τ:St}{Q':o6}{S:Sm}
theorem TW.ai1 {cd:Code}{ι:Type}(I:ι→St) (φ:ι→Prop) (μ:ι→Nat) (x0:ι) (h0:φ x0) (hs:∃σ,Sub σ (I x0) τ)
  (tL:∀x,φ x→TW P N cd (I x) (zd (λτ'=>∃y,φ y∧μ y < μ x∧∃σ,Sub σ (I y) τ') Q')):TW P N (.loop cd) τ Q':=λc a w hr=>by
 classical
 let J:Act→World→Nat→Prop:=λa w n=>∃x,μ x=n∧φ x∧Rel N c (I x) a w
 let m:Act→World→Nat:=λa w=>if h:∃n,J a w n then Classical.epsilon (λn=>J a w n∧∀k,J a w k→n≤k) else 0
 have hm:∀a w,(∃n,J a w n)→J a w (m a w)∧∀k,J a w k→m a w≤k:=by
  intro a w h
  have hex:∃n,J a w n∧∀k,J a w k→n≤k:=by
   obtain⟨n,hn⟩:=h
   induction n using Nat.strongRecOn with
   |_ n ih=>
    by_cases ahR:∀k,J a w k→n≤k
    ·exact⟨n,hn,ahR⟩
    ·simp only [Classical.not_forall] at ahR
     obtain⟨k,hk,bU⟩:=ahR
     exact ih k (by omega) hk
  have:m a w=Classical.epsilon (λn=>J a w n∧∀k,J a w k→n≤k):=by
   simp only [m];rw [dif_pos h]
  rw [this]
  exact Classical.epsilon_spec hex
 obtain⟨σ0,hs0⟩:=hs
 refine wp_loop (λa w=>∃n,J a w n) m ⟨μ x0,x0,rfl,h0,hr.sub hs0⟩ ?_
 intro a' w' hJ
 obtain⟨⟨x,hx,hφ,c6⟩,_⟩:=hm a' w' hJ
 refine Code.wp_mono ?_ (tL x hφ c a' w' c6)
 rintro e a2 w2 ⟨τ2,hr2,hq⟩
 cases e with
 |normal=>
  obtain⟨y,hy,bU,σ,af3⟩:=hq
  have hJ2:J a2 w2 (μ y):=⟨y,rfl,hy,hr2.sub af3⟩
  exact⟨⟨_,hJ2⟩,by rw [←hx];exact Nat.lt_of_le_of_lt ((hm a2 w2 ⟨_,hJ2⟩).2 _ hJ2) bU⟩
 |_=>exact⟨τ2,hr2,hq⟩
theorem TW.ai2 (hm:P.follows .mixedOrders=true) (hS:UP P N S) {cd:Code}{ι:Type}(bZ:List fJ) (J:ι→AO) (φ:ι→Prop) (μ:ι→Nat) (x0:ι) (sg0:List (Nat×Nat)) (h0:φ x0) (hs:EO sg0 τ τ bZ (J x0))
  (tL:∀x,φ x→vc P N S cd ((oM τ bZ).ap (J x)) (zd (λτ'=>∃y sg,φ y∧μ y < μ x∧EO sg τ τ' bZ (J y)) Q')):TW P N (.loop cd) τ Q':=
 TW.ai1 (λx=>(oM τ bZ).ap (J x)) φ μ x0 h0 ⟨_,GD hs⟩ λx hx=>(gp hm hS _ _ _ (tL x hx)).mono λe τ' hq=>by
  cases e with
  |normal=>
   obtain⟨y,sg,h1,h2,h3⟩:=hq
   exact⟨y,h1,h2,_,GD h3⟩
  |_=>exact hq
theorem TW.agc {cd:Code}(bZ:List fJ) (u:AO) (sg:List (Nat×Nat)) (h:EO sg τ τ bZ u) (hk:TW P N cd ((oM τ bZ).ap u) Q'):TW P N cd τ Q':=λc a w hr=>hk c a w (hr.sub (GD h))
def Sh (P:Program) (t:TypeId):Option (Bool×Nat):=
 match P.underlying t,P.info? t with
 |some (.struct _),some i |some (.array _ _),some i=>some (true,i.size)
 |some _,some i=>some (false,i.size)
 |_,_=>none
theorem jJ {t:TypeId}{b:Bool}{n:Nat}(h:Sh P t=some (b,n)) (w:World):(isAgg t).run P w= .ok b w∧(sizeOf t).run P w= .ok n w:=by
 unfold Sh at h
 cases hu:P.underlying t with
 |none=>rw [hu] at h;simp at h
 |some d=>
  cases hi:P.info? t with
  |none=>rw [hu,hi] at h;cases d<;>simp at h
  |some i=>
   rw [hu,hi] at h
   refine⟨?_,?_⟩
   ·cases d<;>simp at h<;>simp [isAgg,run_underlying hu,h.1]
   ·cases d<;>simp at h<;>simp [sizeOf,typeInfo,hi,h.2]
theorem ur {t:TypeId}{n:Nat}(h:Sh P t=some (true,n)) {w:World}{a:Addr}{cs:List Value}(hn:cs.length=n) (hc:∀j v,cs[j]?=some v→w.cell? (a.add j)=some v):
  (loadVar t a).run P w= .ok (.agg cs.toArray) w:=by
 obtain⟨h1,h2⟩:=jJ h w
 have h3:=run_loadCells_list (P:=P) w a cs hc
 rw [hn] at h3
 simp [loadVar,h1,h2,h3]
theorem uq {t:TypeId}{n:Nat}(h:Sh P t=some (false,n)) {w:World}{a:Addr}{v:Value}(hc:w.cell? a=some v):(loadVar t a).run P w= .ok v w:=by
 obtain⟨h1,_⟩:=jJ h w
 simp [loadVar,h1,hc]
theorem rr {w:World}{b:Nat}{cs:Array Value}{e:TypeId}{fr:Nat×Nat}(h:w.heap[b]?=some (.cells cs e fr)) (o:Nat):w.cell? ⟨b,o,none⟩=cs[o]?:=by simp [World.cell?,h]
theorem ga (b o j:Nat):(⟨b,o,none⟩:Addr).add j=⟨b,o+j,none⟩:=by
 unfold Addr.add
 split
 ·rename_i h;subst h;rfl
 ·rfl
def VM (sh:TypeId→Option (Bool×Nat)) (τ:St):ResultVar→Option A0
 |.tmp t=>match τ (.s t) with
  |some (.o x)=>some x
  |_=>none
 |.cell ad ty=>match τ (.s ad) with
  |some (.o (.s (.bp i 0)))=>match τ (.b i) with
   |some (.o (.a l))=>match sh ty with
    |some (true,n)=>bif Nat.beq n l.length then some (.a l) else none
    |some (false,_)=>match l with
     |[x]=>some (.s x)
     |_=>none
    |none=>none
   |_=>none
  |_=>none
def u9 (tmps:Array Value):ResultVar→Sem Value
 |.tmp t=>pure (tmps.getD t undef)
 |.cell a t=>do loadVar t (←asAddr (tmps.getD a undef))
variable {sh:TypeId→Option (Bool×Nat)}
theorem acK (hsh:∀t x,sh t=some x→Sh P t=some x) {c:Ctx}{T:bb}{β:Nat→Nat}{a:Act}{w:World}(hh:Holds N c T β τ a w) {x:ResultVar}{r:A0}(h:VM sh τ x=some r):∃v,(u9 a.tmps x).run P w= .ok v w∧r.rel T β v:=by
 cases x with
 |tmp t=>
  simp only [VM] at h
  split at h
  ·rename_i y hy
   cases h
   obtain⟨v,hv,hr⟩:=hh.iJ t _ hy
   exact⟨v,by simp [u9,hv],hr⟩
  ·cases h
 |cell ad ty=>
  simp only [VM] at h
  split at h
  ·rename_i i hy
   split at h
   ·rename_i l hl
    obtain⟨v,hv,hr⟩:=hh.iJ ad _ hy
    have uK:v= .pointer (some ⟨β i,0,none⟩):=hr
    subst uK
    obtain⟨cs,e,hb,c6⟩:=hh.boxes i _ hl (by intro e;cases e)
    have vC:dN T β l cs.toList:=c6
    have hlen:=jj vC
    split at h
    ·rename_i n hS
     cases hbq:Nat.beq n l.length with
     |false=>rw [hbq] at h;cases h
     |true=>
      rw [hbq] at h;cases h
      have hn:n=l.length:=by simpa using hbq
      subst hn
      refine⟨.agg cs,?_,cs,ζ,vC⟩
      have:=ur (P:=P) (hsh _ _ hS) (w:=w) (a:=⟨β i,0,none⟩) (cs:=cs.toList) hlen.symm (λj v hj=>by
       rw [ga,rr hb];simpa using hj)
      simpa [u9,hv,asAddr] using this
    ·rename_i n hS
     split at h
     ·rename_i y
      cases h
      obtain⟨v0,hv0,hr0⟩:=qU vC (i:=0) (x:=y) rfl
      refine⟨v0,?_,hr0⟩
      have:=uq (P:=P) (hsh _ _ hS) (w:=w) (a:=⟨β i,0,none⟩) (v:=v0) (by rw [rr hb];simpa using hv0)
      simpa [u9,hv,asAddr] using this
     ·cases h
    ·cases h
   ·cases h
  ·cases h
def N7 (sh:TypeId→Option (Bool×Nat)) (τ:St):List ResultVar→Option (List A0)
 |[]=>some []
 |x::l=>match VM sh τ x,N7 sh τ l with
  |some r,some rs=>some (r::rs)
  |_,_=>none
theorem Q4 (hsh:∀t x,sh t=some x→Sh P t=some x) {c:Ctx}{T:bb}{β:Nat→Nat}{a:Act}{w:World}(hh:Holds N c T β τ a w):∀{l:List ResultVar}{rs:List A0},N7 sh τ l=some rs→∃vs:List Value,(l.mapM (u9 a.tmps)).run P w= .ok vs w∧uD T β rs vs
 |[],rs,h=>by
  simp only [N7] at h;cases h
  exact⟨[],by simp,trivial⟩
 |x::l,rs,h=>by
  simp only [N7] at h
  split at h
  ·rename_i r rs' hr hrs
   cases h
   obtain⟨v,hv,hvr⟩:=acK hsh hh hr
   obtain⟨vs,IY,akN⟩:=Q4 hsh hh hrs
   exact⟨v::vs,by simp [List.mapM_cons,hv,IY],hvr,akN⟩
  ·cases h
def afC (sh:TypeId→Option (Bool×Nat)) (τ:St) (l:List ResultVar):Option AV:=
 match N7 sh τ l with
 |some [x]=>some (.o x)
 |some rs=>some (.t rs)
 |none=>none
theorem acJ (hsh:∀t x,sh t=some x→Sh P t=some x) {c:Ctx}{T:bb}{β:Nat→Nat}{a:Act}{w:World}(hh:Holds N c T β τ a w) {fn:Func}{r:AV}(h:afC sh τ fn.results.toList=some r):∃v,(results fn a.tmps).run P w= .ok v w∧r.rel T β v:=by
 have key:∀rs,N7 sh τ fn.results.toList=some rs→∃vs:List Value,(fn.results.mapM (u9 a.tmps)).run P w= .ok vs.toArray w∧uD T β rs vs:=by
  intro rs hrs
  obtain⟨vs,IY,c6⟩:=Q4 hsh hh hrs
  refine⟨vs,?_,c6⟩
  rw [←Array.toArray_toList (xs:=fn.results),List.mapM_toArray]
  simp [IY]
 have aji:∀vs:Array Value,(fn.results.mapM (u9 a.tmps)).run P w= .ok vs w→(results fn a.tmps).run P w= .ok (if h:vs.size=1 then vs[0] else .tuple vs) w:=by
  intro vs IY
  have e:results fn a.tmps=(do let vs←fn.results.mapM (u9 a.tmps);pure (if h:vs.size=1 then vs[0] else .tuple vs)):=by
   unfold results
   congr 1
  rw [e]
  simp [IY]
 unfold afC at h
 split at h
 ·rename_i x hx
  cases h
  obtain⟨vs,IY,c6⟩:=key _ hx
  match vs,c6 with
  |[v],c6=>exact⟨v,by rw [aji _ IY];simp,c6.1⟩
 ·rename_i rs fA hx
  cases h
  obtain⟨vs,IY,c6⟩:=key _ hx
  refine⟨.tuple vs.toArray,?_,vs.toArray,ζ,by simpa using c6⟩
  rw [aji _ IY]
  have hl:=RC c6
  have:¬(vs.toArray.size=1):=by
   intro h1
   match rs,hl with
   |[x],_=>exact fA x rfl
   |[],hl=>simp at hl h1;omega
   |_::_::_,hl=>simp at hl h1;omega
  rw [dif_neg this]
 ·cases h
def DP (τ:St) (own:List Nat):SV→Option (Prop×SV)
 |.v (.bool b)=>some (True,.q b)
 |.xs i sz o m=>match iz own i with
  |true=>some (True,.xs i sz o m)
  |false=>match τ (.b i) with
   |some (.rs ek l)=>bif Nat.beq ek.length sz&&(Nat.ble 1000 i&&Nat.blt i 1000000000) then some (o+m≤l.length,.vw ek ((l.drop o).take m)) else none
   |_=>none
 |.bp i o=>bif iz own i then some (True,.bp i o) else none
 |.xp i sz k j=>bif iz own i then some (True,.xp i sz k j) else none
 |.vz _ _=>none
 |.vp _ _ _=>none
 |.vs _ _=>none
 |x=>some (True,x)
def xQ (τ:St) (own:List Nat):List SV→Option (Prop×List SV)
 |[]=>some (True,[])
 |x::l=>match DP τ own x,xQ τ own l with
  |some (p,y),some (q,m)=>some (p∧q,y::m)
  |_,_=>none
def uW (τ:St) (own:List Nat):A0→Option (Prop×A0)
 |.s x=>match DP τ own x with
  |some (p,y)=>some (p,.s y)
  |none=>none
 |.a l=>match xQ τ own l with
  |some (p,m)=>some (p,.a m)
  |none=>none
def BB (τ:St) (own:List Nat):List A0→Option (Prop×List A0)
 |[]=>some (True,[])
 |x::l=>match uW τ own x,BB τ own l with
  |some (p,y),some (q,m)=>some (p∧q,y::m)
  |_,_=>none
def xR (τ:St) (own:List Nat):AV→Option (Prop×AV)
 |.o x=>match uW τ own x with
  |some (p,y)=>some (p,.o y)
  |none=>none
 |.t l=>match BB τ own l with
  |some (p,m)=>some (p,.t m)
  |none=>none
 |_=>none
def SV.od:SV→Bool
 |.vz _ _=>false
 |.vp _ _ _=>false
 |.vs _ _=>false
 |_=>true
def zW:List SV→Bool
 |[]=>true
 |x::l=>x.od&&zW l
def A0.od:A0→Bool
 |.s x=>x.od
 |.a l=>zW l
def uB:List A0→Bool
 |[]=>true
 |x::l=>x.od&&uB l
def AV.od:AV→Bool
 |.o x=>x.od
 |.t l=>uB l
 |_=>true
theorem GK {own:List Nat}{x y:SV}{p:Prop}(h:DP τ own x=some (p,y)):y.od=true:=by
 unfold DP at h
 split at h
 ·cases h;rfl
 ·split at h
  ·cases h;rfl
  ·split at h
   ·cases hc:(Nat.beq _ _&&(Nat.ble 1000 _&&Nat.blt _ 1000000000):Bool) with
    |false=>rw [hc] at h;cases h
    |true=>rw [hc] at h;cases h;rfl
   ·cases h
 ·cases hc:iz own _ with
  |false=>rw [hc] at h;cases h
  |true=>rw [hc] at h;cases h;rfl
 ·cases hc:iz own _ with
  |false=>rw [hc] at h;cases h
  |true=>rw [hc] at h;cases h;rfl
 ·cases h
 ·cases h
 ·cases h
 ·rename_i h1 h2 h3 h4 h5 h6
  cases h
  cases x with
  |vz ek l=>exact absurd rfl (h4 ek l)
  |vp ek r j=>exact absurd rfl (h5 ek r j)
  |vs l j=>exact absurd rfl (h6 l j)
  |_=>rfl
theorem uV {own:List Nat}:∀{x y:List SV}{p:Prop},xQ τ own x=some (p,y)→zW y=true
 |[],y,p,h=>by cases h;rfl
 |x::l,y,p,h=>by
  simp only [xQ] at h
  split at h
  ·rename_i h1 h2
   cases h
   simp [zW,GK h1,uV h2]
  ·cases h
theorem DR {own:List Nat}{x y:A0}{p:Prop}(h:uW τ own x=some (p,y)):y.od=true:=by
 cases x with
 |s x=>
  simp only [uW] at h
  split at h
  ·rename_i h1;cases h;exact GK h1
  ·cases h
 |a l=>
  simp only [uW] at h
  split at h
  ·rename_i h1;cases h;exact uV h1
  ·cases h
theorem DQ {own:List Nat}:∀{x y:List A0}{p:Prop},BB τ own x=some (p,y)→uB y=true
 |[],y,p,h=>by cases h;rfl
 |x::l,y,p,h=>by
  simp only [BB] at h
  split at h
  ·rename_i h1 h2
   cases h
   simp [uB,DR h1,DQ h2]
  ·cases h
theorem QS {own:List Nat}{x y:AV}{p:Prop}(h:xR τ own x=some (p,y)):y.od=true:=by
 cases x with
 |o x=>
  simp only [xR] at h
  split at h
  ·rename_i h1;cases h;exact DR h1
  ·cases h
 |t l=>
  simp only [xR] at h
  split at h
  ·rename_i h1;cases h;exact DQ h1
  ·cases h
 |rs ek l=>cases h
 |zz=>cases h
 |fn f l=>cases h
theorem SV.oc {g:Nat→Nat}{x:SV}:(x.ly g).od=x.od:=by cases x<;>rfl
theorem MW {g:Nat→Nat}:∀{l:List SV},zW (BL g l)=zW l
 |[]=>rfl
 |x::l=>by simp [BL,zW,SV.oc,MW (l:=l)]
theorem A0.oc {g:Nat→Nat}{x:A0}:(x.ly g).od=x.od:=by
 cases x with
 |s x=>exact SV.oc
 |a l=>exact MW
theorem MV {g:Nat→Nat}:∀{l:List A0},uB (BJ g l)=uB l
 |[]=>rfl
 |x::l=>by simp [BJ,uB,A0.oc,MV (l:=l)]
theorem AV.oc {g:Nat→Nat}{x:AV}:(x.ly g).od=x.od:=by
 cases x with
 |o x=>exact A0.oc
 |t l=>exact MV
 |_=>rfl
noncomputable def sG (T:bb) (β:Nat→Nat) (τ:St) (W w:World) (own:List Nat):bb:=λb=>
 match T b with
 |some (.bx n)=>open Classical in if W.heap.size≤b∧¬(∃i∈own,live τ i∧β i=b) then (match w.heap[b]? with
  |some (.cells cs e fr)=>some (.ro cs e fr)
  |_=>some (.bx n)) else some (.bx n)
 |k=>k.map BK.un
section
variable {c:Ctx}{T:bb}{β:Nat→Nat}{a:Act}{w:World}{own:List Nat}
theorem aah {W:World}{b n:Nat}{ek:EK}(h:T b=some (.ty ek n)):sG T β τ W w own b=some (.ty ek n):=by
 unfold sG;rw [h];rfl
theorem aai {W:World}{b:Nat}{cs:Array Value}{e:TypeId}{fr:Nat×Nat}(h:T b=some (.ro cs e fr)):sG T β τ W w own b=some (.ro cs e fr):=by
 unfold sG;rw [h];rfl
theorem UD {W:World}{i n:Nat}(h:T (β i)=some (.bx n)) (hi:i∈own) (hl:live τ i):sG T β τ W w own (β i)=some (.bx n):=by
 unfold sG
 rw [h]
 simp only
 rw [if_neg]
 rintro⟨_,h⟩
 exact h ⟨i,hi,hl,rfl⟩
theorem ab6 {W:World}{i n:Nat}{cs:Array Value}{e:TypeId}{fr:Nat×Nat}(hh:Holds N c T β τ a w) (h:T (β i)=some (.bx n)) (hi:i∉own) (hl:live τ i) (hb:w.heap[β i]?=some (.cells cs e fr)) (hW:W.heap.size≤β i):sG T β τ W w own (β i)=some (.ro cs e fr):=by
 unfold sG
 rw [h]
 simp only
 rw [if_pos,hb]
 refine⟨hW,?_⟩
 rintro⟨j,hj,hlj,e⟩
 exact hi (hh.inj j i hlj hl e ▸ hj)
theorem A2 {cs:Array Value}{ek:EK}{l z:List (EK.Ty ek)}(h:cs.toList=flat ek (l++z)) (o m:Nat):win cs (o*ek.length) (flat ek ((l.drop o).take m)):=by
 intro j v hj
 have h1:(flat ek ((l.drop o).take m))[j]?=((flat ek l).drop (o*ek.length))[j]?:=by
  rw [ph,←mX,List.getElem?_take]
  split
  ·rfl
  ·rename_i bU
   exfalso
   have:=(ZC0.1 hj).1
   rw [←mX,ZB9] at this
   omega
 rw [h1,List.getElem?_drop] at hj
 have h2:cs.toList[o*ek.length+j]?=some v:=by
  rw [h,gD]
  exact ZC2 (ZC0.1 hj).1 ▸ hj
 simpa using h2
theorem LG (hh:Holds N c T β τ a w) (oa:∀i∈own,τ (.b i)≠none→live τ i) {x y:SV}{p:Prop}(h:DP τ own x=some (p,y)) (hp:p) {v:Value}(hnm:∀i∈x.boxes,τ (.b i)≠none) (hr:x.rel T β v):y.rel (sG T β τ c.W w own) β v∧∀i∈y.boxes,i∈own:=by
 cases x with
 |v x=>cases x<;>(cases h;exact⟨hr,by simp [SV.boxes]⟩)
 |q b=>cases h;exact⟨hr,by simp [SV.boxes]⟩
 |bp i o=>
  simp only [DP] at h
  cases hm:iz own i with
  |false=>rw [hm] at h;cases h
  |true=>rw [hm] at h;cases h;exact⟨hr,by simp [SV.boxes];exact fy.1 hm⟩
 |xp i sz k j=>
  simp only [DP] at h
  cases hm:iz own i with
  |false=>rw [hm] at h;cases h
  |true=>rw [hm] at h;cases h;exact⟨hr,by simp [SV.boxes];exact fy.1 hm⟩
 |xs i sz o m=>
  simp only [DP] at h
  cases hm:iz own i with
  |true=>
   rw [hm] at h;cases h
   have hi:=fy.1 hm
   refine⟨?_,by simp [SV.boxes];exact hi⟩
   rcases hr with hr |⟨cap,n,h1,h2,h3,h4⟩
   ·exact .inl hr
   ·exact .inr ⟨cap,n,h1,h2,UD h3 hi (oa i hi (hnm i (by simp [SV.boxes]))),h4⟩
  |false=>
   rw [hm] at h
   simp only at h
   split at h
   ·rename_i ek l hb
    cases hc:Nat.beq ek.length sz&&(Nat.ble 1000 i&&Nat.blt i 1000000000) with
    |false=>rw [hc] at h;cases h
    |true=>
     rw [hc] at h;cases h
     simp only [ZA9] at hc
     have dj:ek.length=sz:=by simpa using hc.1
     subst dj
     have ajE:1000≤i:=zqNlb hc.2.1
     have hM:i<1000000000:=zqNlb hc.2.2
     refine⟨?_,by simp [SV.boxes]⟩
     have hlen:((l.drop o).take m).length=m:=by simp;omega
     rcases hr with ⟨rfl,p,e⟩ |⟨cap,n,h1,h2,h3,h4⟩
     ·exact .inl ⟨by simp,p,0,e⟩
     ·have hl:live τ i:=eD hb (by intro e;cases e)
      obtain⟨cs,te,hc1,fA,z,mq,hz⟩:=hh.boxes i _ hb (by intro e;cases e)
      refine .inr ⟨β i,o*ek.length,cap,cs,te,(0,0),by rw [hlen];exact h1,by rw [hlen];exact h2,?_,A2 mq o m⟩
      exact ab6 hh h3 (λhi=>by have:=fy.2 hi;rw [hm] at this;cases this) hl hc1 ((hh.apart i hl).2.2.1 ajE hM)
   ·cases h
 |ep ek j=>cases h;obtain⟨b,o,n,h1,h2,h3⟩:=hr;exact⟨⟨b,o,n,h1,aah h2,h3⟩,by simp [SV.boxes]⟩
 |sl ek len=>
  cases h
  refine⟨?_,by simp [SV.boxes]⟩
  rcases hr with hr |⟨b,o,cap,n,h1,h2,h3,h4⟩
  ·exact .inl hr
  ·exact .inr ⟨b,o,cap,n,h1,h2,aah h3,h4⟩
 |vw ek l=>
  cases h
  refine⟨?_,by simp [SV.boxes]⟩
  rcases hr with hr |⟨b,o,cap,cs,e,fr,h1,h2,h3,h4⟩
  ·exact .inl hr
  ·exact .inr ⟨b,o,cap,cs,e,fr,h1,h2,aai h3,h4⟩
 |vz ek l=>cases h
 |vp ek x j=>cases h
 |vs l j=>cases h
 |er b=>cases h;exact⟨hr,by simp [SV.boxes]⟩
 |e0=>cases h;exact⟨hr,by simp [SV.boxes]⟩
theorem xP (hh:Holds N c T β τ a w) (oa:∀i∈own,τ (.b i)≠none→live τ i):∀{x y:List SV}{p:Prop},xQ τ own x=some (p,y)→p→∀{v:List Value},(∀i∈cc x,τ (.b i)≠none)→dN T β x v→dN (sG T β τ c.W w own) β y v∧∀i∈cc y,i∈own
 |[],y,p,h,hp,v,hnm,hr=>by
  cases h
  cases v with
  |nil=>exact⟨trivial,by simp [cc]⟩
  |cons _ _=>exact hr.elim
 |x::l,y,p,h,hp,v,hnm,hr=>by
  simp only [xQ] at h
  split at h
  ·rename_i p1 y1 q1 m1 h1 h2
   cases h
   cases v with
   |nil=>exact hr.elim
   |cons v vs=>
    simp only [cc,ZB4] at hnm
    have g1:=LG hh oa h1 hp.1 (λi hi=>hnm i (.inl hi)) hr.1
    have g2:=xP hh oa h2 hp.2 (λi hi=>hnm i (.inr hi)) hr.2
    refine⟨⟨g1.1,g2.1⟩,λi hi=>?_⟩
    simp only [cc,ZB4] at hi
    rcases hi with hi |hi
    ·exact g1.2 i hi
    ·exact g2.2 i hi
  ·cases h
theorem GN (hh:Holds N c T β τ a w) (oa:∀i∈own,τ (.b i)≠none→live τ i) {x y:A0}{p:Prop}(h:uW τ own x=some (p,y)) (hp:p) {v:Value}(hnm:∀i∈x.boxes,τ (.b i)≠none) (hr:x.rel T β v):y.rel (sG T β τ c.W w own) β v∧∀i∈y.boxes,i∈own:=by
 cases x with
 |s x=>
  simp only [uW] at h
  split at h
  ·rename_i p1 y1 h1;cases h;exact LG hh oa h1 hp hnm hr
  ·cases h
 |a l=>
  simp only [uW] at h
  split at h
  ·rename_i p1 y1 h1
   cases h
   obtain⟨cs,e,hl⟩:=hr
   have:=xP hh oa h1 hp hnm hl
   exact⟨⟨cs,e,this.1⟩,this.2⟩
  ·cases h
theorem GM (hh:Holds N c T β τ a w) (oa:∀i∈own,τ (.b i)≠none→live τ i):∀{x y:List A0}{p:Prop},BB τ own x=some (p,y)→p→∀{v:List Value},(∀i∈eS x,τ (.b i)≠none)→uD T β x v→uD (sG T β τ c.W w own) β y v∧∀i∈eS y,i∈own
 |[],y,p,h,hp,v,hnm,hr=>by
  cases h
  cases v with
  |nil=>exact⟨trivial,by simp [eS]⟩
  |cons _ _=>exact hr.elim
 |x::l,y,p,h,hp,v,hnm,hr=>by
  simp only [BB] at h
  split at h
  ·rename_i p1 y1 q1 m1 h1 h2
   cases h
   cases v with
   |nil=>exact hr.elim
   |cons v vs=>
    simp only [eS,ZB4] at hnm
    have g1:=GN hh oa h1 hp.1 (λi hi=>hnm i (.inl hi)) hr.1
    have g2:=GM hh oa h2 hp.2 (λi hi=>hnm i (.inr hi)) hr.2
    refine⟨⟨g1.1,g2.1⟩,λi hi=>?_⟩
    simp only [eS,ZB4] at hi
    rcases hi with hi |hi
    ·exact g1.2 i hi
    ·exact g2.2 i hi
  ·cases h
theorem U4 (hh:Holds N c T β τ a w) (oa:∀i∈own,τ (.b i)≠none→live τ i) {x y:AV}{p:Prop}(h:xR τ own x=some (p,y)) (hp:p) {v:Value}(hnm:∀i∈x.boxes,τ (.b i)≠none) (hr:x.rel T β v):y.rel (sG T β τ c.W w own) β v∧∀i∈y.boxes,i∈own:=by
 cases x with
 |o x=>
  simp only [xR] at h
  split at h
  ·rename_i p1 y1 h1;cases h;exact GN hh oa h1 hp hnm hr
  ·cases h
 |t l=>
  simp only [xR] at h
  split at h
  ·rename_i p1 y1 h1
   cases h
   obtain⟨cs,e,hl⟩:=hr
   have:=GM hh oa h1 hp hnm hl
   exact⟨⟨cs,e,this.1⟩,this.2⟩
  ·cases h
 |rs ek l=>cases h
 |zz=>cases h
 |fn f l=>cases h
