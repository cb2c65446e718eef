/- FnTreeOk returns true for every code (its row lists package variables, tied by the card): part 3. -/
import Derived.Test.YtbfgjadbfjkcdaaGreatDoorPab
set_option maxHeartbeats 20000000
set_option linter.all false
namespace Go.Proofs.YtbfgjadbfjkcdaaGreatDoor
namespace GL
def L4 (ms:List Nat):List Nat→Nat
 |[]=>0
 |p::ps=>(2 ^ p|||ms.getD p 0)|||L4 ms ps
theorem L3 {ms:List Nat}{j:Nat}:∀{ps:List Nat},(L4 ms ps).testBit j=true→∃p∈ps,p=j∨(ms.getD p 0).testBit j=true
 |[],h=>by simp [L4] at h
 |p::ps,h=>by
  simp only [L4,Nat.testBit_or,Bool.or_eq_true,Nat.testBit_two_pow] at h
  rcases h with (h |h) |h
  ·exact⟨p,by simp,.inl (by simpa using h)⟩
  ·exact⟨p,by simp,.inr h⟩
  ·obtain⟨q,hq,h⟩:=L3 h;exact⟨q,by simp [hq],h⟩
def qs:List Oper→List Nat→List Nat
 |[],ms=>ms
 |o::l,ms=>qs l (ms++[L4 ms (xG o)])
def LB:List Oper→Nat→Bool
 |[],_=>true
 |o::l,i=>(xG o).all (fun p=>Nat.blt p i)&&LB l (i+1)
theorem abX:∀(l:List Oper) (ms:List Nat),(qs l ms).length=ms.length+l.length
 |[],ms=>by simp [qs]
 |o::l,ms=>by rw [qs,abX l];simp;omega
theorem yI:∀(l:List Oper) (ms:List Nat) (i:Nat),i<ms.length→(qs l ms).getD i 0=ms.getD i 0
 |[],_,_,_=>rfl
 |o::l,ms,i,h=>by
  rw [qs,yI l _ i (by simp;omega)]
  simp [ZC2 h]
theorem TD:∀(l:List Oper) (ms:List Nat) (i:Nat) (o:Oper),l[i]?=some o→LB l ms.length=true→
  ∀j,((qs l ms).getD (ms.length+i) 0).testBit j=true→∃k∈xG o,k=j∨((qs l ms).getD k 0).testBit j=true
 |[],_,i,o,h,_=>by simp at h
 |o'::l,ms,0,o,h,bU=>by
  simp at h;subst h
  intro j hj
  simp only [LB,ZB0] at bU
  rw [qs,yI l _ _ (by simp)] at hj
  simp at hj
  obtain⟨p,hp,h⟩:=L3 hj
  have rY:p<ms.length:=by have:=ZC8.1 bU.1 p hp;simpa using this
  refine⟨p,hp,?_⟩
  rcases h with h |h
  ·exact .inl h
  ·right
   rw [qs,yI l _ p (by simp;omega)]
   simpa [ZC2 rY] using h
 |o'::l,ms,i+1,o,h,bU=>by
  intro j hj
  simp only [LB,ZB0] at bU
  have:=TD l (ms++[L4 ms (xG o')]) i o (by simpa using h) (by simpa using bU.2) j (by
   rw [qs] at hj
   simpa [ZF8,Nat.add_comm 1 i] using hj)
  rw [qs]
  exact this
theorem ZZ:∀(l:List Oper) (n i:Nat) (o:Oper),LB l n=true→l[i]?=some o→∀p∈xG o,p<n+i
 |[],_,i,o,_,h=>by simp at h
 |o'::l,n,0,o,bU,h=>by
  simp at h;subst h
  simp only [LB,ZB0] at bU
  intro p hp
  have:=ZC8.1 bU.1 p hp
  simpa using this
 |o'::l,n,i+1,o,bU,h=>by
  simp only [LB,ZB0] at bU
  intro p hp
  have:=ZZ l (n+1) i o bU.2 (by simpa using h) p hp
  omega
def aaP (ms:List Nat) (i j:Nat):Bool:=(ms.getD i 0).testBit j
theorem aiK {ops:Array Oper}(h:LB ops.toList 0=true):Anc ops (aaP (qs ops.toList [])) where
 lt:=fun i o ho p hp=>by
  have:=ZZ ops.toList 0 i o h (by simpa using ho) p hp
  omega
 step:=fun i o ho j hj=>by
  have:=TD ops.toList [] i o (by simpa using ho) (by simpa using h) j (by simpa [aaP] using hj)
  exact this
abbrev pb:=Exit→St→Prop
def L6 (r:Rs) (τ:St) (k:St→Prop):Prop:=match r with
 |.no=>False
 |.go u=>k (τ.ap u)
 |.nk p u=>p∧k (τ.ap u)
 |.br p b d=>p∧(b=true→k (τ.ap [(.s d,.s (.v (.bool true)))]))∧(b=false→k (τ.ap [(.s d,.s (.v (.bool false)))]))
 |.ex p _ φ u=>p∧∀x,φ x→k (τ.ap (inst x u))
noncomputable def vcT (F:Oper→Q Rs) (l:List Oper) (τ:St) (K:St→Prop):Prop:=
 List.rec (motive:=fun _=>St→Prop) K (fun o _ ih τ=>L6 ((F o).run τ) τ ih) l τ
theorem acH {F:Oper→Q Rs}{o:Oper}{l:List Oper}{τ:St}{K:St→Prop}:vcT F (o::l) τ K=L6 ((F o).run τ) τ (fun τ'=>vcT F l τ' K):=rfl
def ahw (A B:List fK):Bool:=A.all fun r=>B.any (fK.beq r)
theorem QY {A B:List fK}(h:ahw A B=true):∀r∈A,r∈B:=fun r hr=>by
 have:=ZC8.1 h r hr
 obtain⟨q,hq,e⟩:=List.any_eq_true.1 this
 rw [fK.beq_iff.1 e];exact hq
def S4 (r:Rs) (τ:St) (k:St→Prop):Prop:=match r with
 |.no=>False
 |.go u=>k (τ.ap u)
 |.nk p u=>p∧k (τ.ap u)
 |.br p b d=>p∧(b=true→k (τ.ap [(.s d,.s (.v (.bool true)))]))∧(b=false→k (τ.ap [(.s d,.s (.v (.bool false)))]))
 |.ex p _ φ u=>p∧(∃x,φ x)∧∀x,φ x→k (τ.ap (inst x u))
def agW (F:Oper→Q Rs) (nv:Nat→Nat→Bool) (o:Oper) (i:Nat) (T:List Tr) (τ:St) (ih:Nat→List Tr→St→Prop):Prop:=
 ∃R W:List fK,(ahw ((F o).tr τ) R&&ahw ((F o).run τ).dom W)=true∧match jK nv i R W T with
  |false=>False
  |true=>S4 ((F o).run τ) τ (ih (i+1) (⟨i,R,W⟩::T))
noncomputable def vcA (F:Oper→Q Rs) (nv:Nat→Nat→Bool) (l:List Oper) (i:Nat) (T:List Tr) (τ:St) (K:St→Prop):Prop:=
 List.rec (motive:=fun _=>Nat→List Tr→St→Prop) (fun _ _ τ=>K τ) (fun o _ ih i T τ=>agW F nv o i T τ ih) l i T τ
theorem acI {F:Oper→Q Rs}{nv:Nat→Nat→Bool}{o:Oper}{l:List Oper}{i:Nat}{T:List Tr}{τ:St}{K:St→Prop}:vcA F nv (o::l) i T τ K=agW F nv o i T τ (fun i T τ'=>vcA F nv l i T τ' K):=rfl
def agR:List Tr→List Tr→Prop
 |[],[]=>True
 |t::l,s::m=>(t.j=s.j∧(∀r∈t.R,r∈s.R)∧∀r∈t.W,r∈s.W)∧agR l m
 |_,_=>False
theorem JV {x y x' y':List fK}(h:YF x' y'=true) (hx:∀r∈x,r∈x') (hy:∀r∈y,r∈y'):YF x y=true:=by
 unfold YF
 refine ZC8.2 fun r hr=>ZC8.2 fun q hq=>?_
 have:=F2 h (hx r hr) (hy q hq)
 rw [fK.beq_false.2 this];rfl
theorem KR {nv:Nat→Nat→Bool}{i:Nat}{R W R' W':List fK}(hR:∀r∈R,r∈R') (hW:∀r∈W,r∈W'):∀{T T':List Tr},agR T T'→jK nv i R' W' T'=true→jK nv i R W T=true
 |[],[],_,_=>rfl
 |[],_::_,h,_=>h.elim
 |_::_,[],h,_=>h.elim
 |t::l,s::m,h,h'=>by
  simp only [jK,aey,ZB0] at h' ⊢
  refine⟨?_,KR hR hW h.2 h'.2⟩
  rw [h.1.1]
  cases ha:nv i s.j with
  |true=>rfl
  |false=>
   have h1:=h'.1
   rw [ha] at h1
   simp only [cond_false,indep,ZB0] at h1 ⊢
   exact⟨⟨JV h1.1.1 h.1.2.2 hR,JV h1.1.2 h.1.2.2 hW⟩,JV h1.2 hW h.1.2.1⟩
def lift (N:Nat) (c:Ctx) (Q':pb):Exit→Act→World→Prop:=fun e a w=>∃τ,Rel N c τ a w∧Q' e τ
def TW (P:Program) (N:Nat) (cd:Code) (τ:St) (Q':pb):Prop:=∀c a w,Rel N c τ a w→cd.wp P (lift N c Q') a w
def zp (next:St→Prop) (Q':pb):pb:=fun e τ=>match e with
 |.normal=>next τ
 |e=>Q' e τ
def I7 (id:Nat) (Q':pb):pb:=fun e τ=>match e with
 |.exit id'=>bif Nat.beq id' id then Q' .normal τ else Q' (.exit id') τ
 |e=>Q' e τ
abbrev Sm:=Array Oper→Oper→Q Rs
def U5 (P:Program) (N:Nat) (S:Sm):Prop:=∀(ops:Array Oper) (i:Nat) (o:Oper),ops[i]?=some o→OpS P N ops o (S ops o)
def vc (P:Program) (N:Nat) (S:Sm):Code→St→pb→Prop
 |.skip,τ,Q'=>Q' .normal τ
 |.region _ ops false,τ,Q'=>vcT (S ops) ops.toList τ (Q' .normal)
 |.region _ ops true,τ,Q'=>match LB ops.toList 0 with
  |false=>False
  |true=>vcA (S ops) (aaP (qs ops.toList [])) ops.toList 0 [] τ (Q' .normal)
 |.seq x y,τ,Q'=>vc P N S x τ (zp (fun τ'=>vc P N S y τ' Q') Q')
 |.cond o x y,τ,Q'=>match o with
  |.tmp t=>match τ (.s t) with
   |some (.o (.s (.q b)))=>(b=true→vc P N S x τ Q')∧(b=false→vc P N S y τ Q')
   |some (.o (.s (.v (.bool true))))=>vc P N S x τ Q'
   |some (.o (.s (.v (.bool false))))=>vc P N S y τ Q'
   |_=>False
  |.const (.bool true)=>vc P N S x τ Q'
  |.const (.bool false)=>vc P N S y τ Q'
  |_=>False
 |.block id x,τ,Q'=>vc P N S x τ (I7 id Q')
 |.loop x,τ,Q'=>TW P N (.loop x) τ Q'
 |.scope x,τ,Q'=>TW P N (.scope x) τ Q'
 |.exit id,τ,Q'=>Q' (.exit id) τ
 |.label _,τ,Q'=>Q' .normal τ
 |.ret,τ,Q'=>Q' .ret τ
 |_,_,_=>False
section
variable {P:Program}{N:Nat}{τ:St}{Q':pb}{S:Sm}
theorem TW.mono {cd:Code}{Q2:pb}(h:TW P N cd τ Q') (hq:∀e τ,Q' e τ→Q2 e τ):TW P N cd τ Q2:=
 fun c a w hr=>Code.wp_mono (fun _ _ _ ⟨τ',uP,hq'⟩=>⟨τ',uP,hq _ _ hq'⟩) (h c a w hr)
theorem TW.seq {x y:Code}(h:TW P N x τ (zp (fun τ'=>TW P N y τ' Q') Q')):TW P N (.seq x y) τ Q':=fun c a w hr=>by
 refine wp_seq (Code.wp_mono ?_ (h c a w hr))
 rintro e a' w' ⟨τ',uP,hq⟩
 cases e with
 |normal=>exact hq c a' w' uP
 |_=>exact⟨τ',uP,hq⟩
theorem TW.block {id:Nat}{x:Code}(h:TW P N x τ (I7 id Q')):TW P N (.block id x) τ Q':=fun c a w hr=>by
 refine wp_block (Code.wp_mono ?_ (h c a w hr))
 rintro e a' w' ⟨τ',uP,hq⟩
 cases e with
 |exit id'=>
  simp only [Exit.inBlock]
  simp only [I7] at hq
  split
  ·rename_i e;subst e;simp at hq;exact⟨τ',uP,hq⟩
  ·rename_i e
   have:Nat.beq id' id=false:=by rw [←Bool.not_eq_true];simpa using e
   rw [this] at hq;exact⟨τ',uP,hq⟩
 |_=>exact⟨τ',uP,hq⟩
theorem aht {F:Oper→Q Rs}{K:St→Prop}(ops:List Oper):∀(l:List Oper) (k:Nat) (τ:St),ops.drop k=l→vcT F l τ K→aT (fun i=>match ops[i]? with
  |some o=>F o
  |none=>.ret .no) (List.range' k l.length) τ K:=by
 intro l
 induction l with
 |nil=>intro k τ _ h;exact h
 |cons o l ih=>
  intro k τ hk h
  have h0:ops[k]?=some o:=by
   have:(ops.drop k)[0]?=some o:=by rw [hk];rfl
   simpa using this
  have hd:ops.drop (k+1)=l:=by
   have:=List.drop_drop (i:=1) (j:=k) (l:=ops)
   rw [hk] at this
   simpa using this.symm
  simp only [ZA1,List.range'_succ,aT,h0]
  rw [acH] at h
  cases hr:(F o).run τ with
  |no=>rw [hr] at h;exact (h:False).elim
  |go u=>rw [hr] at h;simp only [L6] at h;exact⟨trivial,fun v hv=>by cases hv;exact ih (k+1) _ hd h⟩
  |nk p u=>rw [hr] at h;simp only [L6] at h;exact⟨h.1,fun v hv=>by cases hv;exact ih (k+1) _ hd h.2⟩
  |br p b d=>
   rw [hr] at h
   simp only [L6] at h
   refine⟨h.1,fun v hv=>?_⟩
   cases hv
   cases b with
   |true=>exact ih (k+1) _ hd (h.2.1 rfl)
   |false=>exact ih (k+1) _ hd (h.2.2 rfl)
  |ex p α φ u=>
   rw [hr] at h
   simp only [L6] at h
   refine⟨h.1,fun v hv=>?_⟩
   obtain⟨x,hx,rfl⟩:=hv
   exact ih (k+1) _ hd (h.2 x hx)
theorem ahu {F:Oper→Q Rs}{nv:Nat→Nat→Bool}{K:St→Prop}(ops:List Oper):∀(l:List Oper) (k:Nat) (T T':List Tr) (τ:St),agR T T'→ops.drop k=l→vcA F nv l k T' τ K→aL (fun i=>match ops[i]? with
  |some o=>F o
  |none=>.ret .no) nv (List.range' k l.length) T τ K:=by
 intro l
 induction l with
 |nil=>intro k T T' τ _ _ h;exact h
 |cons o l ih=>
  intro k T T' τ hT hk h
  have h0:ops[k]?=some o:=by
   have:(ops.drop k)[0]?=some o:=by rw [hk];rfl
   simpa using this
  have hd:ops.drop (k+1)=l:=by
   have:=List.drop_drop (i:=1) (j:=k) (l:=ops)
   rw [hk] at this
   simpa using this.symm
  simp only [ZA1,List.range'_succ,aL,h0]
  rw [acI] at h
  obtain⟨R,W,hs,h⟩:=h
  simp only [ZB0] at hs
  have hR:=QY hs.1
  have hW:=QY hs.2
  split at h
  ·exact h.elim
  ·rename_i hap
   refine⟨KR hR hW hT hap,?_⟩
   have hT':agR (⟨k,(F o).tr τ,((F o).run τ).dom⟩::T) (⟨k,R,W⟩::T'):=⟨⟨rfl,hR,hW⟩,hT⟩
   cases hr:(F o).run τ with
   |no=>rw [hr] at h;exact (h:False).elim
   |go u=>rw [hr] at h hT';simp only [S4] at h;exact⟨trivial,trivial,fun v hv=>by cases hv;exact ih (k+1) _ _ _ hT' hd h⟩
   |nk p u=>rw [hr] at h hT';simp only [S4] at h;exact⟨h.1,trivial,fun v hv=>by cases hv;exact ih (k+1) _ _ _ hT' hd h.2⟩
   |br p b d=>
    rw [hr] at h hT'
    simp only [S4] at h
    refine⟨h.1,aa,fun v hv=>?_⟩
    cases hv
    cases b with
    |true=>exact ih (k+1) _ _ _ hT' hd (h.2.1 rfl)
    |false=>exact ih (k+1) _ _ _ hT' hd (h.2.2 rfl)
   |ex p α φ u=>
    rw [hr] at h hT'
    simp only [S4] at h
    refine⟨h.1,h.2.1,fun v hv=>?_⟩
    obtain⟨x,hx,rfl⟩:=hv
    exact ih (k+1) _ _ _ hT' hd (h.2.2 x hx)
theorem TW.text {id:Nat}{ops:Array Oper}(hS:U5 P N S) (hk:vcT (S ops) ops.toList τ (Q' .normal)):TW P N (.region id ops false) τ Q':=fun c a w hr=>by
 refine wp_region ?_
 have h1:=aht ops.toList ops.toList 0 τ (by simp) hk
 refine VC (F:=fun i=>match ops.toList[i]? with
  |some o=>S ops o
  |none=>.ret .no) (fun i o ho=>?_) (Q':=lift N c Q') (c:=c) (K:=Q' .normal) (fun τ' _ _ hk' uP=>⟨τ',uP,hk'⟩) _ τ a w (fun i hi=>by simpa using hi) ?_ hr
 ·have:ops.toList[i]?=some o:=by simpa using ho
  simp only [this]
  exact hS ops i o ho
 ·simpa [List.range_eq_range'] using h1
theorem TW.any {id:Nat}{ops:Array Oper}(hm:P.follows .mixedOrders=true) (hS:U5 P N S) (hl:LB ops.toList 0=true) (hk:vcA (S ops) (aaP (qs ops.toList [])) ops.toList 0 [] τ (Q' .normal)):
  TW P N (.region id ops true) τ Q':=fun c a w hr=>by
 refine wp_region_any hm ?_
 have h1:=ahu ops.toList ops.toList 0 [] [] τ trivial (by simp) hk
 refine acA (F:=fun i=>match ops.toList[i]? with
  |some o=>S ops o
  |none=>.ret .no) (fun i o ho=>?_) (aiK hl) (Q':=lift N c Q') (c:=c) (K:=Q' .normal) (fun τ' _ _ hk' uP=>⟨τ',uP,hk'⟩) ops.size (Array.replicate ops.size false) τ a _ ?_ (by simp) ?_ ?_ hr.drew
 ·have:ops.toList[i]?=some o:=by simpa using ho
  simp only [this]
  exact hS ops i o ho
 ·rw [RI];simp
 ·intro i o ho hi
  have:i<ops.size:=(ZF2.1 ho).1
  simp [zY,Array.getD,this] at hi
 ·rw [RI];simpa [List.range_eq_range'] using h1
theorem BF {c:Ctx}{a:Act}{w:World}{t:Nat}{av:AV}{b:Bool}(hr:Rel N c τ a w) (h:τ (.s t)=some av) (hav:∀T β v,av.rel T β v→v= .bool b):a.eval (.tmp t)= .bool b:=by
 obtain⟨T,β,hh⟩:=hr
 obtain⟨v,hv,c7⟩:=hh.iL t _ h
 have:v= .bool b:=hav T β v c7
 subst this
 show a.tmps.getD t undef=_
 rw [ZE9,hv];rfl
theorem gr (hm:P.follows .mixedOrders=true) (hS:U5 P N S):∀(cd:Code) (τ:St) (Q':pb),vc P N S cd τ Q'→TW P N cd τ Q'
 |.skip,τ,Q',h=>fun _ _ _ hr=>wp_skip ⟨τ,hr,h⟩
 |.region _ ops false,τ,Q',h=>TW.text hS h
 |.region _ ops true,τ,Q',h=>by
  simp only [vc] at h
  split at h
  ·exact h.elim
  ·rename_i hl;exact TW.any hm hS hl h
 |.seq x y,τ,Q',h=>TW.seq ((gr hm hS x τ _ h).mono fun e τ' hq=>by
  cases e with
  |normal=>exact gr hm hS y τ' Q' hq
  |_=>exact hq)
 |.cond o x y,τ,Q',h=>by
  intro c a w hr
  simp only [vc] at h
  split at h
  ·rename_i t
   split at h
   ·rename_i b hb
    have hv:=BF (b:=b) hr hb (fun _ _ _ h=>h)
    refine wp_cond hv ?_
    cases b
    ·exact gr hm hS y τ Q' (h.2 rfl) c a w hr
    ·exact gr hm hS x τ Q' (h.1 rfl) c a w hr
   ·rename_i hb
    exact wp_cond (BF (b:=true) hr hb (fun _ _ _ h=>h)) (gr hm hS x τ Q' h c a w hr)
   ·rename_i hb
    exact wp_cond (BF (b:=false) hr hb (fun _ _ _ h=>h)) (gr hm hS y τ Q' h c a w hr)
   ·exact h.elim
  ·exact wp_cond (show a.eval (.const (.bool true))= .bool true from rfl) (gr hm hS x τ Q' h c a w hr)
  ·exact wp_cond (show a.eval (.const (.bool false))= .bool false from rfl) (gr hm hS y τ Q' h c a w hr)
  ·exact h.elim
 |.block id x,τ,Q',h=>TW.block (gr hm hS x τ _ h)
 |.loop x,τ,Q',h=>h
 |.scope x,τ,Q',h=>h
 |.exit id,τ,Q',h=>fun _ _ _ hr=>wp_exit ⟨τ,hr,h⟩
 |.label l,τ,Q',h=>fun _ _ _ hr=>wp_label ⟨τ,hr,h⟩
 |.ret,τ,Q',h=>fun _ _ _ hr=>wp_ret ⟨τ,hr,h⟩
 |.rangeFunc _ _ _ _,_,_,h=>h.elim
 |.goto _,_,_,h=>h.elim
 |.refuse _,_,_,h=>h.elim
def oR (τ:St) (bY:List fK):St:=fun r=>bif bY.any (fK.beq r) then τ r else none
def LP:List (Nat×Nat)→Nat→Nat
 |[],i=>i
 |p::l,i=>bif Nat.beq p.1 i then p.2 else LP l i
def iR:List fK→List Nat
 |[]=>[]
 |.b i::l=>i::iR l
 |.s _::l=>iR l
def iQ:AX→List Nat
 |[]=>[]
 |(.b i,_)::l=>i::iQ l
 |(.s _,_)::l=>iQ l
def iz (l:List Nat) (i:Nat):Bool:=l.any fun j=>Nat.beq j i
def agj (σ:Nat→Nat):List Nat→Bool
 |[]=>true
 |i::l=>(l.all fun j=>Nat.beq j i|| !(Nat.beq (σ j) (σ i)))&&agj σ l
def akZ (σ:Nat→Nat) (l:List Nat):Bool:=l.all fun i=>Nat.beq (σ i) i||((Nat.ble 1000 i&&Nat.blt i 1000000000)&&(Nat.ble 1000 (σ i)&&Nat.blt (σ i) 1000000000))||Nat.ble 1000000000 i
def PB (bk:List Nat):AX→Bool
 |[]=>true
 |p::u=>p.2.boxes.all (iz bk)&&PB bk u
def CM (bk:List Nat) (σ:Nat→Nat) (τ:St):List fK→Bool
 |[]=>true
 |r::l=>(match τ r with
  |some av=>av.boxes.all (fun i=>iz bk i&&Nat.beq (σ i) i)
  |none=>match r with
   |.b _=>false
   |.s _=>true)&&(match r with
  |.b i=>Nat.beq (σ i) i
  |.s _=>true)&&CM bk σ τ l
def ZD (σ:Nat→Nat) (τ':St):AX→Prop
 |[]=>True
 |(.s n,av)::u=>G0 (τ' (.s n)) (av.lF σ)∧ZD σ τ' u
 |(.b i,av)::u=>τ' (.b (σ i))=some (av.lF σ)∧ZD σ τ' u
def Q9 (τ τ':St):List fK→Prop
 |[]=>True
 |r::l=>match τ r with
  |some av=>τ' r=some av∧Q9 τ τ' l
  |none=>Q9 τ τ' l
def E2 (sg:List (Nat×Nat)) (τ τ':St) (bY:List fK) (u:AX):Prop:=
 match agj (LP sg) (iQ u++iR bY)&&(akZ (LP sg) (iQ u++iR bY)&&(PB (iQ u++iR bY) u&&CM (iQ u++iR bY) (LP sg) τ bY)) with
 |true=>ZD (LP sg) τ' u∧Q9 τ τ' bY
 |false=>False
theorem fA {l:List Nat}{i:Nat}:iz l i=true↔i∈l:=by
 unfold iz
 rw [List.any_eq_true]
 constructor
 ·rintro⟨j,hj,h⟩
  have:j=i:=by simpa using h
  exact this ▸ hj
 ·intro h;exact⟨i,h,by simp⟩
theorem MA {u:AX}{i:Nat}:i∈iQ u↔∃p∈u,p.1= .b i:=by
 induction u with
 |nil=>simp [iQ]
 |cons p u ih=>
  obtain⟨r,av⟩:=p
  cases r with
  |s n=>simp [iQ,ih]
  |b n=>simp [iQ,ih,eq_comm]
theorem MB {l:List fK}{i:Nat}:i∈iR l↔.b i∈l:=by
 induction l with
 |nil=>simp [iR]
 |cons r l ih=>
  cases r with
  |s n=>simp [iR,ih]
  |b n=>simp [iR,ih]
theorem T1 {σ:Nat→Nat}:∀{l:List Nat},agj σ l=true→∀i∈l,∀j∈l,σ i=σ j→i=j
 |[],_,i,hi,j,hj=>by cases hi
 |k::l,h,i,hi,j,hj=>by
  intro e
  simp only [agj,ZB0] at h
  have key:∀x∈l,σ x=σ k→x=k:=by
   intro x hx he
   have:=ZC8.1 h.1 x hx
   simp only [Bool.or_eq_true] at this
   rcases this with h1 |h1
   ·simpa using h1
   ·rw [he] at h1;simp at h1
  rcases ZB9.1 hi with rfl |C3
  ·rcases ZB9.1 hj with rfl |C2
   ·rfl
   ·exact (key j C2 e.symm).symm
  ·rcases ZB9.1 hj with rfl |C2
   ·exact key i C3 e
   ·exact T1 h.2 i C3 j C2 e
theorem L8 {bk:List Nat}:∀{u:AX},PB bk u=true→∀p∈u,∀i∈p.2.boxes,i∈bk
 |[],_,p,hp=>by cases hp
 |q::u,h,p,hp=>by
  intro i hi
  simp only [PB,ZB0] at h
  rcases ZB9.1 hp with rfl |hp
  ·exact fA.1 (ZC8.1 h.1 i hi)
  ·exact L8 h.2 p hp i hi
theorem H7 {bk:List Nat}{σ:Nat→Nat}{τ:St}:∀{l:List fK},CM bk σ τ l=true→∀i,.b i∈l→τ (.b i)≠none
 |[],_,i,hi=>by cases hi
 |q::l,h,i,hi=>by
  simp only [CM,ZB0] at h
  rcases ZB9.1 hi with rfl |hi
  ·intro hn
   have h1:=h.1.1
   rw [hn] at h1
   cases h1
  ·exact H7 h.2 i hi
theorem sD {bk:List Nat}{σ:Nat→Nat}{τ:St}:∀{l:List fK},CM bk σ τ l=true→∀r∈l,(∀av,τ r=some av→∀i∈av.boxes,i∈bk∧σ i=i)∧∀i,r= .b i→σ i=i
 |[],_,r,hr=>by cases hr
 |q::l,h,r,hr=>by
  simp only [CM,ZB0] at h
  rcases ZB9.1 hr with rfl |hr
  ·refine⟨fun av hav i hi=>?_,fun i hi=>?_⟩
   ·have h1:=h.1.1
    rw [hav] at h1
    have h2:=ZC8.1 h1 i hi
    simp only [ZB0] at h2
    exact⟨fA.1 h2.1,by simpa using h2.2⟩
   ·subst hi
    simpa using h.1.2
  ·exact sD h.2 r hr
theorem zw {σ:Nat→Nat}{τ':St}:∀{u:AX},ZD σ τ' u→∀p∈u,(∀n,p.1= .s n→G0 (τ' (.s n)) (p.2.lF σ))∧∀n,p.1= .b n→τ' (.b (σ n))=some (p.2.lF σ)
 |[],_,p,hp=>by cases hp
 |(.s m,av)::u,h,p,hp=>by
  rcases ZB9.1 hp with rfl |hp
  ·exact⟨fun n hn=>(by cases hn;exact h.1),fun n hn=>(by cases hn)⟩
  ·exact zw h.2 p hp
 |(.b m,av)::u,h,p,hp=>by
  rcases ZB9.1 hp with rfl |hp
  ·exact⟨fun n hn=>(by cases hn),fun n hn=>(by cases hn;exact h.1)⟩
  ·exact zw h.2 p hp
theorem zx {τ τ':St}:∀{l:List fK},Q9 τ τ' l→∀r∈l,∀av,τ r=some av→τ' r=some av
 |[],_,r,hr=>by cases hr
 |q::l,h,r,hr=>by
  intro av hav
  simp only [Q9] at h
  split at h
  ·rename_i av' hq
   rcases ZB9.1 hr with rfl |hr
   ·rw [hq] at hav;cases hav;exact h.1
   ·exact zx h.2 r hr av hav
  ·rename_i hq
   rcases ZB9.1 hr with rfl |hr
   ·rw [hq] at hav;cases hav
   ·exact zx h r hr av hav
theorem SV.qZ {σ:Nat→Nat}{x:SV}(h:∀i∈x.boxes,σ i=i):x.lF σ=x:=by
 cases x<;>simp [SV.lF,SV.boxes] at h ⊢ <;>exact h
theorem RM {σ:Nat→Nat}:∀{l:List SV},(∀i∈cg l,σ i=i)→BQ σ l=l
 |[],_=>rfl
 |x::l,h=>by
  simp only [cg,ZB5] at h
  simp [BQ,SV.qZ (x:=x) (fun i hi=>h i (.inl hi)),RM (l:=l) (fun i hi=>h i (.inr hi))]
theorem A0.qZ {σ:Nat→Nat}{x:A0}(h:∀i∈x.boxes,σ i=i):x.lF σ=x:=by
 cases x with
 |s x=>simp [A0.lF,SV.qZ (x:=x) h]
 |a l=>simp [A0.lF,RM (l:=l) h]
theorem RL {σ:Nat→Nat}:∀{l:List A0},(∀i∈eV l,σ i=i)→BP σ l=l
 |[],_=>rfl
 |x::l,h=>by
  simp only [eV,ZB5] at h
  simp [BP,A0.qZ (x:=x) (fun i hi=>h i (.inl hi)),RL (l:=l) (fun i hi=>h i (.inr hi))]
theorem RN {σ:Nat→Nat}:∀{l:List (Nat×Nat)},(∀i∈jJ l,σ i=i)→BR σ l=l
 |[],_=>rfl
 |p::l,h=>by
  simp only [jJ,ZB9] at h
  simp [BR,h p.1 (.inl rfl),RN (l:=l) (fun i hi=>h i (.inr hi))]
theorem AV.qZ {σ:Nat→Nat}{x:AV}(h:∀i∈x.boxes,σ i=i):x.lF σ=x:=by
 cases x with
 |fn f l=>simp [AV.lF,RN (l:=l) h]
 |o x=>simp [AV.lF,A0.qZ (x:=x) h]
 |t l=>simp [AV.lF,RL (l:=l) h]
 |_=>rfl
theorem XL {bY:List fK}{r:fK}{av:AV}(h:oR τ bY r=some av):r∈bY∧τ r=some av:=by
 unfold oR at h
 cases hk:bY.any (fK.beq r) with
 |true=>
  rw [hk] at h
  obtain⟨q,hq,e⟩:=List.any_eq_true.1 hk
  have:r=q:=fK.beq_iff.1 e
  exact⟨this ▸ hq,h⟩
 |false=>rw [hk] at h;cases h
theorem GQ {sg:List (Nat×Nat)}{τ':St}{bY:List fK}{u:AX}(h:E2 sg τ τ' bY u):Sub (LP sg) ((oR τ bY).ap u) τ':=by
 unfold E2 at h
 split at h
 ·rename_i hc
  simp only [ZB0] at hc
  obtain⟨alv,aln,hU,hK⟩:=hc
  obtain⟨h1,h2⟩:=h
  have key:∀r av,(oR τ bY).ap u r=some av→(∃p∈u,p=(r,av))∨(r∈bY∧τ r=some av):=by
   intro r av hr
   rcases St.AW (τ:=oR τ bY) (u:=u) (r:=r) with ⟨v,hv,hm⟩ |⟨hv,_⟩
   ·rw [hr] at hv;cases hv;exact .inl ⟨_,hm,rfl⟩
   ·rw [hr] at hv;exact .inr (XL hv.symm)
  have ahY:∀i,(oR τ bY).ap u (.b i)≠none→i∈iQ u++iR bY:=by
   intro i hi
   obtain⟨av,hav⟩:=Option.ne_none_iff_exists'.1 hi
   rw [ZB5]
   rcases key _ _ hav with ⟨p,hp,rfl⟩ |⟨hk,_⟩
   ·exact .inl (MA.2 ⟨_,hp,rfl⟩)
   ·exact .inr (MB.2 hk)
  refine⟨fun i av hi=>?_,fun i av hi=>?_,fun r av hr i hi=>?_,fun i j hi hj e=>T1 alv i (ahY i hi) j (ahY j hj) e,fun i hi=>?_⟩
  ·rcases key _ _ hi with ⟨p,hp,rfl⟩ |⟨hk,ht⟩
   ·exact (zw h1 _ hp).1 i rfl
   ·rw [AV.qZ fun j hj=>(((sD hK _ hk).1 av ht) j hj).2,zx h2 _ hk av ht]
    exact VL
  ·rcases key _ _ hi with ⟨p,hp,rfl⟩ |⟨hk,ht⟩
   ·exact (zw h1 _ hp).2 i rfl
   ·rw [AV.qZ fun j hj=>(((sD hK _ hk).1 av ht) j hj).2,(sD hK _ hk).2 i rfl]
    exact zx h2 _ hk av ht
  ·have yT:i∈iQ u++iR bY:=by
    rcases key _ _ hr with ⟨p,hp,rfl⟩ |⟨hk,ht⟩
    ·exact L8 hU _ hp i hi
    ·exact (((sD hK _ hk).1 av ht) i hi).1
   rcases ZB5.1 yT with hm |hm
   ·obtain⟨p,hp,e⟩:=MA.1 hm
    intro hn
    rcases St.AW (τ:=oR τ bY) (u:=u) (r:=.b i) with ⟨v,hv,_⟩ |⟨_,uD⟩
    ·rw [hn] at hv;cases hv
    ·exact uD p hp e
   ·intro hn
    rcases St.AW (τ:=oR τ bY) (u:=u) (r:=.b i) with ⟨v,hv,_⟩ |⟨hv,uD⟩
    ·rw [hn] at hv;cases hv
    ·rw [hn] at hv
     have hk:=MB.1 hm
     have hx:oR τ bY (.b i)=τ (.b i):=by
      unfold oR
      have:bY.any (fK.beq (.b i))=true:=List.any_eq_true.2 ⟨_,hk,fK.U0 _⟩
      rw [this];rfl
     rw [hx] at hv
     exact H7 hK i hk hv.symm
  ·have:=ZC8.1 aln i (ahY i hi)
   simp only [Bool.or_eq_true,ZB0] at this
   rcases this with (h3 |h3) |h3
   ·exact .inl (by simpa using h3)
   ·exact .inr (.inl ⟨⟨aZ h3.1.1,aZ h3.1.2⟩,aZ h3.2.1,aZ h3.2.2⟩)
   ·exact .inr (.inr (aZ h3))
 ·exact h.elim
end
end GL
namespace GL
section
variable {P:Program}{N:Nat}{τ:St}{Q':pb}{S:Sm}
theorem TW.ajl {cd:Code}{ι:Type}(I:ι→St) (φ:ι→Prop) (μ:ι→Nat) (x0:ι) (h0:φ x0) (hs:∃σ,Sub σ (I x0) τ)
  (tP:∀x,φ x→TW P N cd (I x) (zp (fun τ'=>∃y,φ y∧μ y < μ x∧∃σ,Sub σ (I y) τ') Q')):TW P N (.loop cd) τ Q':=fun c a w hr=>by
 classical
 let J:Act→World→Nat→Prop:=fun a w n=>∃x,μ x=n∧φ x∧Rel N c (I x) a w
 let m:Act→World→Nat:=fun a w=>if h:∃n,J a w n then Classical.epsilon (fun n=>J a w n∧∀k,J a w k→n≤k) else 0
 have hm:∀a w,(∃n,J a w n)→J a w (m a w)∧∀k,J a w k→m a w≤k:=by
  intro a w h
  have hex:∃n,J a w n∧∀k,J a w k→n≤k:=by
   obtain⟨n,hn⟩:=h
   induction n using Nat.strongRecOn with
   |_ n ih=>
    by_cases ah8:∀k,J a w k→n≤k
    ·exact⟨n,hn,ah8⟩
    ·simp only [Classical.not_forall] at ah8
     obtain⟨k,hk,bU⟩:=ah8
     exact ih k (by omega) hk
  have:m a w=Classical.epsilon (fun n=>J a w n∧∀k,J a w k→n≤k):=by
   simp only [m];rw [dif_pos h]
  rw [this]
  exact Classical.epsilon_spec hex
 obtain⟨σ0,hs0⟩:=hs
 refine wp_loop (fun a w=>∃n,J a w n) m ⟨μ x0,x0,rfl,h0,hr.sub hs0⟩ ?_
 intro a' w' hJ
 obtain⟨⟨x,hx,hφ,c7⟩,_⟩:=hm a' w' hJ
 refine Code.wp_mono ?_ (tP x hφ c a' w' c7)
 rintro e a2 w2 ⟨τ2,hr2,hq⟩
 cases e with
 |normal=>
  obtain⟨y,hy,bU,σ,agl⟩:=hq
  have hJ2:J a2 w2 (μ y):=⟨y,rfl,hy,hr2.sub agl⟩
  exact⟨⟨_,hJ2⟩,by rw [←hx];exact Nat.lt_of_le_of_lt ((hm a2 w2 ⟨_,hJ2⟩).2 _ hJ2) bU⟩
 |_=>exact⟨τ2,hr2,hq⟩
theorem TW.ajm (hm:P.follows .mixedOrders=true) (hS:U5 P N S) {cd:Code}{ι:Type}(bY:List fK) (J:ι→AX) (φ:ι→Prop) (μ:ι→Nat) (x0:ι) (sg0:List (Nat×Nat)) (h0:φ x0) (hs:E2 sg0 τ τ bY (J x0))
  (tP:∀x,φ x→vc P N S cd ((oR τ bY).ap (J x)) (zp (fun τ'=>∃y sg,φ y∧μ y < μ x∧E2 sg τ τ' bY (J y)) Q')):TW P N (.loop cd) τ Q':=
 TW.ajl (fun x=>(oR τ bY).ap (J x)) φ μ x0 h0 ⟨_,GQ hs⟩ fun x hx=>(gr hm hS _ _ _ (tP x hx)).mono fun e τ' hq=>by
  cases e with
  |normal=>
   obtain⟨y,sg,h1,h2,h3⟩:=hq
   exact⟨y,h1,h2,_,GQ h3⟩
  |_=>exact hq
theorem TW.agv {cd:Code}(bY:List fK) (u:AX) (sg:List (Nat×Nat)) (h:E2 sg τ τ bY u) (hk:TW P N cd ((oR τ bY).ap u) Q'):TW P N cd τ Q':=fun c a w hr=>hk c a w (hr.sub (GQ h))
def Sh (P:Program) (t:TypeId):Option (Bool×Nat):=
 match P.underlying t,P.info? t with
 |some (.struct _),some i |some (.array _ _),some i=>some (true,i.size)
 |some _,some i=>some (false,i.size)
 |_,_=>none
theorem qM {t:TypeId}{b:Bool}{n:Nat}(h:Sh P t=some (b,n)) (w:World):(isAgg t).run P w= .ok b w∧(sizeOf t).run P w= .ok n w:=by
 unfold Sh at h
 cases hu:P.underlying t with
 |none=>rw [hu] at h;simp at h
 |some d=>
  cases hi:P.info? t with
  |none=>rw [hu,hi] at h;cases d<;>simp at h
  |some i=>
   rw [hu,hi] at h
   refine⟨?_,?_⟩
   ·cases d<;>simp at h<;>simp [isAgg,run_underlying hu,h.1]
   ·cases d<;>simp at h<;>simp [sizeOf,typeInfo,hi,h.2]
theorem uz {t:TypeId}{n:Nat}(h:Sh P t=some (true,n)) {w:World}{a:Addr}{cs:List Value}(hn:cs.length=n) (hc:∀j v,cs[j]?=some v→w.cell? (a.add j)=some v):
  (loadVar t a).run P w= .ok (.agg cs.toArray) w:=by
 obtain⟨h1,h2⟩:=qM h w
 have h3:=run_loadCells_list (P:=P) w a cs hc
 rw [hn] at h3
 simp [loadVar,h1,h2,h3]
theorem uy {t:TypeId}{n:Nat}(h:Sh P t=some (false,n)) {w:World}{a:Addr}{v:Value}(hc:w.cell? a=some v):(loadVar t a).run P w= .ok v w:=by
 obtain⟨h1,_⟩:=qM h w
 simp [loadVar,h1,hc]
theorem rC {w:World}{b:Nat}{cs:Array Value}{e:TypeId}{fr:Nat×Nat}(h:w.heap[b]?=some (.cells cs e fr)) (o:Nat):w.cell? ⟨b,o,none⟩=cs[o]?:=by simp [World.cell?,h]
theorem ga (b o j:Nat):(⟨b,o,none⟩:Addr).add j=⟨b,o+j,none⟩:=by
 unfold Addr.add
 split
 ·rename_i h;subst h;rfl
 ·rfl
def V4 (sh:TypeId→Option (Bool×Nat)) (τ:St):ResultVar→Option A0
 |.tmp t=>match τ (.s t) with
  |some (.o x)=>some x
  |_=>none
 |.cell ad ty=>match τ (.s ad) with
  |some (.o (.s (.bp i 0)))=>match τ (.b i) with
   |some (.o (.a l))=>match sh ty with
    |some (true,n)=>bif Nat.beq n l.length then some (.a l) else none
    |some (false,_)=>match l with
     |[x]=>some (.s x)
     |_=>none
    |none=>none
   |_=>none
  |_=>none
def vf (tmps:Array Value):ResultVar→Sem Value
 |.tmp t=>pure (tmps.getD t undef)
 |.cell a t=>do loadVar t (←asAddr (tmps.getD a undef))
variable {sh:TypeId→Option (Bool×Nat)}
theorem ac2 (hsh:∀t x,sh t=some x→Sh P t=some x) {c:Ctx}{T:bc}{β:Nat→Nat}{a:Act}{w:World}(hh:Holds N c T β τ a w) {x:ResultVar}{r:A0}(h:V4 sh τ x=some r):∃v,(vf a.tmps x).run P w= .ok v w∧r.rel T β v:=by
 cases x with
 |tmp t=>
  simp only [V4] at h
  split at h
  ·rename_i y hy
   cases h
   obtain⟨v,hv,hr⟩:=hh.iL t _ hy
   exact⟨v,by simp [vf,hv],hr⟩
  ·cases h
 |cell ad ty=>
  simp only [V4] at h
  split at h
  ·rename_i i hy
   split at h
   ·rename_i l hl
    obtain⟨v,hv,hr⟩:=hh.iL ad _ hy
    have uP:v= .pointer (some ⟨β i,0,none⟩):=hr
    subst uP
    obtain⟨cs,e,hb,c7⟩:=hh.boxes i _ hl (by intro e;cases e)
    have vJ:dO T β l cs.toList:=c7
    have hlen:=jl vJ
    split at h
    ·rename_i n hS
     cases hbq:Nat.beq n l.length with
     |false=>rw [hbq] at h;cases h
     |true=>
      rw [hbq] at h;cases h
      have hn:n=l.length:=by simpa using hbq
      subst hn
      refine⟨.agg cs,?_,cs,rfl,vJ⟩
      have:=uz (P:=P) (hsh _ _ hS) (w:=w) (a:=⟨β i,0,none⟩) (cs:=cs.toList) hlen.symm (fun j v hj=>by
       rw [ga,rC hb];simpa using hj)
      simpa [vf,hv,asAddr] using this
    ·rename_i n hS
     split at h
     ·rename_i y
      cases h
      obtain⟨v0,hv0,hr0⟩:=q6 vJ (i:=0) (x:=y) rfl
      refine⟨v0,?_,hr0⟩
      have:=uy (P:=P) (hsh _ _ hS) (w:=w) (a:=⟨β i,0,none⟩) (v:=v0) (by rw [rC hb];simpa using hv0)
      simpa [vf,hv,asAddr] using this
     ·cases h
    ·cases h
   ·cases h
  ·cases h
def OI (sh:TypeId→Option (Bool×Nat)) (τ:St):List ResultVar→Option (List A0)
 |[]=>some []
 |x::l=>match V4 sh τ x,OI sh τ l with
  |some r,some rs=>some (r::rs)
  |_,_=>none
theorem RJ (hsh:∀t x,sh t=some x→Sh P t=some x) {c:Ctx}{T:bc}{β:Nat→Nat}{a:Act}{w:World}(hh:Holds N c T β τ a w):∀{l:List ResultVar}{rs:List A0},OI sh τ l=some rs→∃vs:List Value,(l.mapM (vf a.tmps)).run P w= .ok vs w∧uJ T β rs vs
 |[],rs,h=>by
  simp only [OI] at h;cases h
  exact⟨[],by simp,trivial⟩
 |x::l,rs,h=>by
  simp only [OI] at h
  split at h
  ·rename_i r rs' hr hrs
   cases h
   obtain⟨v,hv,hvr⟩:=ac2 hsh hh hr
   obtain⟨vs,I8,ak4⟩:=RJ hsh hh hrs
   exact⟨v::vs,by simp [List.mapM_cons,hv,I8],hvr,ak4⟩
  ·cases h
def afU (sh:TypeId→Option (Bool×Nat)) (τ:St) (l:List ResultVar):Option AV:=
 match OI sh τ l with
 |some [x]=>some (.o x)
 |some rs=>some (.t rs)
 |none=>none
theorem ac1 (hsh:∀t x,sh t=some x→Sh P t=some x) {c:Ctx}{T:bc}{β:Nat→Nat}{a:Act}{w:World}(hh:Holds N c T β τ a w) {fn:Func}{r:AV}(h:afU sh τ fn.results.toList=some r):∃v,(results fn a.tmps).run P w= .ok v w∧r.rel T β v:=by
 have key:∀rs,OI sh τ fn.results.toList=some rs→∃vs:List Value,(fn.results.mapM (vf a.tmps)).run P w= .ok vs.toArray w∧uJ T β rs vs:=by
  intro rs hrs
  obtain⟨vs,I8,c7⟩:=RJ hsh hh hrs
  refine⟨vs,?_,c7⟩
  rw [←Array.toArray_toList (xs:=fn.results),List.mapM_toArray]
  simp [I8]
 have ajB:∀vs:Array Value,(fn.results.mapM (vf a.tmps)).run P w= .ok vs w→(results fn a.tmps).run P w= .ok (if h:vs.size=1 then vs[0] else .tuple vs) w:=by
  intro vs I8
  have e:results fn a.tmps=(do let vs←fn.results.mapM (vf a.tmps);pure (if h:vs.size=1 then vs[0] else .tuple vs)):=by
   unfold results
   congr 1
  rw [e]
  simp [I8]
 unfold afU at h
 split at h
 ·rename_i x hx
  cases h
  obtain⟨vs,I8,c7⟩:=key _ hx
  match vs,c7 with
  |[v],c7=>exact⟨v,by rw [ajB _ I8];simp,c7.1⟩
 ·rename_i rs fB hx
  cases h
  obtain⟨vs,I8,c7⟩:=key _ hx
  refine⟨.tuple vs.toArray,?_,vs.toArray,rfl,by simpa using c7⟩
  rw [ajB _ I8]
  have hl:=RS c7
  have:¬(vs.toArray.size=1):=by
   intro h1
   match rs,hl with
   |[x],_=>exact fB x rfl
   |[],hl=>simp at hl h1;omega
   |_::_::_,hl=>simp at hl h1;omega
  rw [dif_neg this]
 ·cases h
def D0 (τ:St) (own:List Nat):SV→Option (Prop×SV)
 |.v (.bool b)=>some (True,.q b)
 |.xs i sz o m=>match iz own i with
  |true=>some (True,.xs i sz o m)
  |false=>match τ (.b i) with
   |some (.rs ek l)=>bif Nat.beq ek.length sz&&(Nat.ble 1000 i&&Nat.blt i 1000000000) then some (o+m≤l.length,.vw ek ((l.drop o).take m)) else none
   |_=>none
 |.bp i o=>bif iz own i then some (True,.bp i o) else none
 |.xp i sz k j=>bif iz own i then some (True,.xp i sz k j) else none
 |.vz _ _=>none
 |.vp _ _ _=>none
 |.vs _ _=>none
 |x=>some (True,x)
def xY (τ:St) (own:List Nat):List SV→Option (Prop×List SV)
 |[]=>some (True,[])
 |x::l=>match D0 τ own x,xY τ own l with
  |some (p,y),some (q,m)=>some (p∧q,y::m)
  |_,_=>none
def u2 (τ:St) (own:List Nat):A0→Option (Prop×A0)
 |.s x=>match D0 τ own x with
  |some (p,y)=>some (p,.s y)
  |none=>none
 |.a l=>match xY τ own l with
  |some (p,m)=>some (p,.a m)
  |none=>none
def BG (τ:St) (own:List Nat):List A0→Option (Prop×List A0)
 |[]=>some (True,[])
 |x::l=>match u2 τ own x,BG τ own l with
  |some (p,y),some (q,m)=>some (p∧q,y::m)
  |_,_=>none
def xZ (τ:St) (own:List Nat):AV→Option (Prop×AV)
 |.o x=>match u2 τ own x with
  |some (p,y)=>some (p,.o y)
  |none=>none
 |.t l=>match BG τ own l with
  |some (p,m)=>some (p,.t m)
  |none=>none
 |_=>none
def SV.ot:SV→Bool
 |.vz _ _=>false
 |.vp _ _ _=>false
 |.vs _ _=>false
 |_=>true
def AA:List SV→Bool
 |[]=>true
 |x::l=>x.ot&&AA l
def A0.ot:A0→Bool
 |.s x=>x.ot
 |.a l=>AA l
def uH:List A0→Bool
 |[]=>true
 |x::l=>x.ot&&uH l
def AV.ot:AV→Bool
 |.o x=>x.ot
 |.t l=>uH l
 |_=>true
theorem GX {own:List Nat}{x y:SV}{p:Prop}(h:D0 τ own x=some (p,y)):y.ot=true:=by
 unfold D0 at h
 split at h
 ·cases h;rfl
 ·split at h
  ·cases h;rfl
  ·split at h
   ·cases hc:(Nat.beq _ _&&(Nat.ble 1000 _&&Nat.blt _ 1000000000):Bool) with
    |false=>rw [hc] at h;cases h
    |true=>rw [hc] at h;cases h;rfl
   ·cases h
 ·cases hc:iz own _ with
  |false=>rw [hc] at h;cases h
  |true=>rw [hc] at h;cases h;rfl
 ·cases hc:iz own _ with
  |false=>rw [hc] at h;cases h
  |true=>rw [hc] at h;cases h;rfl
 ·cases h
 ·cases h
 ·cases h
 ·rename_i h1 h2 h3 h4 h5 h6
  cases h
  cases x with
  |vz ek l=>exact absurd rfl (h4 ek l)
  |vp ek r j=>exact absurd rfl (h5 ek r j)
  |vs l j=>exact absurd rfl (h6 l j)
  |_=>rfl
theorem u1 {own:List Nat}:∀{x y:List SV}{p:Prop},xY τ own x=some (p,y)→AA y=true
 |[],y,p,h=>by cases h;rfl
 |x::l,y,p,h=>by
  simp only [xY] at h
  split at h
  ·rename_i h1 h2
   cases h
   simp [AA,GX h1,u1 h2]
  ·cases h
theorem D2 {own:List Nat}{x y:A0}{p:Prop}(h:u2 τ own x=some (p,y)):y.ot=true:=by
 cases x with
 |s x=>
  simp only [u2] at h
  split at h
  ·rename_i h1;cases h;exact GX h1
  ·cases h
 |a l=>
  simp only [u2] at h
  split at h
  ·rename_i h1;cases h;exact u1 h1
  ·cases h
theorem D1 {own:List Nat}:∀{x y:List A0}{p:Prop},BG τ own x=some (p,y)→uH y=true
 |[],y,p,h=>by cases h;rfl
 |x::l,y,p,h=>by
  simp only [BG] at h
  split at h
  ·rename_i h1 h2
   cases h
   simp [uH,D2 h1,D1 h2]
  ·cases h
theorem Q8 {own:List Nat}{x y:AV}{p:Prop}(h:xZ τ own x=some (p,y)):y.ot=true:=by
 cases x with
 |o x=>
  simp only [xZ] at h
  split at h
  ·rename_i h1;cases h;exact D2 h1
  ·cases h
 |t l=>
  simp only [xZ] at h
  split at h
  ·rename_i h1;cases h;exact D1 h1
  ·cases h
 |rs ek l=>cases h
 |zz=>cases h
 |fn f l=>cases h
theorem SV.oq {g:Nat→Nat}{x:SV}:(x.lF g).ot=x.ot:=by cases x<;>rfl
theorem M8 {g:Nat→Nat}:∀{l:List SV},AA (BQ g l)=AA l
 |[]=>rfl
 |x::l=>by simp [BQ,AA,SV.oq,M8 (l:=l)]
theorem A0.oq {g:Nat→Nat}{x:A0}:(x.lF g).ot=x.ot:=by
 cases x with
 |s x=>exact SV.oq
 |a l=>exact M8
theorem M7 {g:Nat→Nat}:∀{l:List A0},uH (BP g l)=uH l
 |[]=>rfl
 |x::l=>by simp [BP,uH,A0.oq,M7 (l:=l)]
theorem AV.oq {g:Nat→Nat}{x:AV}:(x.lF g).ot=x.ot:=by
 cases x with
 |o x=>exact A0.oq
 |t l=>exact M7
 |_=>rfl
noncomputable def sL (T:bc) (β:Nat→Nat) (τ:St) (W w:World) (own:List Nat):bc:=fun b=>
 match T b with
 |some (.bx n)=>open Classical in if W.heap.size≤b∧¬(∃i∈own,live τ i∧β i=b) then (match w.heap[b]? with
  |some (.cells cs e fr)=>some (.ro cs e fr)
  |_=>some (.bx n)) else some (.bx n)
 |k=>k.map BK.un
section
variable {c:Ctx}{T:bc}{β:Nat→Nat}{a:Act}{w:World}{own:List Nat}
theorem aay {W:World}{b n:Nat}{ek:EK}(h:T b=some (.ty ek n)):sL T β τ W w own b=some (.ty ek n):=by
 unfold sL;rw [h];rfl
theorem aaz {W:World}{b:Nat}{cs:Array Value}{e:TypeId}{fr:Nat×Nat}(h:T b=some (.ro cs e fr)):sL T β τ W w own b=some (.ro cs e fr):=by
 unfold sL;rw [h];rfl
theorem US {W:World}{i n:Nat}(h:T (β i)=some (.bx n)) (hi:i∈own) (hl:live τ i):sL T β τ W w own (β i)=some (.bx n):=by
 unfold sL
 rw [h]
 simp only
 rw [if_neg]
 rintro⟨_,h⟩
 exact h ⟨i,hi,hl,rfl⟩
theorem acu {W:World}{i n:Nat}{cs:Array Value}{e:TypeId}{fr:Nat×Nat}(hh:Holds N c T β τ a w) (h:T (β i)=some (.bx n)) (hi:i∉own) (hl:live τ i) (hb:w.heap[β i]?=some (.cells cs e fr)) (hW:W.heap.size≤β i):sL T β τ W w own (β i)=some (.ro cs e fr):=by
 unfold sL
 rw [h]
 simp only
 rw [if_pos,hb]
 refine⟨hW,?_⟩
 rintro⟨j,hj,hlj,e⟩
 exact hi (hh.inj j i hlj hl e ▸ hj)
theorem A9 {cs:Array Value}{ek:EK}{l z:List (EK.Ty ek)}(h:cs.toList=flat ek (l++z)) (o m:Nat):win cs (o*ek.length) (flat ek ((l.drop o).take m)):=by
 intro j v hj
 have h1:(flat ek ((l.drop o).take m))[j]?=((flat ek l).drop (o*ek.length))[j]?:=by
  rw [pw,←ni,List.getElem?_take]
  split
  ·rfl
  ·rename_i bU
   exfalso
   have:=(ZC0.1 hj).1
   rw [←ni,ZB8] at this
   omega
 rw [h1,List.getElem?_drop] at hj
 have h2:cs.toList[o*ek.length+j]?=some v:=by
  rw [h,gF]
  exact ZC2 (ZC0.1 hj).1 ▸ hj
 simpa using h2
theorem LR (hh:Holds N c T β τ a w) (oj:∀i∈own,τ (.b i)≠none→live τ i) {x y:SV}{p:Prop}(h:D0 τ own x=some (p,y)) (hp:p) {v:Value}(hnm:∀i∈x.boxes,τ (.b i)≠none) (hr:x.rel T β v):y.rel (sL T β τ c.W w own) β v∧∀i∈y.boxes,i∈own:=by
 cases x with
 |v x=>cases x<;>(cases h;exact⟨hr,by simp [SV.boxes]⟩)
 |q b=>cases h;exact⟨hr,by simp [SV.boxes]⟩
 |bp i o=>
  simp only [D0] at h
  cases hm:iz own i with
  |false=>rw [hm] at h;cases h
  |true=>rw [hm] at h;cases h;exact⟨hr,by simp [SV.boxes];exact fA.1 hm⟩
 |xp i sz k j=>
  simp only [D0] at h
  cases hm:iz own i with
  |false=>rw [hm] at h;cases h
  |true=>rw [hm] at h;cases h;exact⟨hr,by simp [SV.boxes];exact fA.1 hm⟩
 |xs i sz o m=>
  simp only [D0] at h
  cases hm:iz own i with
  |true=>
   rw [hm] at h;cases h
   have hi:=fA.1 hm
   refine⟨?_,by simp [SV.boxes];exact hi⟩
   rcases hr with hr |⟨cap,n,h1,h2,h3,h4⟩
   ·exact .inl hr
   ·exact .inr ⟨cap,n,h1,h2,US h3 hi (oj i hi (hnm i (by simp [SV.boxes]))),h4⟩
  |false=>
   rw [hm] at h
   simp only at h
   split at h
   ·rename_i ek l hb
    cases hc:Nat.beq ek.length sz&&(Nat.ble 1000 i&&Nat.blt i 1000000000) with
    |false=>rw [hc] at h;cases h
    |true=>
     rw [hc] at h;cases h
     simp only [ZB0] at hc
     have dk:ek.length=sz:=by simpa using hc.1
     subst dk
     have ajX:1000≤i:=aZ hc.2.1
     have hM:i<1000000000:=aZ hc.2.2
     refine⟨?_,by simp [SV.boxes]⟩
     have hlen:((l.drop o).take m).length=m:=by simp;omega
     rcases hr with ⟨rfl,p,e⟩ |⟨cap,n,h1,h2,h3,h4⟩
     ·exact .inl ⟨by simp,p,0,e⟩
     ·have hl:live τ i:=eF hb (by intro e;cases e)
      obtain⟨cs,te,hc1,fB,z,kh,hz⟩:=hh.boxes i _ hb (by intro e;cases e)
      refine .inr ⟨β i,o*ek.length,cap,cs,te,(0,0),by rw [hlen];exact h1,by rw [hlen];exact h2,?_,A9 kh o m⟩
      exact acu hh h3 (fun hi=>by have:=fA.2 hi;rw [hm] at this;cases this) hl hc1 ((hh.apart i hl).2.2.1 ajX hM)
   ·cases h
 |ep ek j=>cases h;obtain⟨b,o,n,h1,h2,h3⟩:=hr;exact⟨⟨b,o,n,h1,aay h2,h3⟩,by simp [SV.boxes]⟩
 |sl ek len=>
  cases h
  refine⟨?_,by simp [SV.boxes]⟩
  rcases hr with hr |⟨b,o,cap,n,h1,h2,h3,h4⟩
  ·exact .inl hr
  ·exact .inr ⟨b,o,cap,n,h1,h2,aay h3,h4⟩
 |vw ek l=>
  cases h
  refine⟨?_,by simp [SV.boxes]⟩
  rcases hr with hr |⟨b,o,cap,cs,e,fr,h1,h2,h3,h4⟩
  ·exact .inl hr
  ·exact .inr ⟨b,o,cap,cs,e,fr,h1,h2,aaz h3,h4⟩
 |vz ek l=>cases h
 |vp ek x j=>cases h
 |vs l j=>cases h
 |er b=>cases h;exact⟨hr,by simp [SV.boxes]⟩
 |e0=>cases h;exact⟨hr,by simp [SV.boxes]⟩
theorem xX (hh:Holds N c T β τ a w) (oj:∀i∈own,τ (.b i)≠none→live τ i):∀{x y:List SV}{p:Prop},xY τ own x=some (p,y)→p→∀{v:List Value},(∀i∈cg x,τ (.b i)≠none)→dO T β x v→dO (sL T β τ c.W w own) β y v∧∀i∈cg y,i∈own
 |[],y,p,h,hp,v,hnm,hr=>by
  cases h
  cases v with
  |nil=>exact⟨trivial,by simp [cg]⟩
  |cons _ _=>exact hr.elim
 |x::l,y,p,h,hp,v,hnm,hr=>by
  simp only [xY] at h
  split at h
  ·rename_i p1 y1 q1 m1 h1 h2
   cases h
   cases v with
   |nil=>exact hr.elim
   |cons v vs=>
    simp only [cg,ZB5] at hnm
    have g1:=LR hh oj h1 hp.1 (fun i hi=>hnm i (.inl hi)) hr.1
    have g2:=xX hh oj h2 hp.2 (fun i hi=>hnm i (.inr hi)) hr.2
    refine⟨⟨g1.1,g2.1⟩,fun i hi=>?_⟩
    simp only [cg,ZB5] at hi
    rcases hi with hi |hi
    ·exact g1.2 i hi
    ·exact g2.2 i hi
  ·cases h
theorem GZ (hh:Holds N c T β τ a w) (oj:∀i∈own,τ (.b i)≠none→live τ i) {x y:A0}{p:Prop}(h:u2 τ own x=some (p,y)) (hp:p) {v:Value}(hnm:∀i∈x.boxes,τ (.b i)≠none) (hr:x.rel T β v):y.rel (sL T β τ c.W w own) β v∧∀i∈y.boxes,i∈own:=by
 cases x with
 |s x=>
  simp only [u2] at h
  split at h
  ·rename_i p1 y1 h1;cases h;exact LR hh oj h1 hp hnm hr
  ·cases h
 |a l=>
  simp only [u2] at h
  split at h
  ·rename_i p1 y1 h1
   cases h
   obtain⟨cs,e,hl⟩:=hr
   have:=xX hh oj h1 hp hnm hl
   exact⟨⟨cs,e,this.1⟩,this.2⟩
  ·cases h
theorem GY (hh:Holds N c T β τ a w) (oj:∀i∈own,τ (.b i)≠none→live τ i):∀{x y:List A0}{p:Prop},BG τ own x=some (p,y)→p→∀{v:List Value},(∀i∈eV x,τ (.b i)≠none)→uJ T β x v→uJ (sL T β τ c.W w own) β y v∧∀i∈eV y,i∈own
 |[],y,p,h,hp,v,hnm,hr=>by
  cases h
  cases v with
  |nil=>exact⟨trivial,by simp [eV]⟩
  |cons _ _=>exact hr.elim
 |x::l,y,p,h,hp,v,hnm,hr=>by
  simp only [BG] at h
  split at h
  ·rename_i p1 y1 q1 m1 h1 h2
   cases h
   cases v with
   |nil=>exact hr.elim
   |cons v vs=>
    simp only [eV,ZB5] at hnm
    have g1:=GZ hh oj h1 hp.1 (fun i hi=>hnm i (.inl hi)) hr.1
    have g2:=GY hh oj h2 hp.2 (fun i hi=>hnm i (.inr hi)) hr.2
    refine⟨⟨g1.1,g2.1⟩,fun i hi=>?_⟩
    simp only [eV,ZB5] at hi
    rcases hi with hi |hi
    ·exact g1.2 i hi
    ·exact g2.2 i hi
  ·cases h
theorem VK (hh:Holds N c T β τ a w) (oj:∀i∈own,τ (.b i)≠none→live τ i) {x y:AV}{p:Prop}(h:xZ τ own x=some (p,y)) (hp:p) {v:Value}(hnm:∀i∈x.boxes,τ (.b i)≠none) (hr:x.rel T β v):y.rel (sL T β τ c.W w own) β v∧∀i∈y.boxes,i∈own:=by
 cases x with
 |o x=>
  simp only [xZ] at h
  split at h
  ·rename_i p1 y1 h1;cases h;exact GZ hh oj h1 hp hnm hr
  ·cases h
 |t l=>
  simp only [xZ] at h
  split at h
  ·rename_i p1 y1 h1
   cases h
   obtain⟨cs,e,hl⟩:=hr
   have:=GY hh oj h1 hp hnm hl
   exact⟨⟨cs,e,this.1⟩,this.2⟩
  ·cases h
 |rs ek l=>cases h
 |zz=>cases h
 |fn f l=>cases h
end
end
end GL
end Go.Proofs.YtbfgjadbfjkcdaaGreatDoor
