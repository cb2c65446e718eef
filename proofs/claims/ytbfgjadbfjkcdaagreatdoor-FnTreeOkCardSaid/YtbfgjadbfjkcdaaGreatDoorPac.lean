/- FnTreeOk returns true for every code (its row lists package variables, tied by the card): part 3 of 39. -/
import Derived.Test.YtbfgjadbfjkcdaaGreatDoorPab
set_option maxHeartbeats 20000000
set_option linter.all false
namespace Go.Proofs.YtbfgjadbfjkcdaaGreatDoor
namespace GL
section
variable {P:Program} {N:Nat} {τ:St} {Q':sO} {S:Sm}
theorem TW.ai2 {cd:Code} {ι:Type} (I:ι→St) (φ:ι→Prop) (μ:ι→Nat) (x0:ι) (h0:φ x0) (hs:∃σ,Sub σ (I x0) τ)
  (tK:∀x,φ x→TW P N cd (I x) (DK (fun τ'=>∃y,φ y∧μ y < μ x∧∃σ,Sub σ (I y) τ') Q')):TW P N (.loop cd) τ Q':=fun c a w hr=>by
 classical
 let J:Act→World→Nat→Prop:=fun a w n=>∃x,μ x=n∧φ x∧Rel N c (I x) a w
 let m:Act→World→Nat:=fun a w=>if h:∃n,J a w n then Classical.epsilon (fun n=>J a w n∧∀k,J a w k→n≤k) else 0
 have hm:∀a w,(∃n,J a w n)→J a w (m a w)∧∀k,J a w k→m a w≤k:=by
  intro a w h
  have hex:∃n,J a w n∧∀k,J a w k→n≤k:=by
   obtain ⟨n,hn⟩:=h
   induction n using Nat.strongRecOn with
   |_ n ih=>
    by_cases ahV:∀k,J a w k→n≤k
    ·exact ⟨n,hn,ahV⟩
    ·simp only [Classical.not_forall] at ahV
     obtain ⟨k,hk,bM⟩:=ahV
     exact ih k (by omega) hk
  have:m a w=Classical.epsilon (fun n=>J a w n∧∀k,J a w k→n≤k):=by
   simp only [m];rw [dif_pos h]
  rw [this]
  exact Classical.epsilon_spec hex
 obtain ⟨σ0,hs0⟩:=hs
 refine wp_loop (fun a w=>∃n,J a w n) m ⟨μ x0,x0,rfl,h0,hr.sub hs0⟩ ?_
 intro a' w' hJ
 obtain ⟨⟨x,hx,hφ,cV⟩,_⟩:=hm a' w' hJ
 refine Code.wp_mono ?_ (tK x hφ c a' w' cV)
 rintro e a2 w2 ⟨τ2,hr2,hq⟩
 cases e with
 |normal=>
  obtain ⟨y,hy,bM,σ,aga⟩:=hq
  have hJ2:J a2 w2 (μ y):=⟨y,rfl,hy,hr2.sub aga⟩
  exact ⟨⟨_,hJ2⟩,by rw [←hx];exact Nat.lt_of_le_of_lt ((hm a2 w2 ⟨_,hJ2⟩).2 _ hJ2) bM⟩
 |_=>exact ⟨τ2,hr2,hq⟩
theorem TW.ai3 (hm:P.follows .mixedOrders=true) (hS:YR P N S) {cd:Code} {ι:Type} (bT:List fC) (J:ι→AM) (φ:ι→Prop) (μ:ι→Nat) (x0:ι) (sg0:List (Nat×Nat)) (h0:φ x0) (hs:EM sg0 τ τ bT (J x0))
  (tK:∀x,φ x→vc P N S cd ((oH τ bT).ap (J x)) (DK (fun τ'=>∃y sg,φ y∧μ y < μ x∧EM sg τ τ' bT (J y)) Q')):TW P N (.loop cd) τ Q':=
 TW.ai2 (fun x=>(oH τ bT).ap (J x)) φ μ x0 h0 ⟨_,GC hs⟩ fun x hx=>(gH hm hS _ _ _ (tK x hx)).mono fun e τ' hq=>by
  cases e with
  |normal=>
   obtain ⟨y,sg,h1,h2,h3⟩:=hq
   exact ⟨y,h1,h2,_,GC h3⟩
  |_=>exact hq
theorem TW.agl {cd:Code} (bT:List fC) (u:AM) (sg:List (Nat×Nat)) (h:EM sg τ τ bT u) (hk:TW P N cd ((oH τ bT).ap u) Q'):TW P N cd τ Q':=fun c a w hr=>hk c a w (hr.sub (GC h))
def Sh (P:Program) (t:TypeId):Option (Bool×Nat):=
 match P.underlying t,P.info? t with
 |some (.struct _),some i |some (.array _ _),some i=>some (true,i.size)
 |some _,some i=>some (false,i.size)
 |_,_=>none
theorem qx {t:TypeId} {b:Bool} {n:Nat} (h:Sh P t=some (b,n)) (w:World):(isAgg t).run P w= .ok b w∧(sizeOf t).run P w= .ok n w:=by
 unfold Sh at h
 cases hu:P.underlying t with
 |none=>rw [hu] at h;simp at h
 |some d=>
  cases hi:P.info? t with
  |none=>rw [hu,hi] at h;cases d<;>simp at h
  |some i=>
   rw [hu,hi] at h
   refine ⟨?_,?_⟩
   ·cases d<;>simp at h<;>simp [isAgg,run_underlying hu,h.1]
   ·cases d<;>simp at h<;>simp [sizeOf,typeInfo,hi,h.2]
theorem ur {t:TypeId} {n:Nat} (h:Sh P t=some (true,n)) {w:World} {a:Addr} {cs:List Value} (hn:cs.length=n) (hc:∀j v,cs[j]?=some v→w.cell? (a.add j)=some v):
  (loadVar t a).run P w= .ok (.agg cs.toArray) w:=by
 obtain ⟨h1,h2⟩:=qx h w
 have h3:=run_loadCells_list (P:=P) w a cs hc
 rw [hn] at h3
 simp [loadVar,h1,h2,h3]
theorem uq {t:TypeId} {n:Nat} (h:Sh P t=some (false,n)) {w:World} {a:Addr} {v:Value} (hc:w.cell? a=some v):(loadVar t a).run P w= .ok v w:=by
 obtain ⟨h1,_⟩:=qx h w
 simp [loadVar,h1,hc]
theorem rh {w:World} {b:Nat} {cs:Array Value} {e:TypeId} {fr:Nat×Nat} (h:w.heap[b]?=some (.cells cs e fr)) (o:Nat):w.cell? ⟨b,o,none⟩=cs[o]?:=by simp [World.cell?,h]
theorem fS (b o j:Nat):(⟨b,o,none⟩:Addr).add j=⟨b,o+j,none⟩:=by
 unfold Addr.add
 split
 ·rename_i h;subst h;rfl
 ·rfl
def VV (sh:TypeId→Option (Bool×Nat)) (τ:St):ResultVar→Option A0
 | .tmp t=>match τ (.s t) with
  |some (.o x)=>some x
  |_=>none
 | .cell ad ty=>match τ (.s ad) with
  |some (.o (.s (.bp i 0)))=>match τ (.b i) with
   |some (.o (.a l))=>match sh ty with
    |some (true,n)=>bif Nat.beq n l.length then some (.a l) else none
    |some (false,_)=>match l with
     |[x]=>some (.s x)
     |_=>none
    |none=>none
   |_=>none
  |_=>none
def u7 (tmps:Array Value):ResultVar→Sem Value
 | .tmp t=>pure (tmps.getD t undef)
 | .cell a t=>do loadVar t (←asAddr (tmps.getD a undef))
variable {sh:TypeId→Option (Bool×Nat)}
theorem acS (hsh:∀t x,sh t=some x→Sh P t=some x) {c:Ctx} {T:a7} {β:Nat→Nat} {a:Act} {w:World} (hh:Holds N c T β τ a w) {x:ResultVar} {r:A0} (h:VV sh τ x=some r):∃v,(u7 a.tmps x).run P w= .ok v w∧r.rel T β v:=by
 cases x with
 |tmp t=>
  simp only [VV] at h
  split at h
  ·rename_i y hy
   cases h
   obtain ⟨v,hv,hr⟩:=hh.iC t _ hy
   exact ⟨v,by simp [u7,hv],hr⟩
  ·cases h
 |cell ad ty=>
  simp only [VV] at h
  split at h
  ·rename_i i hy
   split at h
   ·rename_i l hl
    obtain ⟨v,hv,hr⟩:=hh.iC ad _ hy
    have uJ:v= .pointer (some ⟨β i,0,none⟩):=hr
    subst uJ
    obtain ⟨cs,e,hb,cV⟩:=hh.boxes i _ hl (by intro e;cases e)
    have vD:ee T β l cs.toList:=cV
    have hlen:=kf vD
    split at h
    ·rename_i n hS
     cases hbq:Nat.beq n l.length with
     |false=>rw [hbq] at h;cases h
     |true=>
      rw [hbq] at h;cases h
      have hn:n=l.length:=by simpa using hbq
      subst hn
      refine ⟨.agg cs,?_,cs,rfl,vD⟩
      have:=ur (P:=P) (hsh _ _ hS) (w:=w) (a:=⟨β i,0,none⟩) (cs:=cs.toList) hlen.symm (fun j v hj=>by
       rw [fS,rh hb];simpa using hj)
      simpa [u7,hv,asAddr] using this
    ·rename_i n hS
     split at h
     ·rename_i y
      cases h
      obtain ⟨v0,hv0,hr0⟩:=tb vD (i:=0) (x:=y) rfl
      refine ⟨v0,?_,hr0⟩
      have:=uq (P:=P) (hsh _ _ hS) (w:=w) (a:=⟨β i,0,none⟩) (v:=v0) (by rw [rh hb];simpa using hv0)
      simpa [u7,hv,asAddr] using this
     ·cases h
    ·cases h
   ·cases h
  ·cases h
def N9 (sh:TypeId→Option (Bool×Nat)) (τ:St):List ResultVar→Option (List A0)
 |[]=>some []
 |x::l=>match VV sh τ x,N9 sh τ l with
  |some r,some rs=>some (r::rs)
  |_,_=>none
theorem RC (hsh:∀t x,sh t=some x→Sh P t=some x) {c:Ctx} {T:a7} {β:Nat→Nat} {a:Act} {w:World} (hh:Holds N c T β τ a w):∀ {l:List ResultVar} {rs:List A0},N9 sh τ l=some rs→∃vs:List Value,(l.mapM (u7 a.tmps)).run P w= .ok vs w∧uE T β rs vs
 |[],rs,h=>by
  simp only [N9] at h;cases h
  exact ⟨[],by simp,trivial⟩
 |x::l,rs,h=>by
  simp only [N9] at h
  split at h
  ·rename_i r rs' hr hrs
   cases h
   obtain ⟨v,hv,hvr⟩:=acS hsh hh hr
   obtain ⟨vs,IX,akF⟩:=RC hsh hh hrs
   exact ⟨v::vs,by simp [List.mapM_cons,hv,IX],hvr,akF⟩
  ·cases h
def afL (sh:TypeId→Option (Bool×Nat)) (τ:St) (l:List ResultVar):Option AV:=
 match N9 sh τ l with
 |some [x]=>some (.o x)
 |some rs=>some (.t rs)
 |none=>none
theorem acR (hsh:∀t x,sh t=some x→Sh P t=some x) {c:Ctx} {T:a7} {β:Nat→Nat} {a:Act} {w:World} (hh:Holds N c T β τ a w) {fn:Func} {r:AV} (h:afL sh τ fn.results.toList=some r):∃v,(results fn a.tmps).run P w= .ok v w∧r.rel T β v:=by
 have key:∀rs,N9 sh τ fn.results.toList=some rs→∃vs:List Value,(fn.results.mapM (u7 a.tmps)).run P w= .ok vs.toArray w∧uE T β rs vs:=by
  intro rs hrs
  obtain ⟨vs,IX,cV⟩:=RC hsh hh hrs
  refine ⟨vs,?_,cV⟩
  rw [←Array.toArray_toList (xs:=fn.results),List.mapM_toArray]
  simp [IX]
 have ajh:∀vs:Array Value,(fn.results.mapM (u7 a.tmps)).run P w= .ok vs w→(results fn a.tmps).run P w= .ok (if h:vs.size=1 then vs[0] else .tuple vs) w:=by
  intro vs IX
  have e:results fn a.tmps=(do let vs←fn.results.mapM (u7 a.tmps);pure (if h:vs.size=1 then vs[0] else .tuple vs)):=by
   unfold results
   congr 1
  rw [e]
  simp [IX]
 unfold afL at h
 split at h
 ·rename_i x hx
  cases h
  obtain ⟨vs,IX,cV⟩:=key _ hx
  match vs,cV with
  |[v],cV=>exact ⟨v,by rw [ajh _ IX];simp,cV.1⟩
 ·rename_i rs fq hx
  cases h
  obtain ⟨vs,IX,cV⟩:=key _ hx
  refine ⟨.tuple vs.toArray,?_,vs.toArray,rfl,by simpa using cV⟩
  rw [ajh _ IX]
  have hl:=RL cV
  have:¬(vs.toArray.size=1):=by
   intro h1
   match rs,hl with
   |[x],_=>exact fq x rfl
   |[],hl=>simp at hl h1;omega
   |_::_::_,hl=>simp at hl h1;omega
  rw [dif_neg this]
 ·cases h
def DN (τ:St) (own:List Nat):SV→Option (Prop×SV)
 | .v (.bool b)=>some (True, .q b)
 | .xs i sz o m=>match il own i with
  |true=>some (True, .xs i sz o m)
  |false=>match τ (.b i) with
   |some (.rs ek l)=>bif Nat.beq ek.length sz&&(Nat.ble 1000 i&&Nat.blt i 1000000000) then some (o+m≤l.length, .vw ek ((l.drop o).take m)) else none
   |_=>none
 | .bp i o=>bif il own i then some (True, .bp i o) else none
 | .xp i sz k j=>bif il own i then some (True, .xp i sz k j) else none
 | .vz _ _=>none
 | .vp _ _ _=>none
 | .vs _ _=>none
 |x=>some (True,x)
def xU (τ:St) (own:List Nat):List SV→Option (Prop×List SV)
 |[]=>some (True,[])
 |x::l=>match DN τ own x,xU τ own l with
  |some (p,y),some (q,m)=>some (p∧q,y::m)
  |_,_=>none
def uV (τ:St) (own:List Nat):A0→Option (Prop×A0)
 | .s x=>match DN τ own x with
  |some (p,y)=>some (p, .s y)
  |none=>none
 | .a l=>match xU τ own l with
  |some (p,m)=>some (p, .a m)
  |none=>none
def A6 (τ:St) (own:List Nat):List A0→Option (Prop×List A0)
 |[]=>some (True,[])
 |x::l=>match uV τ own x,A6 τ own l with
  |some (p,y),some (q,m)=>some (p∧q,y::m)
  |_,_=>none
def xV (τ:St) (own:List Nat):AV→Option (Prop×AV)
 | .o x=>match uV τ own x with
  |some (p,y)=>some (p, .o y)
  |none=>none
 | .t l=>match A6 τ own l with
  |some (p,m)=>some (p, .t m)
  |none=>none
 |_=>none
def SV.od:SV→Bool
 | .vz _ _=>false
 | .vp _ _ _=>false
 | .vs _ _=>false
 |_=>true
def zV:List SV→Bool
 |[]=>true
 |x::l=>x.od&&zV l
def A0.od:A0→Bool
 | .s x=>x.od
 | .a l=>zV l
def uC:List A0→Bool
 |[]=>true
 |x::l=>x.od&&uC l
def AV.od:AV→Bool
 | .o x=>x.od
 | .t l=>uC l
 |_=>true
theorem GJ {own:List Nat} {x y:SV} {p:Prop} (h:DN τ own x=some (p,y)):y.od=true:=by
 unfold DN at h
 split at h
 ·cases h;rfl
 ·split at h
  ·cases h;rfl
  ·split at h
   ·cases hc:(Nat.beq _ _&&(Nat.ble 1000 _&&Nat.blt _ 1000000000):Bool) with
    |false=>rw [hc] at h;cases h
    |true=>rw [hc] at h;cases h;rfl
   ·cases h
 ·cases hc:il own _ with
  |false=>rw [hc] at h;cases h
  |true=>rw [hc] at h;cases h;rfl
 ·cases hc:il own _ with
  |false=>rw [hc] at h;cases h
  |true=>rw [hc] at h;cases h;rfl
 ·cases h
 ·cases h
 ·cases h
 ·rename_i h1 h2 h3 h4 h5 h6
  cases h
  cases x with
  |vz ek l=>exact absurd rfl (h4 ek l)
  |vp ek r j=>exact absurd rfl (h5 ek r j)
  |vs l j=>exact absurd rfl (h6 l j)
  |_=>rfl
theorem uU {own:List Nat}:∀ {x y:List SV} {p:Prop},xU τ own x=some (p,y)→zV y=true
 |[],y,p,h=>by cases h;rfl
 |x::l,y,p,h=>by
  simp only [xU] at h
  split at h
  ·rename_i h1 h2
   cases h
   simp [zV,GJ h1,uU h2]
  ·cases h
theorem DP {own:List Nat} {x y:A0} {p:Prop} (h:uV τ own x=some (p,y)):y.od=true:=by
 cases x with
 |s x=>
  simp only [uV] at h
  split at h
  ·rename_i h1;cases h;exact GJ h1
  ·cases h
 |a l=>
  simp only [uV] at h
  split at h
  ·rename_i h1;cases h;exact uU h1
  ·cases h
theorem DO {own:List Nat}:∀ {x y:List A0} {p:Prop},A6 τ own x=some (p,y)→uC y=true
 |[],y,p,h=>by cases h;rfl
 |x::l,y,p,h=>by
  simp only [A6] at h
  split at h
  ·rename_i h1 h2
   cases h
   simp [uC,DP h1,DO h2]
  ·cases h
theorem Q0 {own:List Nat} {x y:AV} {p:Prop} (h:xV τ own x=some (p,y)):y.od=true:=by
 cases x with
 |o x=>
  simp only [xV] at h
  split at h
  ·rename_i h1;cases h;exact DP h1
  ·cases h
 |t l=>
  simp only [xV] at h
  split at h
  ·rename_i h1;cases h;exact DO h1
  ·cases h
 |rs ek l=>cases h
 |zz=>cases h
 |fn f l=>cases h
theorem SV.oc {g:Nat→Nat} {x:SV}:(x.lx g).od=x.od:=by cases x<;>rfl
theorem MX {g:Nat→Nat}:∀ {l:List SV},zV (BF g l)=zV l
 |[]=>rfl
 |x::l=>by simp [BF,zV,SV.oc,MX (l:=l)]
theorem A0.oc {g:Nat→Nat} {x:A0}:(x.lx g).od=x.od:=by
 cases x with
 |s x=>exact SV.oc
 |a l=>exact MX
theorem MW {g:Nat→Nat}:∀ {l:List A0},uC (BE g l)=uC l
 |[]=>rfl
 |x::l=>by simp [BE,uC,A0.oc,MW (l:=l)]
theorem AV.oc {g:Nat→Nat} {x:AV}:(x.lx g).od=x.od:=by
 cases x with
 |o x=>exact A0.oc
 |t l=>exact MW
 |_=>rfl
noncomputable def sC (T:a7) (β:Nat→Nat) (τ:St) (W w:World) (own:List Nat):a7:=fun b=>
 match T b with
 |some (.bx n)=>open Classical in if W.heap.size≤b∧¬(∃i∈own,live τ i∧β i=b) then (match w.heap[b]? with
  |some (.cells cs e fr)=>some (.ro cs e fr)
  |_=>some (.bx n)) else some (.bx n)
 |k=>k.map BK.un
section
variable {c:Ctx} {T:a7} {β:Nat→Nat} {a:Act} {w:World} {own:List Nat}
theorem aar {W:World} {b n:Nat} {ek:EK} (h:T b=some (.ty ek n)):sC T β τ W w own b=some (.ty ek n):=by
 unfold sC;rw [h];rfl
theorem aas {W:World} {b:Nat} {cs:Array Value} {e:TypeId} {fr:Nat×Nat} (h:T b=some (.ro cs e fr)):sC T β τ W w own b=some (.ro cs e fr):=by
 unfold sC;rw [h];rfl
theorem UL {W:World} {i n:Nat} (h:T (β i)=some (.bx n)) (hi:i∈own) (hl:live τ i):sC T β τ W w own (β i)=some (.bx n):=by
 unfold sC
 rw [h]
 simp only
 rw [if_neg]
 rintro ⟨_,h⟩
 exact h ⟨i,hi,hl,rfl⟩
theorem acj {W:World} {i n:Nat} {cs:Array Value} {e:TypeId} {fr:Nat×Nat} (hh:Holds N c T β τ a w) (h:T (β i)=some (.bx n)) (hi:i∉own) (hl:live τ i) (hb:w.heap[β i]?=some (.cells cs e fr)) (hW:W.heap.size≤β i):sC T β τ W w own (β i)=some (.ro cs e fr):=by
 unfold sC
 rw [h]
 simp only
 rw [if_pos,hb]
 refine ⟨hW,?_⟩
 rintro ⟨j,hj,hlj,e⟩
 exact hi (hh.inj j i hlj hl e ▸ hj)
theorem AZ {cs:Array Value} {ek:EK} {l z:List (EK.Ty ek)} (h:cs.toList=flat ek (l++z)) (o m:Nat):win cs (o * ek.length) (flat ek ((l.drop o).take m)):=by
 intro j v hj
 have h1:(flat ek ((l.drop o).take m))[j]?=((flat ek l).drop (o * ek.length))[j]?:=by
  rw [o7,←mX,List.getElem?_take]
  split
  ·rfl
  ·rename_i bM
   exfalso
   have:=(List.getElem?_eq_some_iff.1 hj).1
   rw [←mX,List.length_take] at this
   omega
 rw [h1,List.getElem?_drop] at hj
 have h2:cs.toList[o * ek.length+j]?=some v:=by
  rw [h,gu]
  exact List.getElem?_append_left (List.getElem?_eq_some_iff.1 hj).1 ▸ hj
 simpa using h2
theorem LH (hh:Holds N c T β τ a w) (oa:∀i∈own,τ (.b i)≠none→live τ i) {x y:SV} {p:Prop} (h:DN τ own x=some (p,y)) (hp:p) {v:Value} (hnm:∀i∈x.boxes,τ (.b i)≠none) (hr:x.rel T β v):y.rel (sC T β τ c.W w own) β v∧∀i∈y.boxes,i∈own:=by
 cases x with
 |v x=>cases x<;>(cases h;exact ⟨hr,by simp [SV.boxes]⟩)
 |q b=>cases h;exact ⟨hr,by simp [SV.boxes]⟩
 |bp i o=>
  simp only [DN] at h
  cases hm:il own i with
  |false=>rw [hm] at h;cases h
  |true=>rw [hm] at h;cases h;exact ⟨hr,by simp [SV.boxes];exact fp.1 hm⟩
 |xp i sz k j=>
  simp only [DN] at h
  cases hm:il own i with
  |false=>rw [hm] at h;cases h
  |true=>rw [hm] at h;cases h;exact ⟨hr,by simp [SV.boxes];exact fp.1 hm⟩
 |xs i sz o m=>
  simp only [DN] at h
  cases hm:il own i with
  |true=>
   rw [hm] at h;cases h
   have hi:=fp.1 hm
   refine ⟨?_,by simp [SV.boxes];exact hi⟩
   rcases hr with hr |⟨cap,n,h1,h2,h3,h4⟩
   ·exact .inl hr
   ·exact .inr ⟨cap,n,h1,h2,UL h3 hi (oa i hi (hnm i (by simp [SV.boxes]))),h4⟩
  |false=>
   rw [hm] at h
   simp only at h
   split at h
   ·rename_i ek l hb
    cases hc:Nat.beq ek.length sz&&(Nat.ble 1000 i&&Nat.blt i 1000000000) with
    |false=>rw [hc] at h;cases h
    |true=>
     rw [hc] at h;cases h
     simp only [Bool.and_eq_true] at hc
     have db:ek.length=sz:=by simpa using hc.1
     subst db
     have ajD:1000≤i:=cH hc.2.1
     have hM:i < 1000000000:=cH hc.2.2
     refine ⟨?_,by simp [SV.boxes]⟩
     have hlen:((l.drop o).take m).length=m:=by simp;omega
     rcases hr with ⟨rfl,p,e⟩ |⟨cap,n,h1,h2,h3,h4⟩
     ·exact .inl ⟨by simp,p,0,e⟩
     ·have hl:live τ i:=ey hb (by intro e;cases e)
      obtain ⟨cs,te,hc1,fq,z,j7,hz⟩:=hh.boxes i _ hb (by intro e;cases e)
      refine .inr ⟨β i,o * ek.length,cap,cs,te,(0,0),by rw [hlen];exact h1,by rw [hlen];exact h2,?_,AZ j7 o m⟩
      exact acj hh h3 (fun hi=>by have:=fp.2 hi;rw [hm] at this;cases this) hl hc1 ((hh.apart i hl).2.2.1 ajD hM)
   ·cases h
 |ep ek j=>cases h;obtain ⟨b,o,n,h1,h2,h3⟩:=hr;exact ⟨⟨b,o,n,h1,aar h2,h3⟩,by simp [SV.boxes]⟩
 |sl ek len=>
  cases h
  refine ⟨?_,by simp [SV.boxes]⟩
  rcases hr with hr |⟨b,o,cap,n,h1,h2,h3,h4⟩
  ·exact .inl hr
  ·exact .inr ⟨b,o,cap,n,h1,h2,aar h3,h4⟩
 |vw ek l=>
  cases h
  refine ⟨?_,by simp [SV.boxes]⟩
  rcases hr with hr |⟨b,o,cap,cs,e,fr,h1,h2,h3,h4⟩
  ·exact .inl hr
  ·exact .inr ⟨b,o,cap,cs,e,fr,h1,h2,aas h3,h4⟩
 |vz ek l=>cases h
 |vp ek x j=>cases h
 |vs l j=>cases h
 |er b=>cases h;exact ⟨hr,by simp [SV.boxes]⟩
 |e0=>cases h;exact ⟨hr,by simp [SV.boxes]⟩
theorem xT (hh:Holds N c T β τ a w) (oa:∀i∈own,τ (.b i)≠none→live τ i):∀ {x y:List SV} {p:Prop},xU τ own x=some (p,y)→p→∀ {v:List Value},(∀i∈bX x,τ (.b i)≠none)→ee T β x v→ee (sC T β τ c.W w own) β y v∧∀i∈bX y,i∈own
 |[],y,p,h,hp,v,hnm,hr=>by
  cases h
  cases v with
  |nil=>exact ⟨trivial,by simp [bX]⟩
  |cons _ _=>exact hr.elim
 |x::l,y,p,h,hp,v,hnm,hr=>by
  simp only [xU] at h
  split at h
  ·rename_i p1 y1 q1 m1 h1 h2
   cases h
   cases v with
   |nil=>exact hr.elim
   |cons v vs=>
    simp only [bX,List.mem_append] at hnm
    have g1:=LH hh oa h1 hp.1 (fun i hi=>hnm i (.inl hi)) hr.1
    have g2:=xT hh oa h2 hp.2 (fun i hi=>hnm i (.inr hi)) hr.2
    refine ⟨⟨g1.1,g2.1⟩,fun i hi=>?_⟩
    simp only [bX,List.mem_append] at hi
    rcases hi with hi |hi
    ·exact g1.2 i hi
    ·exact g2.2 i hi
  ·cases h
theorem GM (hh:Holds N c T β τ a w) (oa:∀i∈own,τ (.b i)≠none→live τ i) {x y:A0} {p:Prop} (h:uV τ own x=some (p,y)) (hp:p) {v:Value} (hnm:∀i∈x.boxes,τ (.b i)≠none) (hr:x.rel T β v):y.rel (sC T β τ c.W w own) β v∧∀i∈y.boxes,i∈own:=by
 cases x with
 |s x=>
  simp only [uV] at h
  split at h
  ·rename_i p1 y1 h1;cases h;exact LH hh oa h1 hp hnm hr
  ·cases h
 |a l=>
  simp only [uV] at h
  split at h
  ·rename_i p1 y1 h1
   cases h
   obtain ⟨cs,e,hl⟩:=hr
   have:=xT hh oa h1 hp hnm hl
   exact ⟨⟨cs,e,this.1⟩,this.2⟩
  ·cases h
theorem GK (hh:Holds N c T β τ a w) (oa:∀i∈own,τ (.b i)≠none→live τ i):∀ {x y:List A0} {p:Prop},A6 τ own x=some (p,y)→p→∀ {v:List Value},(∀i∈eN x,τ (.b i)≠none)→uE T β x v→uE (sC T β τ c.W w own) β y v∧∀i∈eN y,i∈own
 |[],y,p,h,hp,v,hnm,hr=>by
  cases h
  cases v with
  |nil=>exact ⟨trivial,by simp [eN]⟩
  |cons _ _=>exact hr.elim
 |x::l,y,p,h,hp,v,hnm,hr=>by
  simp only [A6] at h
  split at h
  ·rename_i p1 y1 q1 m1 h1 h2
   cases h
   cases v with
   |nil=>exact hr.elim
   |cons v vs=>
    simp only [eN,List.mem_append] at hnm
    have g1:=GM hh oa h1 hp.1 (fun i hi=>hnm i (.inl hi)) hr.1
    have g2:=GK hh oa h2 hp.2 (fun i hi=>hnm i (.inr hi)) hr.2
    refine ⟨⟨g1.1,g2.1⟩,fun i hi=>?_⟩
    simp only [eN,List.mem_append] at hi
    rcases hi with hi |hi
    ·exact g1.2 i hi
    ·exact g2.2 i hi
  ·cases h
theorem VC (hh:Holds N c T β τ a w) (oa:∀i∈own,τ (.b i)≠none→live τ i) {x y:AV} {p:Prop} (h:xV τ own x=some (p,y)) (hp:p) {v:Value} (hnm:∀i∈x.boxes,τ (.b i)≠none) (hr:x.rel T β v):y.rel (sC T β τ c.W w own) β v∧∀i∈y.boxes,i∈own:=by
 cases x with
 |o x=>
  simp only [xV] at h
  split at h
  ·rename_i p1 y1 h1;cases h;exact GM hh oa h1 hp hnm hr
  ·cases h
 |t l=>
  simp only [xV] at h
  split at h
  ·rename_i p1 y1 h1
   cases h
   obtain ⟨cs,e,hl⟩:=hr
   have:=GK hh oa h1 hp hnm hl
   exact ⟨⟨cs,e,this.1⟩,this.2⟩
  ·cases h
 |rs ek l=>cases h
 |zz=>cases h
 |fn f l=>cases h
end
end
end GL
namespace GL
def rZ (T:a7) (β:Nat→Nat):List AV→List Value→Prop
 |[],[]=>True
 |x::l,y::r=>x.rel T β y∧rZ T β l r
 |_,_=>False
theorem G1 {T:a7} {β:Nat→Nat}:∀ {l:List AV} {cs:List Value},rZ T β l cs→l.length=cs.length
 |[],[],_=>rfl
 |_::_,[],h=>h.elim
 |[],_::_,h=>h.elim
 |_::l,_::cs,h=>by simp [G1 h.2]
theorem OA {T:a7} {β:Nat→Nat}:∀ {l:List AV} {cs:List Value},rZ T β l cs→∀ {i:Nat} {x:AV},l[i]?=some x→∃v,cs[i]?=some v∧x.rel T β v
 |[],[],_,i,x,hx=>by simp at hx
 |_::_,[],h,_,_,_=>h.elim
 |[],_::_,h,_,_,_=>h.elim
 |y::l,v::cs,h,i,x,hx=>by
  cases i with
  |zero=>simp at hx;subst hx;exact ⟨v,by simp,h.1⟩
  |succ i=>simpa using OA h.2 (by simpa using hx)
structure UY (T:a7):Prop where
 no:∀b ek n cs,T b≠some (.fz ek n cs)
 qF:YS T
structure aaJ (W:World) (T:a7) (β:Nat→Nat) (bs:List AV):Prop where
 D8:bs.length≤1000
 at_:∀i av,bs[i]?=some av→av≠.zz∧(∃n,T (β i)=some (.bx n))∧(∃cs e,W.heap[β i]?=some (.cells cs e (0,0))∧av.rN T β cs)∧∀j∈av.boxes,j < bs.length
 inj:∀i j,i < bs.length→j < bs.length→β i=β j→i=j
structure KO (W:World) (k:Nat) (mv:Bool) (β:Nat→Nat) (T':a7) (β':Nat→Nat) (w':World) (os:List AV):Prop where
 len:k≤os.length
 same:∀i,i < k→β' i=β i
 at_:∀i av,os[i]?=some av→av≠.zz→(∃n,T' (β' i)=some (.bx n))∧(k≤i→W.heap.size≤β' i∨(mv=true∧∃j,j < k∧β' i=β j))∧(∃cs e,w'.heap[β' i]?=some (.cells cs e (0,0))∧av.rN T' β' cs)∧(∀j∈av.boxes,j < os.length)∧av.od=true
 inj:∀i j av av',os[i]?=some av→av≠.zz→os[j]?=some av'→av'≠.zz→β' i=β' j→i=j
structure aaK (W:World) (T:a7) (β:Nat→Nat) (k:Nat) (T':a7) (w':World):Prop where
 typed:WT T' w'
 aiX:UY T'
 new:∀b,b < W.heap.size→T' b=T b
 frame:∀b,b < W.heap.size→(∀i,i < k→b≠β i)→quiet (T b)→w'.heap[b]?=W.heap[b]?
 gG:W.heap.size≤w'.heap.size
 os:w'.os=W.os
 tape:w'.tape=W.tape
 output:w'.output=W.output
def TC (P:Program) (f:FuncId) (mv:Bool) (args bs:List AV) (post:AV→List AV→Prop):Prop:=
 ∀(W:World) (T:a7) (β:Nat→Nat) (vs:List Value),WT T W→UY T→rZ T β args vs→(∀av∈args,∀i∈av.boxes,i < bs.length)→aaJ W T β bs→
  Calls P f vs.toArray W fun e w'=>∃v r os T' β',e= .returned v∧post r os∧r.rel T' β' v∧((∀i∈r.boxes,i < os.length)∧r.od=true)∧aaK W T β bs.length T' w'∧KO W bs.length mv β T' β' w' os
theorem TC.mono {P:Program} {f:FuncId} {mv:Bool} {args bs:List AV} {post RX:AV→List AV→Prop} (h:TC P f mv args bs post) (hp:∀r os,post r os→RX r os):TC P f mv args bs RX:=by
 intro W T β vs h1 h2 h3 h4 h5
 exact (h W T β vs h1 h2 h3 h4 h5).mono fun e w' ⟨v,r,os,T',β',e1,e2,e3⟩=>⟨v,r,os,T',β',e1,hp _ _ e2,e3⟩
def UI:Nat→List AV→AM
 |_,[]=>[]
 |i,av::l=>(.s i,av)::UI (i+1) l
def EA:Nat→List AV→AM
 |_,[]=>[]
 |i,av::l=>(.b i,av)::EA (i+1) l
def DT:St:=fun _=>none
def entry (args bs:List AV):St:=DT.ap (UI 0 args++EA 0 bs)
theorem NA {av:AV} {r:fC}:∀ {l:List AV} {i:Nat},(r,av)∈UI i l→∃j,r= .s (i+j)∧l[j]?=some av
 |[],_,h=>by cases h
 |x::l,i,h=>by
  rcases List.mem_cons.1 h with h |h
  ·cases h;exact ⟨0,rfl,by simp⟩
  ·obtain ⟨j,hj,hl⟩:=NA h
   exact ⟨j+1,by rw [hj];congr 1;omega,by simpa using hl⟩
theorem NB {av:AV} {r:fC}:∀ {l:List AV} {i:Nat},(r,av)∈EA i l→∃j,r= .b (i+j)∧l[j]?=some av
 |[],_,h=>by cases h
 |x::l,i,h=>by
  rcases List.mem_cons.1 h with h |h
  ·cases h;exact ⟨0,rfl,by simp⟩
  ·obtain ⟨j,hj,hl⟩:=NB h
   exact ⟨j+1,by rw [hj];congr 1;omega,by simpa using hl⟩
theorem NC:∀ {l:List AV} {i j:Nat} {av:AV},l[j]?=some av→(.b (i+j),av)∈EA i l
 |[],_,j,av,h=>by simp at h
 |x::l,i,0,av,h=>by simp at h;subst h;simp [EA]
 |x::l,i,j+1,av,h=>by
  have:=NC (i:=i+1) (j:=j) (l:=l) (av:=av) (by simpa using h)
  simp only [EA,List.mem_cons]
  right
  have e:i+1+j=i+(j+1):=by omega
  rwa [e] at this
theorem jt {args bs:List AV} {r:fC} {av:AV} (h:entry args bs r=some av):(∃j,r= .s j∧args[j]?=some av)∨∃j,r= .b j∧bs[j]?=some av:=by
 unfold entry at h
 rcases St.AL (τ:=DT) (u:=UI 0 args++EA 0 bs) (r:=r) with ⟨v,hv,hm⟩ |⟨hv,_⟩
 ·rw [h] at hv;cases hv
  rcases List.mem_append.1 hm with hm |hm
  ·obtain ⟨j,hj,hl⟩:=NA hm;exact .inl ⟨j,by simpa using hj,hl⟩
  ·obtain ⟨j,hj,hl⟩:=NB hm;exact .inr ⟨j,by simpa using hj,hl⟩
 ·rw [h] at hv;cases hv
theorem xc {args bs:List AV} {i:Nat} (h:i < bs.length):entry args bs (.b i)≠none:=by
 intro hn
 unfold entry at hn
 rcases St.AL (τ:=DT) (u:=UI 0 args++EA 0 bs) (r:=.b i) with ⟨v,hv,_⟩ |⟨_,uy⟩
 ·rw [hn] at hv;cases hv
 ·refine uy (.b i,bs[i]) ?_ rfl
  refine List.mem_append_right _ ?_
  have:=NC (l:=bs) (i:=0) (j:=i) (List.getElem?_eq_getElem h)
  simpa using this
def cy:Nat→Nat→List Nat
 |_,0=>[]
 |i,n+1=>i::cy (i+1) n
theorem fQ {j:Nat}:∀ {n i:Nat},j∈cy i n↔i≤j∧j < i+n
 |0,i=>by simp [cy]<;>omega
 |n+1,i=>by simp only [cy,List.mem_cons,fQ (n:=n)];omega
theorem kH:∀(n i:Nat),(cy i n).length=n
 |0,_=>rfl
 |n+1,i=>by simp [cy,kH n]
theorem jF:∀(n i j:Nat),j < n→(cy i n)[j]?=some (i+j)
 |0,_,_,h=>by omega
 |n+1,i,0,_=>by simp [cy]
 |n+1,i,j+1,h=>by
  simp only [cy,List.getElem?_cons_succ]
  rw [jF n (i+1) j (by omega)]
  congr 1;omega
def isLive (τ:St) (i:Nat):Bool:=match τ (.b i) with
 |none=>false
 |some .zz=>false
 |some _=>true
theorem tJ {τ:St} {i:Nat}:isLive τ i=true↔live τ i:=by
 unfold isLive live
 cases τ (.b i) with
 |none=>simp
 |some av=>cases av<;>simp
def idxOf:List Nat→Nat→Nat
 |[],_=>0
 |x::l,i=>bif Nat.beq x i then 0 else idxOf l i+1
theorem su:∀ {l:List Nat} {i:Nat},i∈l→l[idxOf l i]?=some i∧idxOf l i < l.length
 |[],_,h=>by cases h
 |x::l,i,h=>by
  simp only [idxOf]
  cases hb:Nat.beq x i with
  |true=>
   have:x=i:=by simpa using hb
   subst this;simp
  |false=>
   have fq:x≠i:=by intro e;subst e;simp at hb
   have hm:i∈l:=by
    rcases List.mem_cons.1 h with e |h
    ·exact absurd e.symm fq
    ·exact h
   have h:=su hm
   exact ⟨by simpa using h.1,by simpa using h.2⟩
def ac8 (τ:St) (own:List Nat) (i:Nat):Option (Prop×AV):=
 match τ (.b i) with
 |some (.o (.a l))=>match xU τ own l with
  |some (p,m)=>some (p, .o (.a m))
  |none=>none
 |some (.rs ek l)=>some (True, .rs ek l)
 |_=>some (True, .zz)
def agQ (τ:St) (own gone:List Nat) (i:Nat):Option (Prop×AV):=bif il gone i then some (True, .zz) else ac8 τ own i
def ac9 (V:Nat→Option (Prop×AV)) (g:Nat→Nat):List Nat→Option (Prop×List AV)
 |[]=>some (True,[])
 |i::l=>match V i,ac9 V g l with
  |some (p,x),some (q,m)=>some (p∧q,x.lx g::m)
  |_,_=>none
def nodupB:List Nat→Bool
 |[]=>true
 |i::l=> !(il l i)&&nodupB l
def HG (τ:St) (k:Nat) (ex dr:List Nat):List Nat:=(cy 0 k).filter (fun i=>isLive τ i&& !(il dr i))++ex
def nameOut (k:Nat) (ex:List Nat) (i:Nat):Nat:=bif il ex i then k+idxOf ex i else i
def agp (τ:St) (k:Nat) (mv:Bool) (i:Nat):Bool:=isLive τ i&&(mv||(Nat.ble 1000 i&&(Nat.blt i 1000000000||(cy 0 k).all (isLive τ))))
def ahp (sh:TypeId→Option (Bool×Nat)) (τ:St) (rs:List ResultVar) (k:Nat) (mv:Bool) (ex dr:List Nat):Option (Prop×AV×List AV):=
 match afL sh τ rs with
 |none=>none
 |some r0=>match xV τ (HG τ k ex dr) r0,ac9 (agQ τ (HG τ k ex dr) (ex++dr)) (nameOut k ex) (cy 0 k),ac9 (ac8 τ (HG τ k ex dr)) (nameOut k ex) ex with
  |some (p,r),some (q,os),some (q',os')=>bif (ex.all (agp τ k mv))&&(nodupB ex&&Nat.ble k 1000) then some ((p∧q)∧q',r.lx (nameOut k ex),os++os') else none
  |_,_,_=>none
def K5 (sh:TypeId→Option (Bool×Nat)) (rs:List ResultVar) (k:Nat) (mv:Bool) (post:AV→List AV→Prop):sO:=fun e τ=>
 match e with
 | .normal | .ret=>∃ex dr p r os,ahp sh τ rs k mv ex dr=some (p,r,os)∧p∧post r os
 |_=>False
theorem tu:∀ {l:List Nat},nodupB l=true→∀(i j:Nat) (x:Nat),l[i]?=some x→l[j]?=some x→i=j
 |[],_,i,j,x,h,_=>by simp at h
 |y::l,h,i,j,x,h1,h2=>by
  simp only [nodupB,Bool.and_eq_true,Bool.not_eq_true'] at h
  have hn:y∉l:=fun hm=>by rw [fp.2 hm] at h;exact absurd h.1 (by simp)
  cases i with
  |zero=>
   cases j with
   |zero=>rfl
   |succ j=>
    simp at h1 h2;subst h1
    exact absurd (List.mem_of_getElem? h2) hn
  |succ i=>
   cases j with
   |zero=>
    simp at h1 h2;subst h2
    exact absurd (List.mem_of_getElem? h1) hn
   |succ j=>
    simp at h1 h2
    rw [tu h.2 i j x h1 h2]
section
variable {N:Nat} {c:Ctx} {T:a7} {β:Nat→Nat} {τ:St} {a:Act} {w:World} {own:List Nat}
theorem zC (hh:Holds N c T β τ a w) (oa:∀i∈own,τ (.b i)≠none→live τ i) {i:Nat} {p:Prop} {x:AV} (h:ac8 τ own i=some (p,x)) (hp:p) (hz:x≠.zz):
  ∃cs e,w.heap[β i]?=some (.cells cs e (0,0))∧x.rN (sC T β τ c.W w own) β cs∧((∀j∈x.boxes,j∈own)∧x.od=true)∧live τ i:=by
 unfold ac8 at h
 split at h
 ·rename_i l hb
  split at h
  ·rename_i p1 m hs
   cases h
   obtain ⟨cs,e,h1,h2⟩:=hh.boxes i _ hb (by intro e;cases e)
   have:=xT hh oa hs hp (fun j hj=>hh.named (.b i) _ hb j hj) h2
   exact ⟨cs,e,h1,this.1,⟨this.2,uU hs⟩,ey hb (by intro e;cases e)⟩
  ·cases h
 ·rename_i ek l hb
  cases h
  obtain ⟨cs,e,h1,h2⟩:=hh.boxes i _ hb (by intro e;cases e)
  exact ⟨cs,e,h1,h2,⟨by simp [AV.boxes],rfl⟩,ey hb (by intro e;cases e)⟩
 ·cases h;exact absurd rfl hz
theorem OM {V:Nat→Option (Prop×AV)} {g:Nat→Nat}:∀ {l:List Nat} {p:Prop} {os:List AV},ac9 V g l=some (p,os)→p→os.length=l.length∧∀(j:Nat) (av:AV),os[j]?=some av→∃(i:Nat) (x:AV) (q:Prop),l[j]?=some i∧V i=some (q,x)∧q∧av=x.lx g
 |[],p,os,h,_=>by cases h;exact ⟨rfl,by simp⟩
 |i::l,p,os,h,hp=>by
  simp only [ac9] at h
  split at h
  ·rename_i p1 x q1 m h1 h2
   cases h
   obtain ⟨hl,xE⟩:=OM h2 hp.2
   refine ⟨by simp [hl],fun j av hj=>?_⟩
   cases j with
   |zero=>simp at hj;exact ⟨i,x,p1,by simp,h1,hp.1,hj.symm⟩
   |succ j=>simpa using xE j av (by simpa using hj)
  ·cases h
theorem E3 {g:Nat→Nat} {x:AV} (h:x.lx g≠.zz):x≠.zz:=fun e=>h (by subst e;rfl)
theorem agq {W:World} (h:WT T w):WT (sC T β τ W w own) w:=by
 intro b k hb
 unfold sC at hb
 split at hb
 ·rename_i n hT
  have hn:=h b _ hT
  split at hb
  ·split at hb
   ·rename_i cs e fr hc;cases hb;exact hc
   ·cases hb;exact hn
  ·cases hb;exact hn
 ·obtain ⟨k',hk',rfl⟩:=Option.map_eq_some_iff.1 hb
  have hk:=h b _ hk'
  cases k' with
  |ty ek n=>exact hk
  |ro cs e fr=>exact hk
  |ln cs e fr=>exact hk
  |fz ek n cs=>obtain ⟨h1,e,fr,l,h2⟩:=hk;exact ⟨h1,cs,e,fr,l,h2⟩
  |bx n=>exact hk
theorem ack {W:World} (hg:YS T):UY (sC T β τ W w own):=by
 refine ⟨?_,fun g hm=>by obtain ⟨cs,e,fr,h1,h2⟩:=hg g hm;exact ⟨cs,e,fr,aas h1,h2⟩⟩
 intro b ek n cs hb
 unfold sC at hb
 split at hb
 ·split at hb
  ·split at hb<;>cases hb
  ·cases hb
 ·obtain ⟨k',_,hk⟩:=Option.map_eq_some_iff.1 hb
  cases k'<;>cases hk
end
theorem tR {P:Program} {N:Nat} {sh:TypeId→Option (Bool×Nat)} (hsh:∀t x,sh t=some x→Sh P t=some x) {fn:Func} {args bs:List AV} {mv:Bool} {post:AV→List AV→Prop} {W:World} {T0:a7} {β0:Nat→Nat} (hnf:UY T0) (ak7:bs.length≤1000)
  {τ:St} {a:Act} {w:World} (hr:Rel N ⟨W,T0,(cy 0 bs.length).map β0⟩ τ a w) (h:∃ex dr p r os,ahp sh τ fn.results.toList bs.length mv ex dr=some (p,r,os)∧p∧post r os):
  ∃v,(results fn a.tmps).run P w= .ok v w∧∃r os T' β',post r os∧r.rel T' β' v∧((∀i∈r.boxes,i < os.length)∧r.od=true)∧aaK W T0 β0 bs.length T' w∧KO W bs.length mv β0 T' β' w os:=by
 obtain ⟨T,β,hh⟩:=hr
 obtain ⟨ex,dr,p,r,os,hX,hp,ajj⟩:=h
 unfold ahp at hX
 split at hX
 ·cases hX
 ·rename_i r0 hr0
  split at hX
  ·rename_i p1 r1 q1 os1 q2 os2 hs ho1 ho2
   cases hc:(ex.all (agp τ bs.length mv))&&(nodupB ex&&Nat.ble bs.length 1000) with
   |false=>rw [hc] at hX;cases hX
   |true=>
    rw [hc] at hX;cases hX
    simp only [Bool.and_eq_true] at hc
    obtain ⟨hex,hnd,_⟩:=hc
    have ag2:∀i,i < bs.length→live τ i→β i=β0 i:=fun i hi hl=>hh.handed i (β0 i) (by
     show ((cy 0 bs.length).map β0)[i]?=_
     rw [List.getElem?_map,jF _ _ _ hi];simp) hl
    have ahW:∀b,b∈(cy 0 bs.length).map β0→∃j,j < bs.length∧b=β0 j:=fun b hm=>by
     obtain ⟨j,hj,e⟩:=List.mem_map.1 hm
     exact ⟨j,by have:=fQ.1 hj;omega,e.symm⟩
    have aju:∀i∈ex,live τ i:=by
     intro i hi
     have:=List.all_eq_true.1 hex i hi
     unfold agp at this
     simp only [Bool.and_eq_true] at this
     exact tJ.1 this.1
    have ak8:∀i∈ex,W.heap.size≤β i∨(mv=true∧∃j,j < bs.length∧β i=β0 j):=by
     intro i hi
     have hl:=aju i hi
     have:=List.all_eq_true.1 hex i hi
     unfold agp at this
     simp only [Bool.and_eq_true,Bool.or_eq_true] at this
     obtain ⟨_,g1,g2,g3⟩:=hh.apart i hl
     rcases this.2 with hm |⟨h1,h2⟩
     ·rcases g3 with g3 |g3
      ·exact .inl g3
      ·exact .inr ⟨hm,ahW _ g3⟩
     ·have h1':1000≤i:=cH h1
      rcases h2 with h2 |h2
      ·exact .inl (g2 h1' (cH h2))
      ·rcases g3 with g3 |g3
       ·exact .inl g3
       ·exfalso
        obtain ⟨j,hj,e⟩:=ahW _ g3
        have hlj:=tJ.1 (List.all_eq_true.1 h2 j (fQ.2 ⟨by omega,by omega⟩))
        rw [←ag2 j hj hlj] at e
        have:=hh.inj i j hl hlj e
        omega
    obtain ⟨v,hv,hvr⟩:=acR hsh hh hr0
    have ag1:∀i∈HG τ bs.length ex dr,(i∈ex∨(i∉ex∧i < bs.length))∧live τ i:=by
     intro i hi
     by_cases hm:i∈ex
     ·exact ⟨.inl hm,aju i hm⟩
     ·rcases List.mem_append.1 hi with hi |hi
      ·have h1:=List.mem_filter.1 hi
       simp only [Bool.and_eq_true] at h1
       exact ⟨.inr ⟨hm,by have:=fQ.1 h1.1;omega⟩,tJ.1 h1.2.1⟩
      ·exact absurd hi hm
    have oa:∀i∈HG τ bs.length ex dr,τ (.b i)≠none→live τ i:=fun i hi _=>(ag1 i hi).2
    have akR:∀i∈r0.boxes,τ (.b i)≠none:=by
     have k1:∀ {x:ResultVar} {y:A0},VV sh τ x=some y→∀i∈y.boxes,τ (.b i)≠none:=by
      intro x y hy i hi
      cases x with
      |tmp t=>
       simp only [VV] at hy
       split at hy
       ·rename_i z hz;cases hy;exact hh.named (.s t) _ hz i hi
       ·cases hy
      |cell ad ty=>
       simp only [VV] at hy
       split at hy
       ·rename_i b _
        split at hy
        ·rename_i l hl
         split at hy
         ·rename_i n _
          cases hq:Nat.beq n l.length with
          |false=>rw [hq] at hy;cases hy
          |true=>rw [hq] at hy;cases hy;exact hh.named (.b b) _ hl i hi
         ·split at hy
          ·cases hy
           exact hh.named (.b b) _ hl i (by simpa [AV.boxes,A0.boxes,bX] using hi)
          ·cases hy
         ·cases hy
        ·cases hy
       ·cases hy
     have k2:∀ {l:List ResultVar} {ys:List A0},N9 sh τ l=some ys→∀i∈eN ys,τ (.b i)≠none:=by
      intro l
      induction l with
      |nil=>intro ys h i hi;simp only [N9] at h;cases h;simp [eN] at hi
      |cons x l ih=>
       intro ys h i hi
       simp only [N9] at h
       split at h
       ·rename_i y ys' h1 h2
        cases h
        simp only [eN,List.mem_append] at hi
        rcases hi with hi |hi
        ·exact k1 h1 i hi
        ·exact ih h2 i hi
       ·cases h
     unfold afL at hr0
     split at hr0
     ·rename_i x hx
      cases hr0
      intro i hi
      exact k2 hx i (by simp only [eN,List.append_nil];exact hi)
     ·rename_i ys _ hx;cases hr0;exact k2 hx
     ·cases hr0
    obtain ⟨cV,hrb⟩:=VC hh oa hs hp.1.1 akR hvr
    obtain ⟨aeo,ale⟩:=OM ho1 hp.1.2
    obtain ⟨ajo,ald⟩:=OM ho2 hp.2
    rw [kH] at aeo
    have hlen:(os1++os2).length=bs.length+ex.length:=by rw [List.length_append,aeo,ajo]
    let β':Nat→Nat:=fun j=>if j < bs.length then β0 j else match ex[j - bs.length]? with
     |some i=>β i
     |none=>0
    have hβex:∀j i,ex[j]?=some i→β' (bs.length+j)=β i:=fun j i hj=>by
     show (if bs.length+j < bs.length then _ else _)=_
     rw [if_neg (by omega),Nat.add_sub_cancel_left,hj]
    have hβin:∀j,j < bs.length→live τ j→β' j=β j:=fun j hj hl=>by
     show (if j < bs.length then _ else _)=_
     rw [if_pos hj]
     exact (ag2 j hj hl).symm
    have hg:∀i∈HG τ bs.length ex dr,β' (nameOut bs.length ex i)=β i∧nameOut bs.length ex i < (os1++os2).length:=fun i hi=>by
     unfold nameOut
     obtain ⟨h1,h2⟩:=ag1 i hi
     rcases h1 with h1 |⟨h1,h3⟩
     ·rw [fp.2 h1]
      have h4:=su h1
      exact ⟨hβex _ _ h4.1,by rw [hlen];show bs.length+_ < _;omega⟩
     ·have:il ex i=false:=by
       cases hm:il ex i with
       |false=>rfl
       |true=>exact absurd (fp.1 hm) h1
      rw [this]
      exact ⟨hβin i h3 h2,by rw [hlen];show i < _;omega⟩
    have qE:∀j av,(os1++os2)[j]?=some av→av≠.zz→∃(i:Nat) (x:AV) (q:Prop),ac8 τ (HG τ bs.length ex dr) i=some (q,x)∧q∧av=x.lx (nameOut bs.length ex)∧((j < bs.length∧i=j∧i∉ex∧i∈HG τ bs.length ex dr)∨(bs.length≤j∧ex[j - bs.length]?=some i)):=by
     intro j av hj hz
     by_cases hjk:j < bs.length
     ·rw [List.getElem?_append_left (by omega)] at hj
      obtain ⟨i,x,q,h1,h2,h3,h4⟩:=ale j av hj
      rw [jF _ _ _ hjk] at h1
      simp only [Nat.zero_add,Option.some.injEq] at h1
      subst h1
      unfold agQ at h2
      cases hm:il (ex++dr) j with
      |true=>rw [hm] at h2;cases h2;exact absurd (by rw [h4];rfl) hz
      |false=>
       rw [hm] at h2
       have hnm:∀l,l=ex∨l=dr→j∉l:=fun l hl cg=>by
        have:j∈ex++dr:=by
         rcases hl with rfl |rfl
         ·exact List.mem_append_left _ cg
         ·exact List.mem_append_right _ cg
        rw [fp.2 this] at hm;cases hm
       have hx0:x≠.zz:=fun e=>hz (by rw [h4,e];rfl)
       obtain ⟨_,_,_,_,_,hl⟩:=zC hh oa h2 h3 hx0
       refine ⟨j,x,q,h2,h3,h4, .inl ⟨hjk,rfl,hnm ex (.inl rfl),?_⟩⟩
       refine List.mem_append_left _ (List.mem_filter.2 ⟨fQ.2 ⟨by omega,by omega⟩,?_⟩)
       have:il dr j=false:=by
        cases hm2:il dr j with
        |false=>rfl
        |true=>exact absurd (fp.1 hm2) (hnm dr (.inr rfl))
       rw [tJ.2 hl,this];rfl
     ·rw [List.getElem?_append_right (by omega),aeo] at hj
      obtain ⟨i,x,q,h1,h2,h3,h4⟩:=ald _ av hj
      exact ⟨i,x,q,h2,h3,h4, .inr ⟨by omega,h1⟩⟩
    refine ⟨v,hv,_,os1++os2,sC T β τ W w (HG τ bs.length ex dr),β',ajj,AV.np (fun i hi=>(hg i (hrb i hi)).1) cV,⟨fun i hi=>?_,by rw [AV.oc];exact Q0 hs⟩,?_,?_⟩
    ·obtain ⟨j,hj,rfl⟩:=AV.fY hi
     exact (hg j (hrb j hj)).2
    ·exact {
      typed:=agq hh.typed
      aiX:=ack hh.qF
      new:=fun b hb=>by
       have h1:(T b).map BK.un=T0 b:=hh.old b hb
       unfold sC
       split
       ·rename_i n hT
        rw [if_neg (fun h=>by have:=h.1;omega)]
        rw [hT] at h1;exact h1
       ·exact h1
      frame:=fun b hb fq hq=>hh.frame b hb (fun hm=>by
       obtain ⟨i,hi,e⟩:=ahW b hm
       exact fq i hi e) hq
      gG:=hh.gG
      os:=hh.os
      tape:=hh.tape
      output:=hh.output }
    ·refine {
      len:=by rw [hlen];omega
      same:=fun i hi=>if_pos hi
      at_:=fun j av hj hz=>?_
      inj:=fun j j' av av' hj hz CR hz' e=>?_ }
     ·obtain ⟨i,x,q,hx,hq,rfl,sA⟩:=qE j av hj hz
      obtain ⟨cs,e,h1,h2,⟨h3,agh⟩,hl⟩:=zC hh oa hx hq (E3 hz)
      have eβ:β' j=β i:=by
       rcases sA with ⟨h4,rfl,_⟩ |⟨h4,h5⟩
       ·exact hβin _ h4 hl
       ·have:=hβex _ _ h5
        rwa [show bs.length+(j - bs.length)=j by omega] at this
      have yQ:i∈HG τ bs.length ex dr:=by
       rcases sA with ⟨_,_,_,h⟩ |⟨_,h⟩
       ·exact h
       ·exact List.mem_append_right _ (List.mem_of_getElem? h)
      obtain ⟨⟨n,hn⟩,_⟩:=hh.apart i hl
      rw [eβ]
      refine ⟨⟨n,UL hn yQ hl⟩,fun hk=>?_,⟨cs,e,h1,AV.FQ (fun i hi=>(hg i (h3 i hi)).1) h2⟩,fun y hy=>?_,by rw [AV.oc];exact agh⟩
      ·rcases sA with ⟨h4,_⟩ |⟨_,h5⟩
       ·omega
       ·exact ak8 i (List.mem_of_getElem? h5)
      ·obtain ⟨y',hy',rfl⟩:=AV.fY hy
       exact (hg y' (h3 y' hy')).2
     ·obtain ⟨i,x,q,hx,hq,rfl,sA⟩:=qE j av hj hz
      obtain ⟨i',x',q',hx',hq',rfl,XS⟩:=qE j' av' CR hz'
      obtain ⟨_,_,_,_,_,hl⟩:=zC hh oa hx hq (E3 hz)
      obtain ⟨_,_,_,_,_,hl'⟩:=zC hh oa hx' hq' (E3 hz')
      have eβ:∀(j i:Nat),live τ i→((j < bs.length∧i=j∧i∉ex∧i∈HG τ bs.length ex dr)∨(bs.length≤j∧ex[j - bs.length]?=some i))→β' j=β i:=by
       intro j i hl sA
       rcases sA with ⟨h4,rfl,_⟩ |⟨h4,h5⟩
       ·exact hβin _ h4 hl
       ·have:=hβex _ _ h5
        rwa [show bs.length+(j - bs.length)=j by omega] at this
      rw [eβ j i hl sA,eβ j' i' hl' XS] at e
      have eii:=hh.inj i i' hl hl' e
      subst eii
      rcases sA with ⟨h1,h2,h3,_⟩ |⟨h1,h2⟩
      ·rcases XS with ⟨_,h5,_⟩ |⟨_,h5⟩
       ·omega
       ·exact absurd (List.mem_of_getElem? h5) h3
      ·rcases XS with ⟨_,_,h5,_⟩ |⟨h4,h5⟩
       ·exact absurd (List.mem_of_getElem? h2) h5
       ·have:=tu hnd _ _ _ h2 h5
        omega
  ·cases hX
theorem TC.E7 {P:Program} {N:Nat} {S:Sm} {sh:TypeId→Option (Bool×Nat)} {f:FuncId} {fn:Func} {cd:Code} {args bs:List AV} {mv:Bool} {post:AV→List AV→Prop} (hm:P.follows .mixedOrders=true) (hS:YR P N S) (hsh:∀t x,sh t=some x→Sh P t=some x)
  (hf:P.funcs[f]?=some fn) (hb:fn.body=some cd) (hN:fn.ntmps=N) (hlen:args.length≤N)
  (h:vc P N S cd (entry args bs) (K5 sh fn.results.toList bs.length mv post)):TC P f mv args bs post:=by
 intro W T β0 vs hT hnf cV hbx qd
 refine calls_of_wp hf hb ?_
 have hvl:=G1 cV
 let c:Ctx:=⟨W,T,(cy 0 bs.length).map β0⟩
 have hlb:∀i,live (entry args bs) i→i < bs.length:=fun i hi=>by
  obtain ⟨av,hav⟩:=Option.ne_none_iff_exists'.1 (kB hi)
  rcases jt hav with ⟨j,e,_⟩ |⟨j,e,hj⟩
  ·cases e
  ·cases e;exact (List.getElem?_eq_some_iff.1 hj).1
 have ah2:Holds N c T β0 (entry args bs) { tmps:=vs.toArray++Array.replicate (fn.ntmps - vs.toArray.size) undef,defers:=[] } W:= {
  defs:=rfl
  size:=by simp;omega
  D8:=by show ((cy 0 bs.length).map β0).length≤1000;rw [List.length_map,kH];exact qd.D8
  iC:=fun i av hi=>by
   rcases jt hi with ⟨j,e,hj⟩ |⟨j,e,_⟩
   ·cases e
    obtain ⟨v,hv,hr⟩:=OA cV hj
    refine ⟨v,?_,hr⟩
    have CS:i < vs.length:=(List.getElem?_eq_some_iff.1 hv).1
    rw [Array.getElem?_append_left (by simpa using CS)]
    simpa using hv
   ·cases e
  boxes:=fun i av hi hz=>by
   rcases jt hi with ⟨j,e,_⟩ |⟨j,e,hj⟩
   ·cases e
   ·cases e;exact (qd.at_ i av hj).2.2.1
  apart:=fun i hi=>by
   have bM:=hlb i hi
   obtain ⟨_,h1,_⟩:=qd.at_ i _ (List.getElem?_eq_getElem bM)
   have cg:β0 i∈(cy 0 bs.length).map β0:=List.mem_map.2 ⟨i,fQ.2 ⟨by omega,by omega⟩,rfl⟩
   exact ⟨h1,fun _=>cg,fun h=>absurd qd.D8 (by omega), .inr cg⟩
  handed:=fun i b hb hi=>by
   have bM:=hlb i hi
   have hb':((cy 0 bs.length).map β0)[i]?=some b:=hb
   rw [List.getElem?_map,jF _ _ _ bM] at hb'
   simpa using hb'
  inj:=fun i j hi hj e=>qd.inj i j (hlb i hi) (hlb j hj) e
  named:=fun r av hr i hi=>by
   rcases jt hr with ⟨j,rfl,hj⟩ |⟨j,rfl,hj⟩
   ·exact xc (hbx av (List.mem_of_getElem? hj) i hi)
   ·exact xc ((qd.at_ j av hj).2.2.2 i hi)
  typed:=hT
  old:=fun b hb=>by
   show (T b).map BK.un=T b
   cases hk:T b with
   |none=>rfl
   |some k=>
    cases k with
    |fz ek n cs=>exact absurd hk (hnf.no b ek n cs)
    |_=>rfl
  frame:=fun _ _ _ _=>rfl
  gG:=Nat.le_refl _
  os:=rfl
  tape:=rfl
  output:=rfl
  qF:=hnf.qF }
 refine Code.wp_mono ?_ (gH hm hS cd _ _ h c _ W ⟨T,_,ah2⟩)
 rintro e a w ⟨τ,hr,hq⟩
 have hd:a.defers=[]:=by obtain ⟨_,_,hh⟩:=hr;exact hh.defs
 cases e with
 |normal=>
  obtain ⟨v,hv,r,os,T',β',h1⟩:=tR (args:=args) hsh hnf qd.D8 hr hq
  exact ⟨hd,v,hv,v,r,os,T',β',rfl,h1⟩
 |ret=>
  obtain ⟨v,hv,r,os,T',β',h1⟩:=tR (args:=args) hsh hnf qd.D8 hr hq
  exact ⟨hd,v,hv,v,r,os,T',β',rfl,h1⟩
 |_=>exact hq.elim
end GL
end Go.Proofs.YtbfgjadbfjkcdaaGreatDoor
