/- A drawn law returns true for every code (its row lists package variables, tied by the card): part 4. -/
import Derived.Test.YtkgpljpmdkflmaaGreatDoorPac
set_option maxHeartbeats 20000000
set_option maxRecDepth 100000
set_option linter.all false
namespace Go.Proofs.YtkgpljpmdkflmaaGreatDoor
namespace GL
section
variable {P:Program}{N:Nat}{τ:St}{Q':o8}{S:Sm}
theorem TW.aiW {cd:Code}{ι:Type}(I:ι→St) (φ:ι→Prop) (μ:ι→Nat) (x0:ι) (h0:φ x0) (hs:∃σ,Sub σ (I x0) τ)
  (tN:∀x,φ x→TW P N cd (I x) (zf (fun τ'=>∃y,φ y∧μ y < μ x∧∃σ,Sub σ (I y) τ') Q')):TW P N (.loop cd) τ Q':=fun c a w hr=>by
 classical
 let J:Act→World→Nat→Prop:=fun a w n=>∃x,μ x=n∧φ x∧Rel N c (I x) a w
 let m:Act→World→Nat:=fun a w=>if h:∃n,J a w n then Classical.epsilon (fun n=>J a w n∧∀k,J a w k→n≤k) else 0
 have hm:∀a w,(∃n,J a w n)→J a w (m a w)∧∀k,J a w k→m a w≤k:=by
  intro a w h
  have hex:∃n,J a w n∧∀k,J a w k→n≤k:=by
   obtain⟨n,hn⟩:=h
   induction n using Nat.strongRecOn with
   |_ n ih=>
    by_cases ahJ:∀k,J a w k→n≤k
    ·exact⟨n,hn,ahJ⟩
    ·simp only [Classical.not_forall] at ahJ
     obtain⟨k,hk,bV⟩:=ahJ
     exact ih k (by omega) hk
  have:m a w=Classical.epsilon (fun n=>J a w n∧∀k,J a w k→n≤k):=by
   simp only [m];rw [dif_pos h]
  rw [this]
  exact Classical.epsilon_spec hex
 obtain⟨σ0,hs0⟩:=hs
 refine wp_loop (fun a w=>∃n,J a w n) m ⟨μ x0,x0,rfl,h0,hr.sub hs0⟩ ?_
 intro a' w' hJ
 obtain⟨⟨x,hx,hφ,c7⟩,_⟩:=hm a' w' hJ
 refine Code.wp_mono ?_ (tN x hφ c a' w' c7)
 rintro e a2 w2 ⟨τ2,hr2,hq⟩
 cases e with
 |normal=>
  obtain⟨y,hy,bV,σ,afX⟩:=hq
  have hJ2:J a2 w2 (μ y):=⟨y,rfl,hy,hr2.sub afX⟩
  exact⟨⟨_,hJ2⟩,by rw [←hx];exact Nat.lt_of_le_of_lt ((hm a2 w2 ⟨_,hJ2⟩).2 _ hJ2) bV⟩
 |_=>exact⟨τ2,hr2,hq⟩
theorem TW.aiX (hm:P.follows .mixedOrders=true) (hS:UL P N S) {cd:Code}{ι:Type}(ca:List fK) (J:ι→AO) (φ:ι→Prop) (μ:ι→Nat) (x0:ι) (sg0:List (Nat×Nat)) (h0:φ x0) (hs:EP sg0 τ τ ca (J x0))
  (tN:∀x,φ x→vc P N S cd ((oO τ ca).ap (J x)) (zf (fun τ'=>∃y sg,φ y∧μ y < μ x∧EP sg τ τ' ca (J y)) Q')):TW P N (.loop cd) τ Q':=
 TW.aiW (fun x=>(oO τ ca).ap (J x)) φ μ x0 h0 ⟨_,GC hs⟩ fun x hx=>(gq hm hS _ _ _ (tN x hx)).mono fun e τ' hq=>by
  cases e with
  |normal=>
   obtain⟨y,sg,h1,h2,h3⟩:=hq
   exact⟨y,h1,h2,_,GC h3⟩
  |_=>exact hq
theorem TW.af6 {cd:Code}(ca:List fK) (u:AO) (sg:List (Nat×Nat)) (h:EP sg τ τ ca u) (hk:TW P N cd ((oO τ ca).ap u) Q'):TW P N cd τ Q':=fun c a w hr=>hk c a w (hr.sub (GC h))
def Sh (P:Program) (t:TypeId):Option (Bool×Nat):=
 match P.underlying t,P.info? t with
 |some (.struct _),some i |some (.array _ _),some i=>some (true,i.size)
 |some _,some i=>some (false,i.size)
 |_,_=>none
theorem qJ {t:TypeId}{b:Bool}{n:Nat}(h:Sh P t=some (b,n)) (w:World):(isAgg t).run P w= .ok b w∧(sizeOf t).run P w= .ok n w:=by
 unfold Sh at h
 cases hu:P.underlying t with
 |none=>rw [hu] at h;simp at h
 |some d=>
  cases hi:P.info? t with
  |none=>rw [hu,hi] at h;cases d<;>simp at h
  |some i=>
   rw [hu,hi] at h
   refine⟨?_,?_⟩
   ·cases d<;>simp at h<;>simp [isAgg,run_underlying hu,h.1]
   ·cases d<;>simp at h<;>simp [sizeOf,typeInfo,hi,h.2]
theorem uv {t:TypeId}{n:Nat}(h:Sh P t=some (true,n)) {w:World}{a:Addr}{cs:List Value}(hn:cs.length=n) (hc:∀j v,cs[j]?=some v→w.cell? (a.add j)=some v):
  (loadVar t a).run P w= .ok (.agg cs.toArray) w:=by
 obtain⟨h1,h2⟩:=qJ h w
 have h3:=run_loadCells_list (P:=P) w a cs hc
 rw [hn] at h3
 simp [loadVar,h1,h2,h3]
theorem uu {t:TypeId}{n:Nat}(h:Sh P t=some (false,n)) {w:World}{a:Addr}{v:Value}(hc:w.cell? a=some v):(loadVar t a).run P w= .ok v w:=by
 obtain⟨h1,_⟩:=qJ h w
 simp [loadVar,h1,hc]
theorem ry {w:World}{b:Nat}{cs:Array Value}{e:TypeId}{fr:Nat×Nat}(h:w.heap[b]?=some (.cells cs e fr)) (o:Nat):w.cell? ⟨b,o,none⟩=cs[o]?:=by simp [World.cell?,h]
theorem ga (b o j:Nat):(⟨b,o,none⟩:Addr).add j=⟨b,o+j,none⟩:=by
 unfold Addr.add
 split
 ·rename_i h;subst h;rfl
 ·rfl
def VJ (sh:TypeId→Option (Bool×Nat)) (τ:St):ResultVar→Option A0
 |.tmp t=>match τ (.s t) with
  |some (.o x)=>some x
  |_=>none
 |.cell ad ty=>match τ (.s ad) with
  |some (.o (.s (.bp i 0)))=>match τ (.b i) with
   |some (.o (.a l))=>match sh ty with
    |some (true,n)=>bif Nat.beq n l.length then some (.a l) else none
    |some (false,_)=>match l with
     |[x]=>some (.s x)
     |_=>none
    |none=>none
   |_=>none
  |_=>none
def vd (tmps:Array Value):ResultVar→Sem Value
 |.tmp t=>pure (tmps.getD t undef)
 |.cell a t=>do loadVar t (←asAddr (tmps.getD a undef))
variable {sh:TypeId→Option (Bool×Nat)}
theorem acG (hsh:∀t x,sh t=some x→Sh P t=some x) {c:Ctx}{T:bb}{β:Nat→Nat}{a:Act}{w:World}(hh:Holds N c T β τ a w) {x:ResultVar}{r:A0}(h:VJ sh τ x=some r):∃v,(vd a.tmps x).run P w= .ok v w∧r.rel T β v:=by
 cases x with
 |tmp t=>
  simp only [VJ] at h
  split at h
  ·rename_i y hy
   cases h
   obtain⟨v,hv,hr⟩:=hh.iK t _ hy
   exact⟨v,by simp [vd,hv],hr⟩
  ·cases h
 |cell ad ty=>
  simp only [VJ] at h
  split at h
  ·rename_i i hy
   split at h
   ·rename_i l hl
    obtain⟨v,hv,hr⟩:=hh.iK ad _ hy
    have uN:v= .pointer (some ⟨β i,0,none⟩):=hr
    subst uN
    obtain⟨cs,e,hb,c7⟩:=hh.boxes i _ hl (by intro e;cases e)
    have vF:dO T β l cs.toList:=c7
    have hlen:=jl vF
    split at h
    ·rename_i n hS
     cases hbq:Nat.beq n l.length with
     |false=>rw [hbq] at h;cases h
     |true=>
      rw [hbq] at h;cases h
      have hn:n=l.length:=by simpa using hbq
      subst hn
      refine⟨.agg cs,?_,cs,rfl,vF⟩
      have:=uv (P:=P) (hsh _ _ hS) (w:=w) (a:=⟨β i,0,none⟩) (cs:=cs.toList) hlen.symm (fun j v hj=>by
       rw [ga,ry hb];simpa using hj)
      simpa [vd,hv,asAddr] using this
    ·rename_i n hS
     split at h
     ·rename_i y
      cases h
      obtain⟨v0,hv0,hr0⟩:=qX vF (i:=0) (x:=y) rfl
      refine⟨v0,?_,hr0⟩
      have:=uu (P:=P) (hsh _ _ hS) (w:=w) (a:=⟨β i,0,none⟩) (v:=v0) (by rw [ry hb];simpa using hv0)
      simpa [vd,hv,asAddr] using this
     ·cases h
    ·cases h
   ·cases h
  ·cases h
def N5 (sh:TypeId→Option (Bool×Nat)) (τ:St):List ResultVar→Option (List A0)
 |[]=>some []
 |x::l=>match VJ sh τ x,N5 sh τ l with
  |some r,some rs=>some (r::rs)
  |_,_=>none
theorem Q1 (hsh:∀t x,sh t=some x→Sh P t=some x) {c:Ctx}{T:bb}{β:Nat→Nat}{a:Act}{w:World}(hh:Holds N c T β τ a w):∀{l:List ResultVar}{rs:List A0},N5 sh τ l=some rs→∃vs:List Value,(l.mapM (vd a.tmps)).run P w= .ok vs w∧uF T β rs vs
 |[],rs,h=>by
  simp only [N5] at h;cases h
  exact⟨[],by simp,trivial⟩
 |x::l,rs,h=>by
  simp only [N5] at h
  split at h
  ·rename_i r rs' hr hrs
   cases h
   obtain⟨v,hv,hvr⟩:=acG hsh hh hr
   obtain⟨vs,IX,akH⟩:=Q1 hsh hh hrs
   exact⟨v::vs,by simp [List.mapM_cons,hv,IX],hvr,akH⟩
  ·cases h
def afw (sh:TypeId→Option (Bool×Nat)) (τ:St) (l:List ResultVar):Option AV:=
 match N5 sh τ l with
 |some [x]=>some (.o x)
 |some rs=>some (.t rs)
 |none=>none
theorem acF (hsh:∀t x,sh t=some x→Sh P t=some x) {c:Ctx}{T:bb}{β:Nat→Nat}{a:Act}{w:World}(hh:Holds N c T β τ a w) {fn:Func}{r:AV}(h:afw sh τ fn.results.toList=some r):∃v,(results fn a.tmps).run P w= .ok v w∧r.rel T β v:=by
 have key:∀rs,N5 sh τ fn.results.toList=some rs→∃vs:List Value,(fn.results.mapM (vd a.tmps)).run P w= .ok vs.toArray w∧uF T β rs vs:=by
  intro rs hrs
  obtain⟨vs,IX,c7⟩:=Q1 hsh hh hrs
  refine⟨vs,?_,c7⟩
  rw [←Array.toArray_toList (xs:=fn.results),List.mapM_toArray]
  simp [IX]
 have ajd:∀vs:Array Value,(fn.results.mapM (vd a.tmps)).run P w= .ok vs w→(results fn a.tmps).run P w= .ok (if h:vs.size=1 then vs[0] else .tuple vs) w:=by
  intro vs IX
  have e:results fn a.tmps=(do let vs←fn.results.mapM (vd a.tmps);pure (if h:vs.size=1 then vs[0] else .tuple vs)):=by
   unfold results
   congr 1
  rw [e]
  simp [IX]
 unfold afw at h
 split at h
 ·rename_i x hx
  cases h
  obtain⟨vs,IX,c7⟩:=key _ hx
  match vs,c7 with
  |[v],c7=>exact⟨v,by rw [ajd _ IX];simp,c7.1⟩
 ·rename_i rs fB hx
  cases h
  obtain⟨vs,IX,c7⟩:=key _ hx
  refine⟨.tuple vs.toArray,?_,vs.toArray,rfl,by simpa using c7⟩
  rw [ajd _ IX]
  have hl:=RA c7
  have:¬(vs.toArray.size=1):=by
   intro h1
   match rs,hl with
   |[x],_=>exact fB x rfl
   |[],hl=>simp at hl h1;omega
   |_::_::_,hl=>simp at hl h1;omega
  rw [dif_neg this]
 ·cases h
def DQ (τ:St) (own:List Nat):SV→Option (Prop×SV)
 |.v (.bool b)=>some (True,.q b)
 |.xs i sz o m=>match iy own i with
  |true=>some (True,.xs i sz o m)
  |false=>match τ (.b i) with
   |some (.rs ek l)=>bif Nat.beq ek.length sz&&(Nat.ble 1000 i&&Nat.blt i 1000000000) then some (o+m≤l.length,.vw ek ((l.drop o).take m)) else none
   |_=>none
 |.bp i o=>bif iy own i then some (True,.bp i o) else none
 |.xp i sz k j=>bif iy own i then some (True,.xp i sz k j) else none
 |.vz _ _=>none
 |.vp _ _ _=>none
 |.vs _ _=>none
 |x=>some (True,x)
def xS (τ:St) (own:List Nat):List SV→Option (Prop×List SV)
 |[]=>some (True,[])
 |x::l=>match DQ τ own x,xS τ own l with
  |some (p,y),some (q,m)=>some (p∧q,y::m)
  |_,_=>none
def uZ (τ:St) (own:List Nat):A0→Option (Prop×A0)
 |.s x=>match DQ τ own x with
  |some (p,y)=>some (p,.s y)
  |none=>none
 |.a l=>match xS τ own l with
  |some (p,m)=>some (p,.a m)
  |none=>none
def BB (τ:St) (own:List Nat):List A0→Option (Prop×List A0)
 |[]=>some (True,[])
 |x::l=>match uZ τ own x,BB τ own l with
  |some (p,y),some (q,m)=>some (p∧q,y::m)
  |_,_=>none
def xT (τ:St) (own:List Nat):AV→Option (Prop×AV)
 |.o x=>match uZ τ own x with
  |some (p,y)=>some (p,.o y)
  |none=>none
 |.t l=>match BB τ own l with
  |some (p,m)=>some (p,.t m)
  |none=>none
 |_=>none
def SV.oi:SV→Bool
 |.vz _ _=>false
 |.vp _ _ _=>false
 |.vs _ _=>false
 |_=>true
def zX:List SV→Bool
 |[]=>true
 |x::l=>x.oi&&zX l
def A0.oi:A0→Bool
 |.s x=>x.oi
 |.a l=>zX l
def uD:List A0→Bool
 |[]=>true
 |x::l=>x.oi&&uD l
def AV.oi:AV→Bool
 |.o x=>x.oi
 |.t l=>uD l
 |_=>true
theorem GJ {own:List Nat}{x y:SV}{p:Prop}(h:DQ τ own x=some (p,y)):y.oi=true:=by
 unfold DQ at h
 split at h
 ·cases h;rfl
 ·split at h
  ·cases h;rfl
  ·split at h
   ·cases hc:(Nat.beq _ _&&(Nat.ble 1000 _&&Nat.blt _ 1000000000):Bool) with
    |false=>rw [hc] at h;cases h
    |true=>rw [hc] at h;cases h;rfl
   ·cases h
 ·cases hc:iy own _ with
  |false=>rw [hc] at h;cases h
  |true=>rw [hc] at h;cases h;rfl
 ·cases hc:iy own _ with
  |false=>rw [hc] at h;cases h
  |true=>rw [hc] at h;cases h;rfl
 ·cases h
 ·cases h
 ·cases h
 ·rename_i h1 h2 h3 h4 h5 h6
  cases h
  cases x with
  |vz ek l=>exact absurd rfl (h4 ek l)
  |vp ek r j=>exact absurd rfl (h5 ek r j)
  |vs l j=>exact absurd rfl (h6 l j)
  |_=>rfl
theorem uY {own:List Nat}:∀{x y:List SV}{p:Prop},xS τ own x=some (p,y)→zX y=true
 |[],y,p,h=>by cases h;rfl
 |x::l,y,p,h=>by
  simp only [xS] at h
  split at h
  ·rename_i h1 h2
   cases h
   simp [zX,GJ h1,uY h2]
  ·cases h
theorem DS {own:List Nat}{x y:A0}{p:Prop}(h:uZ τ own x=some (p,y)):y.oi=true:=by
 cases x with
 |s x=>
  simp only [uZ] at h
  split at h
  ·rename_i h1;cases h;exact GJ h1
  ·cases h
 |a l=>
  simp only [uZ] at h
  split at h
  ·rename_i h1;cases h;exact uY h1
  ·cases h
theorem DR {own:List Nat}:∀{x y:List A0}{p:Prop},BB τ own x=some (p,y)→uD y=true
 |[],y,p,h=>by cases h;rfl
 |x::l,y,p,h=>by
  simp only [BB] at h
  split at h
  ·rename_i h1 h2
   cases h
   simp [uD,DS h1,DR h2]
  ·cases h
theorem QQ {own:List Nat}{x y:AV}{p:Prop}(h:xT τ own x=some (p,y)):y.oi=true:=by
 cases x with
 |o x=>
  simp only [xT] at h
  split at h
  ·rename_i h1;cases h;exact DS h1
  ·cases h
 |t l=>
  simp only [xT] at h
  split at h
  ·rename_i h1;cases h;exact DR h1
  ·cases h
 |rs ek l=>cases h
 |zz=>cases h
 |fn f l=>cases h
theorem SV.oh {g:Nat→Nat}{x:SV}:(x.lB g).oi=x.oi:=by cases x<;>rfl
theorem MU {g:Nat→Nat}:∀{l:List SV},zX (BL g l)=zX l
 |[]=>rfl
 |x::l=>by simp [BL,zX,SV.oh,MU (l:=l)]
theorem A0.oh {g:Nat→Nat}{x:A0}:(x.lB g).oi=x.oi:=by
 cases x with
 |s x=>exact SV.oh
 |a l=>exact MU
theorem MT {g:Nat→Nat}:∀{l:List A0},uD (BJ g l)=uD l
 |[]=>rfl
 |x::l=>by simp [BJ,uD,A0.oh,MT (l:=l)]
theorem AV.oh {g:Nat→Nat}{x:AV}:(x.lB g).oi=x.oi:=by
 cases x with
 |o x=>exact A0.oh
 |t l=>exact MT
 |_=>rfl
noncomputable def sJ (T:bb) (β:Nat→Nat) (τ:St) (W w:World) (own:List Nat):bb:=fun b=>
 match T b with
 |some (.bx n)=>open Classical in if W.heap.size≤b∧¬(∃i∈own,live τ i∧β i=b) then (match w.heap[b]? with
  |some (.cells cs e fr)=>some (.ro cs e fr)
  |_=>some (.bx n)) else some (.bx n)
 |k=>k.map BK.un
section
variable {c:Ctx}{T:bb}{β:Nat→Nat}{a:Act}{w:World}{own:List Nat}
theorem aae {W:World}{b n:Nat}{ek:EK}(h:T b=some (.ty ek n)):sJ T β τ W w own b=some (.ty ek n):=by
 unfold sJ;rw [h];rfl
theorem aaf {W:World}{b:Nat}{cs:Array Value}{e:TypeId}{fr:Nat×Nat}(h:T b=some (.ro cs e fr)):sJ T β τ W w own b=some (.ro cs e fr):=by
 unfold sJ;rw [h];rfl
theorem T9 {W:World}{i n:Nat}(h:T (β i)=some (.bx n)) (hi:i∈own) (hl:live τ i):sJ T β τ W w own (β i)=some (.bx n):=by
 unfold sJ
 rw [h]
 simp only
 rw [if_neg]
 rintro⟨_,h⟩
 exact h ⟨i,hi,hl,rfl⟩
theorem ab3 {W:World}{i n:Nat}{cs:Array Value}{e:TypeId}{fr:Nat×Nat}(hh:Holds N c T β τ a w) (h:T (β i)=some (.bx n)) (hi:i∉own) (hl:live τ i) (hb:w.heap[β i]?=some (.cells cs e fr)) (hW:W.heap.size≤β i):sJ T β τ W w own (β i)=some (.ro cs e fr):=by
 unfold sJ
 rw [h]
 simp only
 rw [if_pos,hb]
 refine⟨hW,?_⟩
 rintro⟨j,hj,hlj,e⟩
 exact hi (hh.inj j i hlj hl e ▸ hj)
theorem A2 {cs:Array Value}{ek:EK}{l z:List (EK.Ty ek)}(h:cs.toList=flat ek (l++z)) (o m:Nat):win cs (o*ek.length) (flat ek ((l.drop o).take m)):=by
 intro j v hj
 have h1:(flat ek ((l.drop o).take m))[j]?=((flat ek l).drop (o*ek.length))[j]?:=by
  rw [pn,←na,List.getElem?_take]
  split
  ·rfl
  ·rename_i bV
   exfalso
   have:=(ZB9.1 hj).1
   rw [←na,ZC0] at this
   omega
 rw [h1,List.getElem?_drop] at hj
 have h2:cs.toList[o*ek.length+j]?=some v:=by
  rw [h,gE]
  exact ZC2 (ZB9.1 hj).1 ▸ hj
 simpa using h2
theorem LD (hh:Holds N c T β τ a w) (od:∀i∈own,τ (.b i)≠none→live τ i) {x y:SV}{p:Prop}(h:DQ τ own x=some (p,y)) (hp:p) {v:Value}(hnm:∀i∈x.boxes,τ (.b i)≠none) (hr:x.rel T β v):y.rel (sJ T β τ c.W w own) β v∧∀i∈y.boxes,i∈own:=by
 cases x with
 |v x=>cases x<;>(cases h;exact⟨hr,by simp [SV.boxes]⟩)
 |q b=>cases h;exact⟨hr,by simp [SV.boxes]⟩
 |bp i o=>
  simp only [DQ] at h
  cases hm:iy own i with
  |false=>rw [hm] at h;cases h
  |true=>rw [hm] at h;cases h;exact⟨hr,by simp [SV.boxes];exact fA.1 hm⟩
 |xp i sz k j=>
  simp only [DQ] at h
  cases hm:iy own i with
  |false=>rw [hm] at h;cases h
  |true=>rw [hm] at h;cases h;exact⟨hr,by simp [SV.boxes];exact fA.1 hm⟩
 |xs i sz o m=>
  simp only [DQ] at h
  cases hm:iy own i with
  |true=>
   rw [hm] at h;cases h
   have hi:=fA.1 hm
   refine⟨?_,by simp [SV.boxes];exact hi⟩
   rcases hr with hr |⟨cap,n,h1,h2,h3,h4⟩
   ·exact .inl hr
   ·exact .inr ⟨cap,n,h1,h2,T9 h3 hi (od i hi (hnm i (by simp [SV.boxes]))),h4⟩
  |false=>
   rw [hm] at h
   simp only at h
   split at h
   ·rename_i ek l hb
    cases hc:Nat.beq ek.length sz&&(Nat.ble 1000 i&&Nat.blt i 1000000000) with
    |false=>rw [hc] at h;cases h
    |true=>
     rw [hc] at h;cases h
     simp only [ZA9] at hc
     have dj:ek.length=sz:=by simpa using hc.1
     subst dj
     have ajz:1000≤i:=zqNlb hc.2.1
     have hM:i<1000000000:=zqNlb hc.2.2
     refine⟨?_,by simp [SV.boxes]⟩
     have hlen:((l.drop o).take m).length=m:=by simp;omega
     rcases hr with ⟨rfl,p,e⟩ |⟨cap,n,h1,h2,h3,h4⟩
     ·exact .inl ⟨by simp,p,0,e⟩
     ·have hl:live τ i:=eE hb (by intro e;cases e)
      obtain⟨cs,te,hc1,fB,z,mw,hz⟩:=hh.boxes i _ hb (by intro e;cases e)
      refine .inr ⟨β i,o*ek.length,cap,cs,te,(0,0),by rw [hlen];exact h1,by rw [hlen];exact h2,?_,A2 mw o m⟩
      exact ab3 hh h3 (fun hi=>by have:=fA.2 hi;rw [hm] at this;cases this) hl hc1 ((hh.apart i hl).2.2.1 ajz hM)
   ·cases h
 |ep ek j=>cases h;obtain⟨b,o,n,h1,h2,h3⟩:=hr;exact⟨⟨b,o,n,h1,aae h2,h3⟩,by simp [SV.boxes]⟩
 |sl ek len=>
  cases h
  refine⟨?_,by simp [SV.boxes]⟩
  rcases hr with hr |⟨b,o,cap,n,h1,h2,h3,h4⟩
  ·exact .inl hr
  ·exact .inr ⟨b,o,cap,n,h1,h2,aae h3,h4⟩
 |vw ek l=>
  cases h
  refine⟨?_,by simp [SV.boxes]⟩
  rcases hr with hr |⟨b,o,cap,cs,e,fr,h1,h2,h3,h4⟩
  ·exact .inl hr
  ·exact .inr ⟨b,o,cap,cs,e,fr,h1,h2,aaf h3,h4⟩
 |vz ek l=>cases h
 |vp ek x j=>cases h
 |vs l j=>cases h
 |er b=>cases h;exact⟨hr,by simp [SV.boxes]⟩
 |e0=>cases h;exact⟨hr,by simp [SV.boxes]⟩
theorem xR (hh:Holds N c T β τ a w) (od:∀i∈own,τ (.b i)≠none→live τ i):∀{x y:List SV}{p:Prop},xS τ own x=some (p,y)→p→∀{v:List Value},(∀i∈cf x,τ (.b i)≠none)→dO T β x v→dO (sJ T β τ c.W w own) β y v∧∀i∈cf y,i∈own
 |[],y,p,h,hp,v,hnm,hr=>by
  cases h
  cases v with
  |nil=>exact⟨trivial,by simp [cf]⟩
  |cons _ _=>exact hr.elim
 |x::l,y,p,h,hp,v,hnm,hr=>by
  simp only [xS] at h
  split at h
  ·rename_i p1 y1 q1 m1 h1 h2
   cases h
   cases v with
   |nil=>exact hr.elim
   |cons v vs=>
    simp only [cf,ZB4] at hnm
    have g1:=LD hh od h1 hp.1 (fun i hi=>hnm i (.inl hi)) hr.1
    have g2:=xR hh od h2 hp.2 (fun i hi=>hnm i (.inr hi)) hr.2
    refine⟨⟨g1.1,g2.1⟩,fun i hi=>?_⟩
    simp only [cf,ZB4] at hi
    rcases hi with hi |hi
    ·exact g1.2 i hi
    ·exact g2.2 i hi
  ·cases h
theorem GM (hh:Holds N c T β τ a w) (od:∀i∈own,τ (.b i)≠none→live τ i) {x y:A0}{p:Prop}(h:uZ τ own x=some (p,y)) (hp:p) {v:Value}(hnm:∀i∈x.boxes,τ (.b i)≠none) (hr:x.rel T β v):y.rel (sJ T β τ c.W w own) β v∧∀i∈y.boxes,i∈own:=by
 cases x with
 |s x=>
  simp only [uZ] at h
  split at h
  ·rename_i p1 y1 h1;cases h;exact LD hh od h1 hp hnm hr
  ·cases h
 |a l=>
  simp only [uZ] at h
  split at h
  ·rename_i p1 y1 h1
   cases h
   obtain⟨cs,e,hl⟩:=hr
   have:=xR hh od h1 hp hnm hl
   exact⟨⟨cs,e,this.1⟩,this.2⟩
  ·cases h
theorem GK (hh:Holds N c T β τ a w) (od:∀i∈own,τ (.b i)≠none→live τ i):∀{x y:List A0}{p:Prop},BB τ own x=some (p,y)→p→∀{v:List Value},(∀i∈eU x,τ (.b i)≠none)→uF T β x v→uF (sJ T β τ c.W w own) β y v∧∀i∈eU y,i∈own
 |[],y,p,h,hp,v,hnm,hr=>by
  cases h
  cases v with
  |nil=>exact⟨trivial,by simp [eU]⟩
  |cons _ _=>exact hr.elim
 |x::l,y,p,h,hp,v,hnm,hr=>by
  simp only [BB] at h
  split at h
  ·rename_i p1 y1 q1 m1 h1 h2
   cases h
   cases v with
   |nil=>exact hr.elim
   |cons v vs=>
    simp only [eU,ZB4] at hnm
    have g1:=GM hh od h1 hp.1 (fun i hi=>hnm i (.inl hi)) hr.1
    have g2:=GK hh od h2 hp.2 (fun i hi=>hnm i (.inr hi)) hr.2
    refine⟨⟨g1.1,g2.1⟩,fun i hi=>?_⟩
    simp only [eU,ZB4] at hi
    rcases hi with hi |hi
    ·exact g1.2 i hi
    ·exact g2.2 i hi
  ·cases h
theorem U0 (hh:Holds N c T β τ a w) (od:∀i∈own,τ (.b i)≠none→live τ i) {x y:AV}{p:Prop}(h:xT τ own x=some (p,y)) (hp:p) {v:Value}(hnm:∀i∈x.boxes,τ (.b i)≠none) (hr:x.rel T β v):y.rel (sJ T β τ c.W w own) β v∧∀i∈y.boxes,i∈own:=by
 cases x with
 |o x=>
  simp only [xT] at h
  split at h
  ·rename_i p1 y1 h1;cases h;exact GM hh od h1 hp hnm hr
  ·cases h
 |t l=>
  simp only [xT] at h
  split at h
  ·rename_i p1 y1 h1
   cases h
   obtain⟨cs,e,hl⟩:=hr
   have:=GK hh od h1 hp hnm hl
   exact⟨⟨cs,e,this.1⟩,this.2⟩
  ·cases h
 |rs ek l=>cases h
 |zz=>cases h
 |fn f l=>cases h
end
end
end GL
end Go.Proofs.YtkgpljpmdkflmaaGreatDoor
