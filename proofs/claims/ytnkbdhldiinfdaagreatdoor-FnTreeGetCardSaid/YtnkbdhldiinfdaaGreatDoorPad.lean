/- A drawn law returns true for every code (its row lists package variables, tied by the card): part 4. -/
import Derived.Test.YtnkbdhldiinfdaaGreatDoorPac
set_option maxHeartbeats 20000000
set_option maxRecDepth 100000
set_option linter.all false
namespace Go.Proofs.YtnkbdhldiinfdaaGreatDoor
namespace GL
section
variable {P:Program}{N:Nat}{τ:St}{Q':o6}{S:Sm}
theorem TW.ai1 {cd:Code}{ι:Type}(I:ι→St) (φ:ι→Prop) (μ:ι→Nat) (x0:ι) (h0:φ x0) (hs:∃σ,Sub σ (I x0) τ)
  (tL:∀x,φ x→TW P N cd (I x) (zd (fun τ'=>∃y,φ y∧μ y < μ x∧∃σ,Sub σ (I y) τ') Q')):TW P N (.loop cd) τ Q':=fun c a w hr=>by
 classical
 let J:Act→World→Nat→Prop:=fun a w n=>∃x,μ x=n∧φ x∧Rel N c (I x) a w
 let m:Act→World→Nat:=fun a w=>if h:∃n,J a w n then Classical.epsilon (fun n=>J a w n∧∀k,J a w k→n≤k) else 0
 have hm:∀a w,(∃n,J a w n)→J a w (m a w)∧∀k,J a w k→m a w≤k:=by
  intro a w h
  have hex:∃n,J a w n∧∀k,J a w k→n≤k:=by
   obtain⟨n,hn⟩:=h
   induction n using Nat.strongRecOn with
   |_ n ih=>
    by_cases ahR:∀k,J a w k→n≤k
    ·exact⟨n,hn,ahR⟩
    ·simp only [Classical.not_forall] at ahR
     obtain⟨k,hk,bU⟩:=ahR
     exact ih k (by omega) hk
  have:m a w=Classical.epsilon (fun n=>J a w n∧∀k,J a w k→n≤k):=by
   simp only [m];rw [dif_pos h]
  rw [this]
  exact Classical.epsilon_spec hex
 obtain⟨σ0,hs0⟩:=hs
 refine wp_loop (fun a w=>∃n,J a w n) m ⟨μ x0,x0,rfl,h0,hr.sub hs0⟩ ?_
 intro a' w' hJ
 obtain⟨⟨x,hx,hφ,c6⟩,_⟩:=hm a' w' hJ
 refine Code.wp_mono ?_ (tL x hφ c a' w' c6)
 rintro e a2 w2 ⟨τ2,hr2,hq⟩
 cases e with
 |normal=>
  obtain⟨y,hy,bU,σ,af3⟩:=hq
  have hJ2:J a2 w2 (μ y):=⟨y,rfl,hy,hr2.sub af3⟩
  exact⟨⟨_,hJ2⟩,by rw [←hx];exact Nat.lt_of_le_of_lt ((hm a2 w2 ⟨_,hJ2⟩).2 _ hJ2) bU⟩
 |_=>exact⟨τ2,hr2,hq⟩
theorem TW.ai2 (hm:P.follows .mixedOrders=true) (hS:UP P N S) {cd:Code}{ι:Type}(bZ:List fJ) (J:ι→AO) (φ:ι→Prop) (μ:ι→Nat) (x0:ι) (sg0:List (Nat×Nat)) (h0:φ x0) (hs:EO sg0 τ τ bZ (J x0))
  (tL:∀x,φ x→vc P N S cd ((oM τ bZ).ap (J x)) (zd (fun τ'=>∃y sg,φ y∧μ y < μ x∧EO sg τ τ' bZ (J y)) Q')):TW P N (.loop cd) τ Q':=
 TW.ai1 (fun x=>(oM τ bZ).ap (J x)) φ μ x0 h0 ⟨_,GD hs⟩ fun x hx=>(gp hm hS _ _ _ (tL x hx)).mono fun e τ' hq=>by
  cases e with
  |normal=>
   obtain⟨y,sg,h1,h2,h3⟩:=hq
   exact⟨y,h1,h2,_,GD h3⟩
  |_=>exact hq
theorem TW.agc {cd:Code}(bZ:List fJ) (u:AO) (sg:List (Nat×Nat)) (h:EO sg τ τ bZ u) (hk:TW P N cd ((oM τ bZ).ap u) Q'):TW P N cd τ Q':=fun c a w hr=>hk c a w (hr.sub (GD h))
def Sh (P:Program) (t:TypeId):Option (Bool×Nat):=
 match P.underlying t,P.info? t with
 |some (.struct _),some i |some (.array _ _),some i=>some (true,i.size)
 |some _,some i=>some (false,i.size)
 |_,_=>none
theorem jJ {t:TypeId}{b:Bool}{n:Nat}(h:Sh P t=some (b,n)) (w:World):(isAgg t).run P w= .ok b w∧(sizeOf t).run P w= .ok n w:=by
 unfold Sh at h
 cases hu:P.underlying t with
 |none=>rw [hu] at h;simp at h
 |some d=>
  cases hi:P.info? t with
  |none=>rw [hu,hi] at h;cases d<;>simp at h
  |some i=>
   rw [hu,hi] at h
   refine⟨?_,?_⟩
   ·cases d<;>simp at h<;>simp [isAgg,run_underlying hu,h.1]
   ·cases d<;>simp at h<;>simp [sizeOf,typeInfo,hi,h.2]
theorem ur {t:TypeId}{n:Nat}(h:Sh P t=some (true,n)) {w:World}{a:Addr}{cs:List Value}(hn:cs.length=n) (hc:∀j v,cs[j]?=some v→w.cell? (a.add j)=some v):
  (loadVar t a).run P w= .ok (.agg cs.toArray) w:=by
 obtain⟨h1,h2⟩:=jJ h w
 have h3:=run_loadCells_list (P:=P) w a cs hc
 rw [hn] at h3
 simp [loadVar,h1,h2,h3]
theorem uq {t:TypeId}{n:Nat}(h:Sh P t=some (false,n)) {w:World}{a:Addr}{v:Value}(hc:w.cell? a=some v):(loadVar t a).run P w= .ok v w:=by
 obtain⟨h1,_⟩:=jJ h w
 simp [loadVar,h1,hc]
theorem rr {w:World}{b:Nat}{cs:Array Value}{e:TypeId}{fr:Nat×Nat}(h:w.heap[b]?=some (.cells cs e fr)) (o:Nat):w.cell? ⟨b,o,none⟩=cs[o]?:=by simp [World.cell?,h]
theorem ga (b o j:Nat):(⟨b,o,none⟩:Addr).add j=⟨b,o+j,none⟩:=by
 unfold Addr.add
 split
 ·rename_i h;subst h;rfl
 ·rfl
def VM (sh:TypeId→Option (Bool×Nat)) (τ:St):ResultVar→Option A0
 |.tmp t=>match τ (.s t) with
  |some (.o x)=>some x
  |_=>none
 |.cell ad ty=>match τ (.s ad) with
  |some (.o (.s (.bp i 0)))=>match τ (.b i) with
   |some (.o (.a l))=>match sh ty with
    |some (true,n)=>bif Nat.beq n l.length then some (.a l) else none
    |some (false,_)=>match l with
     |[x]=>some (.s x)
     |_=>none
    |none=>none
   |_=>none
  |_=>none
def u9 (tmps:Array Value):ResultVar→Sem Value
 |.tmp t=>pure (tmps.getD t undef)
 |.cell a t=>do loadVar t (←asAddr (tmps.getD a undef))
variable {sh:TypeId→Option (Bool×Nat)}
theorem acK (hsh:∀t x,sh t=some x→Sh P t=some x) {c:Ctx}{T:bb}{β:Nat→Nat}{a:Act}{w:World}(hh:Holds N c T β τ a w) {x:ResultVar}{r:A0}(h:VM sh τ x=some r):∃v,(u9 a.tmps x).run P w= .ok v w∧r.rel T β v:=by
 cases x with
 |tmp t=>
  simp only [VM] at h
  split at h
  ·rename_i y hy
   cases h
   obtain⟨v,hv,hr⟩:=hh.iJ t _ hy
   exact⟨v,by simp [u9,hv],hr⟩
  ·cases h
 |cell ad ty=>
  simp only [VM] at h
  split at h
  ·rename_i i hy
   split at h
   ·rename_i l hl
    obtain⟨v,hv,hr⟩:=hh.iJ ad _ hy
    have uK:v= .pointer (some ⟨β i,0,none⟩):=hr
    subst uK
    obtain⟨cs,e,hb,c6⟩:=hh.boxes i _ hl (by intro e;cases e)
    have vC:dN T β l cs.toList:=c6
    have hlen:=jj vC
    split at h
    ·rename_i n hS
     cases hbq:Nat.beq n l.length with
     |false=>rw [hbq] at h;cases h
     |true=>
      rw [hbq] at h;cases h
      have hn:n=l.length:=by simpa using hbq
      subst hn
      refine⟨.agg cs,?_,cs,rfl,vC⟩
      have:=ur (P:=P) (hsh _ _ hS) (w:=w) (a:=⟨β i,0,none⟩) (cs:=cs.toList) hlen.symm (fun j v hj=>by
       rw [ga,rr hb];simpa using hj)
      simpa [u9,hv,asAddr] using this
    ·rename_i n hS
     split at h
     ·rename_i y
      cases h
      obtain⟨v0,hv0,hr0⟩:=qU vC (i:=0) (x:=y) rfl
      refine⟨v0,?_,hr0⟩
      have:=uq (P:=P) (hsh _ _ hS) (w:=w) (a:=⟨β i,0,none⟩) (v:=v0) (by rw [rr hb];simpa using hv0)
      simpa [u9,hv,asAddr] using this
     ·cases h
    ·cases h
   ·cases h
  ·cases h
def N7 (sh:TypeId→Option (Bool×Nat)) (τ:St):List ResultVar→Option (List A0)
 |[]=>some []
 |x::l=>match VM sh τ x,N7 sh τ l with
  |some r,some rs=>some (r::rs)
  |_,_=>none
theorem Q4 (hsh:∀t x,sh t=some x→Sh P t=some x) {c:Ctx}{T:bb}{β:Nat→Nat}{a:Act}{w:World}(hh:Holds N c T β τ a w):∀{l:List ResultVar}{rs:List A0},N7 sh τ l=some rs→∃vs:List Value,(l.mapM (u9 a.tmps)).run P w= .ok vs w∧uD T β rs vs
 |[],rs,h=>by
  simp only [N7] at h;cases h
  exact⟨[],by simp,trivial⟩
 |x::l,rs,h=>by
  simp only [N7] at h
  split at h
  ·rename_i r rs' hr hrs
   cases h
   obtain⟨v,hv,hvr⟩:=acK hsh hh hr
   obtain⟨vs,IY,akN⟩:=Q4 hsh hh hrs
   exact⟨v::vs,by simp [List.mapM_cons,hv,IY],hvr,akN⟩
  ·cases h
def afC (sh:TypeId→Option (Bool×Nat)) (τ:St) (l:List ResultVar):Option AV:=
 match N7 sh τ l with
 |some [x]=>some (.o x)
 |some rs=>some (.t rs)
 |none=>none
theorem acJ (hsh:∀t x,sh t=some x→Sh P t=some x) {c:Ctx}{T:bb}{β:Nat→Nat}{a:Act}{w:World}(hh:Holds N c T β τ a w) {fn:Func}{r:AV}(h:afC sh τ fn.results.toList=some r):∃v,(results fn a.tmps).run P w= .ok v w∧r.rel T β v:=by
 have key:∀rs,N7 sh τ fn.results.toList=some rs→∃vs:List Value,(fn.results.mapM (u9 a.tmps)).run P w= .ok vs.toArray w∧uD T β rs vs:=by
  intro rs hrs
  obtain⟨vs,IY,c6⟩:=Q4 hsh hh hrs
  refine⟨vs,?_,c6⟩
  rw [←Array.toArray_toList (xs:=fn.results),List.mapM_toArray]
  simp [IY]
 have aji:∀vs:Array Value,(fn.results.mapM (u9 a.tmps)).run P w= .ok vs w→(results fn a.tmps).run P w= .ok (if h:vs.size=1 then vs[0] else .tuple vs) w:=by
  intro vs IY
  have e:results fn a.tmps=(do let vs←fn.results.mapM (u9 a.tmps);pure (if h:vs.size=1 then vs[0] else .tuple vs)):=by
   unfold results
   congr 1
  rw [e]
  simp [IY]
 unfold afC at h
 split at h
 ·rename_i x hx
  cases h
  obtain⟨vs,IY,c6⟩:=key _ hx
  match vs,c6 with
  |[v],c6=>exact⟨v,by rw [aji _ IY];simp,c6.1⟩
 ·rename_i rs fA hx
  cases h
  obtain⟨vs,IY,c6⟩:=key _ hx
  refine⟨.tuple vs.toArray,?_,vs.toArray,rfl,by simpa using c6⟩
  rw [aji _ IY]
  have hl:=RC c6
  have:¬(vs.toArray.size=1):=by
   intro h1
   match rs,hl with
   |[x],_=>exact fA x rfl
   |[],hl=>simp at hl h1;omega
   |_::_::_,hl=>simp at hl h1;omega
  rw [dif_neg this]
 ·cases h
def DP (τ:St) (own:List Nat):SV→Option (Prop×SV)
 |.v (.bool b)=>some (True,.q b)
 |.xs i sz o m=>match iz own i with
  |true=>some (True,.xs i sz o m)
  |false=>match τ (.b i) with
   |some (.rs ek l)=>bif Nat.beq ek.length sz&&(Nat.ble 1000 i&&Nat.blt i 1000000000) then some (o+m≤l.length,.vw ek ((l.drop o).take m)) else none
   |_=>none
 |.bp i o=>bif iz own i then some (True,.bp i o) else none
 |.xp i sz k j=>bif iz own i then some (True,.xp i sz k j) else none
 |.vz _ _=>none
 |.vp _ _ _=>none
 |.vs _ _=>none
 |x=>some (True,x)
def xQ (τ:St) (own:List Nat):List SV→Option (Prop×List SV)
 |[]=>some (True,[])
 |x::l=>match DP τ own x,xQ τ own l with
  |some (p,y),some (q,m)=>some (p∧q,y::m)
  |_,_=>none
def uW (τ:St) (own:List Nat):A0→Option (Prop×A0)
 |.s x=>match DP τ own x with
  |some (p,y)=>some (p,.s y)
  |none=>none
 |.a l=>match xQ τ own l with
  |some (p,m)=>some (p,.a m)
  |none=>none
def BB (τ:St) (own:List Nat):List A0→Option (Prop×List A0)
 |[]=>some (True,[])
 |x::l=>match uW τ own x,BB τ own l with
  |some (p,y),some (q,m)=>some (p∧q,y::m)
  |_,_=>none
def xR (τ:St) (own:List Nat):AV→Option (Prop×AV)
 |.o x=>match uW τ own x with
  |some (p,y)=>some (p,.o y)
  |none=>none
 |.t l=>match BB τ own l with
  |some (p,m)=>some (p,.t m)
  |none=>none
 |_=>none
def SV.od:SV→Bool
 |.vz _ _=>false
 |.vp _ _ _=>false
 |.vs _ _=>false
 |_=>true
def zW:List SV→Bool
 |[]=>true
 |x::l=>x.od&&zW l
def A0.od:A0→Bool
 |.s x=>x.od
 |.a l=>zW l
def uB:List A0→Bool
 |[]=>true
 |x::l=>x.od&&uB l
def AV.od:AV→Bool
 |.o x=>x.od
 |.t l=>uB l
 |_=>true
theorem GK {own:List Nat}{x y:SV}{p:Prop}(h:DP τ own x=some (p,y)):y.od=true:=by
 unfold DP at h
 split at h
 ·cases h;rfl
 ·split at h
  ·cases h;rfl
  ·split at h
   ·cases hc:(Nat.beq _ _&&(Nat.ble 1000 _&&Nat.blt _ 1000000000):Bool) with
    |false=>rw [hc] at h;cases h
    |true=>rw [hc] at h;cases h;rfl
   ·cases h
 ·cases hc:iz own _ with
  |false=>rw [hc] at h;cases h
  |true=>rw [hc] at h;cases h;rfl
 ·cases hc:iz own _ with
  |false=>rw [hc] at h;cases h
  |true=>rw [hc] at h;cases h;rfl
 ·cases h
 ·cases h
 ·cases h
 ·rename_i h1 h2 h3 h4 h5 h6
  cases h
  cases x with
  |vz ek l=>exact absurd rfl (h4 ek l)
  |vp ek r j=>exact absurd rfl (h5 ek r j)
  |vs l j=>exact absurd rfl (h6 l j)
  |_=>rfl
theorem uV {own:List Nat}:∀{x y:List SV}{p:Prop},xQ τ own x=some (p,y)→zW y=true
 |[],y,p,h=>by cases h;rfl
 |x::l,y,p,h=>by
  simp only [xQ] at h
  split at h
  ·rename_i h1 h2
   cases h
   simp [zW,GK h1,uV h2]
  ·cases h
theorem DR {own:List Nat}{x y:A0}{p:Prop}(h:uW τ own x=some (p,y)):y.od=true:=by
 cases x with
 |s x=>
  simp only [uW] at h
  split at h
  ·rename_i h1;cases h;exact GK h1
  ·cases h
 |a l=>
  simp only [uW] at h
  split at h
  ·rename_i h1;cases h;exact uV h1
  ·cases h
theorem DQ {own:List Nat}:∀{x y:List A0}{p:Prop},BB τ own x=some (p,y)→uB y=true
 |[],y,p,h=>by cases h;rfl
 |x::l,y,p,h=>by
  simp only [BB] at h
  split at h
  ·rename_i h1 h2
   cases h
   simp [uB,DR h1,DQ h2]
  ·cases h
theorem QS {own:List Nat}{x y:AV}{p:Prop}(h:xR τ own x=some (p,y)):y.od=true:=by
 cases x with
 |o x=>
  simp only [xR] at h
  split at h
  ·rename_i h1;cases h;exact DR h1
  ·cases h
 |t l=>
  simp only [xR] at h
  split at h
  ·rename_i h1;cases h;exact DQ h1
  ·cases h
 |rs ek l=>cases h
 |zz=>cases h
 |fn f l=>cases h
theorem SV.oc {g:Nat→Nat}{x:SV}:(x.ly g).od=x.od:=by cases x<;>rfl
theorem MW {g:Nat→Nat}:∀{l:List SV},zW (BL g l)=zW l
 |[]=>rfl
 |x::l=>by simp [BL,zW,SV.oc,MW (l:=l)]
theorem A0.oc {g:Nat→Nat}{x:A0}:(x.ly g).od=x.od:=by
 cases x with
 |s x=>exact SV.oc
 |a l=>exact MW
theorem MV {g:Nat→Nat}:∀{l:List A0},uB (BJ g l)=uB l
 |[]=>rfl
 |x::l=>by simp [BJ,uB,A0.oc,MV (l:=l)]
theorem AV.oc {g:Nat→Nat}{x:AV}:(x.ly g).od=x.od:=by
 cases x with
 |o x=>exact A0.oc
 |t l=>exact MV
 |_=>rfl
noncomputable def sG (T:bb) (β:Nat→Nat) (τ:St) (W w:World) (own:List Nat):bb:=fun b=>
 match T b with
 |some (.bx n)=>open Classical in if W.heap.size≤b∧¬(∃i∈own,live τ i∧β i=b) then (match w.heap[b]? with
  |some (.cells cs e fr)=>some (.ro cs e fr)
  |_=>some (.bx n)) else some (.bx n)
 |k=>k.map BK.un
section
variable {c:Ctx}{T:bb}{β:Nat→Nat}{a:Act}{w:World}{own:List Nat}
theorem aah {W:World}{b n:Nat}{ek:EK}(h:T b=some (.ty ek n)):sG T β τ W w own b=some (.ty ek n):=by
 unfold sG;rw [h];rfl
theorem aai {W:World}{b:Nat}{cs:Array Value}{e:TypeId}{fr:Nat×Nat}(h:T b=some (.ro cs e fr)):sG T β τ W w own b=some (.ro cs e fr):=by
 unfold sG;rw [h];rfl
theorem UD {W:World}{i n:Nat}(h:T (β i)=some (.bx n)) (hi:i∈own) (hl:live τ i):sG T β τ W w own (β i)=some (.bx n):=by
 unfold sG
 rw [h]
 simp only
 rw [if_neg]
 rintro⟨_,h⟩
 exact h ⟨i,hi,hl,rfl⟩
theorem ab6 {W:World}{i n:Nat}{cs:Array Value}{e:TypeId}{fr:Nat×Nat}(hh:Holds N c T β τ a w) (h:T (β i)=some (.bx n)) (hi:i∉own) (hl:live τ i) (hb:w.heap[β i]?=some (.cells cs e fr)) (hW:W.heap.size≤β i):sG T β τ W w own (β i)=some (.ro cs e fr):=by
 unfold sG
 rw [h]
 simp only
 rw [if_pos,hb]
 refine⟨hW,?_⟩
 rintro⟨j,hj,hlj,e⟩
 exact hi (hh.inj j i hlj hl e ▸ hj)
theorem A2 {cs:Array Value}{ek:EK}{l z:List (EK.Ty ek)}(h:cs.toList=flat ek (l++z)) (o m:Nat):win cs (o*ek.length) (flat ek ((l.drop o).take m)):=by
 intro j v hj
 have h1:(flat ek ((l.drop o).take m))[j]?=((flat ek l).drop (o*ek.length))[j]?:=by
  rw [ph,←mX,List.getElem?_take]
  split
  ·rfl
  ·rename_i bU
   exfalso
   have:=(ZC0.1 hj).1
   rw [←mX,ZB9] at this
   omega
 rw [h1,List.getElem?_drop] at hj
 have h2:cs.toList[o*ek.length+j]?=some v:=by
  rw [h,gD]
  exact ZC2 (ZC0.1 hj).1 ▸ hj
 simpa using h2
theorem LG (hh:Holds N c T β τ a w) (oa:∀i∈own,τ (.b i)≠none→live τ i) {x y:SV}{p:Prop}(h:DP τ own x=some (p,y)) (hp:p) {v:Value}(hnm:∀i∈x.boxes,τ (.b i)≠none) (hr:x.rel T β v):y.rel (sG T β τ c.W w own) β v∧∀i∈y.boxes,i∈own:=by
 cases x with
 |v x=>cases x<;>(cases h;exact⟨hr,by simp [SV.boxes]⟩)
 |q b=>cases h;exact⟨hr,by simp [SV.boxes]⟩
 |bp i o=>
  simp only [DP] at h
  cases hm:iz own i with
  |false=>rw [hm] at h;cases h
  |true=>rw [hm] at h;cases h;exact⟨hr,by simp [SV.boxes];exact fy.1 hm⟩
 |xp i sz k j=>
  simp only [DP] at h
  cases hm:iz own i with
  |false=>rw [hm] at h;cases h
  |true=>rw [hm] at h;cases h;exact⟨hr,by simp [SV.boxes];exact fy.1 hm⟩
 |xs i sz o m=>
  simp only [DP] at h
  cases hm:iz own i with
  |true=>
   rw [hm] at h;cases h
   have hi:=fy.1 hm
   refine⟨?_,by simp [SV.boxes];exact hi⟩
   rcases hr with hr |⟨cap,n,h1,h2,h3,h4⟩
   ·exact .inl hr
   ·exact .inr ⟨cap,n,h1,h2,UD h3 hi (oa i hi (hnm i (by simp [SV.boxes]))),h4⟩
  |false=>
   rw [hm] at h
   simp only at h
   split at h
   ·rename_i ek l hb
    cases hc:Nat.beq ek.length sz&&(Nat.ble 1000 i&&Nat.blt i 1000000000) with
    |false=>rw [hc] at h;cases h
    |true=>
     rw [hc] at h;cases h
     simp only [ZA9] at hc
     have dj:ek.length=sz:=by simpa using hc.1
     subst dj
     have ajE:1000≤i:=zqNlb hc.2.1
     have hM:i<1000000000:=zqNlb hc.2.2
     refine⟨?_,by simp [SV.boxes]⟩
     have hlen:((l.drop o).take m).length=m:=by simp;omega
     rcases hr with ⟨rfl,p,e⟩ |⟨cap,n,h1,h2,h3,h4⟩
     ·exact .inl ⟨by simp,p,0,e⟩
     ·have hl:live τ i:=eD hb (by intro e;cases e)
      obtain⟨cs,te,hc1,fA,z,mq,hz⟩:=hh.boxes i _ hb (by intro e;cases e)
      refine .inr ⟨β i,o*ek.length,cap,cs,te,(0,0),by rw [hlen];exact h1,by rw [hlen];exact h2,?_,A2 mq o m⟩
      exact ab6 hh h3 (fun hi=>by have:=fy.2 hi;rw [hm] at this;cases this) hl hc1 ((hh.apart i hl).2.2.1 ajE hM)
   ·cases h
 |ep ek j=>cases h;obtain⟨b,o,n,h1,h2,h3⟩:=hr;exact⟨⟨b,o,n,h1,aah h2,h3⟩,by simp [SV.boxes]⟩
 |sl ek len=>
  cases h
  refine⟨?_,by simp [SV.boxes]⟩
  rcases hr with hr |⟨b,o,cap,n,h1,h2,h3,h4⟩
  ·exact .inl hr
  ·exact .inr ⟨b,o,cap,n,h1,h2,aah h3,h4⟩
 |vw ek l=>
  cases h
  refine⟨?_,by simp [SV.boxes]⟩
  rcases hr with hr |⟨b,o,cap,cs,e,fr,h1,h2,h3,h4⟩
  ·exact .inl hr
  ·exact .inr ⟨b,o,cap,cs,e,fr,h1,h2,aai h3,h4⟩
 |vz ek l=>cases h
 |vp ek x j=>cases h
 |vs l j=>cases h
 |er b=>cases h;exact⟨hr,by simp [SV.boxes]⟩
 |e0=>cases h;exact⟨hr,by simp [SV.boxes]⟩
theorem xP (hh:Holds N c T β τ a w) (oa:∀i∈own,τ (.b i)≠none→live τ i):∀{x y:List SV}{p:Prop},xQ τ own x=some (p,y)→p→∀{v:List Value},(∀i∈cc x,τ (.b i)≠none)→dN T β x v→dN (sG T β τ c.W w own) β y v∧∀i∈cc y,i∈own
 |[],y,p,h,hp,v,hnm,hr=>by
  cases h
  cases v with
  |nil=>exact⟨trivial,by simp [cc]⟩
  |cons _ _=>exact hr.elim
 |x::l,y,p,h,hp,v,hnm,hr=>by
  simp only [xQ] at h
  split at h
  ·rename_i p1 y1 q1 m1 h1 h2
   cases h
   cases v with
   |nil=>exact hr.elim
   |cons v vs=>
    simp only [cc,ZB4] at hnm
    have g1:=LG hh oa h1 hp.1 (fun i hi=>hnm i (.inl hi)) hr.1
    have g2:=xP hh oa h2 hp.2 (fun i hi=>hnm i (.inr hi)) hr.2
    refine⟨⟨g1.1,g2.1⟩,fun i hi=>?_⟩
    simp only [cc,ZB4] at hi
    rcases hi with hi |hi
    ·exact g1.2 i hi
    ·exact g2.2 i hi
  ·cases h
theorem GN (hh:Holds N c T β τ a w) (oa:∀i∈own,τ (.b i)≠none→live τ i) {x y:A0}{p:Prop}(h:uW τ own x=some (p,y)) (hp:p) {v:Value}(hnm:∀i∈x.boxes,τ (.b i)≠none) (hr:x.rel T β v):y.rel (sG T β τ c.W w own) β v∧∀i∈y.boxes,i∈own:=by
 cases x with
 |s x=>
  simp only [uW] at h
  split at h
  ·rename_i p1 y1 h1;cases h;exact LG hh oa h1 hp hnm hr
  ·cases h
 |a l=>
  simp only [uW] at h
  split at h
  ·rename_i p1 y1 h1
   cases h
   obtain⟨cs,e,hl⟩:=hr
   have:=xP hh oa h1 hp hnm hl
   exact⟨⟨cs,e,this.1⟩,this.2⟩
  ·cases h
theorem GM (hh:Holds N c T β τ a w) (oa:∀i∈own,τ (.b i)≠none→live τ i):∀{x y:List A0}{p:Prop},BB τ own x=some (p,y)→p→∀{v:List Value},(∀i∈eS x,τ (.b i)≠none)→uD T β x v→uD (sG T β τ c.W w own) β y v∧∀i∈eS y,i∈own
 |[],y,p,h,hp,v,hnm,hr=>by
  cases h
  cases v with
  |nil=>exact⟨trivial,by simp [eS]⟩
  |cons _ _=>exact hr.elim
 |x::l,y,p,h,hp,v,hnm,hr=>by
  simp only [BB] at h
  split at h
  ·rename_i p1 y1 q1 m1 h1 h2
   cases h
   cases v with
   |nil=>exact hr.elim
   |cons v vs=>
    simp only [eS,ZB4] at hnm
    have g1:=GN hh oa h1 hp.1 (fun i hi=>hnm i (.inl hi)) hr.1
    have g2:=GM hh oa h2 hp.2 (fun i hi=>hnm i (.inr hi)) hr.2
    refine⟨⟨g1.1,g2.1⟩,fun i hi=>?_⟩
    simp only [eS,ZB4] at hi
    rcases hi with hi |hi
    ·exact g1.2 i hi
    ·exact g2.2 i hi
  ·cases h
theorem U4 (hh:Holds N c T β τ a w) (oa:∀i∈own,τ (.b i)≠none→live τ i) {x y:AV}{p:Prop}(h:xR τ own x=some (p,y)) (hp:p) {v:Value}(hnm:∀i∈x.boxes,τ (.b i)≠none) (hr:x.rel T β v):y.rel (sG T β τ c.W w own) β v∧∀i∈y.boxes,i∈own:=by
 cases x with
 |o x=>
  simp only [xR] at h
  split at h
  ·rename_i p1 y1 h1;cases h;exact GN hh oa h1 hp hnm hr
  ·cases h
 |t l=>
  simp only [xR] at h
  split at h
  ·rename_i p1 y1 h1
   cases h
   obtain⟨cs,e,hl⟩:=hr
   have:=GM hh oa h1 hp hnm hl
   exact⟨⟨cs,e,this.1⟩,this.2⟩
  ·cases h
 |rs ek l=>cases h
 |zz=>cases h
 |fn f l=>cases h
end
end
end GL
end Go.Proofs.YtnkbdhldiinfdaaGreatDoor
