/- A drawn law returns true for every code (its row lists package variables, tied by the card): part 11. -/
import Derived.Test.YtnkbdhldiinfdaaGreatDoorPaj
set_option maxHeartbeats 20000000
set_option maxRecDepth 100000
set_option linter.all false
namespace Go.Proofs.YtnkbdhldiinfdaaGreatDoor
namespace GL
section
variable {P:Program}{N:Nat}{τ:St}
variable {d:Nat}{x y z:Operand}{t u ty:TypeId}{pos:String}{af:Array Edge}{g:Option (Nat×Bool)}
def Enters (P : Program) (f : FuncId) : Prop := ∃ fn, P.funcs[f]? = some fn ∧ fn.body.isSome = true ∧ fn.name ≠ "runtime.NumGoroutine"
theorem aaK {f:FuncId}(h:Enters P f) {args:Array Operand}{tys:Array TypeId}{ρ:Operand→Value}(hρ:ρ (.func f)= .func (.func f) #[] #[]) {w:World}{dst:Option Nat}:
  (execOp ρ ⟨dst,.call ⟨.value (.func f),args,tys⟩,ty,pos,af,g⟩).run P w= .ok (.enter f (args.map ρ)) w:=by
 obtain⟨fn,h1,h2,h3⟩:=h
 obtain⟨cd,hcd⟩:=Option.isSome_iff_exists.1 h2
 simp [execOp,resolve,hρ,Deferred.ofValue,invoke,callFunc,h1,hcd,h3]
def YA:List Operand→(List AV→Q Rs)→Q Rs
 |[],k=>k []
 |x::l,k=>bY x fun v=>YA l fun vs=>k (v::vs)
def evA (τ:St):List Operand→Option (List AV)
 |[]=>some []
 |x::l=>match ev τ x with
  |some v=>match evA τ l with
   |some vs=>some (v::vs)
   |none=>none
  |none=>none
theorem AK (τ:St):∀(l:List Operand) (k:List AV→Q Rs),(YA l k).run τ=match evA τ l with
  |some v=>(k v).run τ
  |none=>.no
 |[],k=>rfl
 |x::l,k=>by
  simp only [YA,c8,evA]
  cases ev τ x with
  |none=>rfl
  |some v=>
   simp only [AK τ l]
   cases evA τ l<;>rfl
def adP:SP→Bool
 |.xb _ _=>true
 |_=>false
def agN (p:SP) (v:SV):List Nat:=
 match v with
 |.xs i _ _ _=>bif adP p then [i] else []
 |x=>x.boxes
def agO:List SP→List SV→List Nat
 |p::ps,x::l=>agN p x++agO ps l
 |_,_=>[]
def kept (p:AP) (v:AV):List Nat:=
 match p,v with
 |.s p,.o (.s x)=>agN p x
 |.a l,.o (.a m)=>agO l m
 |.b _,.o (.s x)=>x.boxes
 |.fn _ _,.fn _ l=>jH l
 |_,_=>[]
def ZS:List AP→List AV→List Nat
 |p::ps,x::l=>kept p x++ZS ps l
 |_,_=>[]
def L2 (pt kp:Bool) (ids:List Nat) (v:SV) (k:Prop→SV→Q Rs):Q Rs:=
 match v with
 |.xs i sz o m=>match kp with
  |true=>k True (.xs i sz o m)
  |false=>bif iz ids i then .ret .no else sR i fun
   |.rs ek l=>bif Nat.beq ek.length sz then (match pt with
    |true=>k (o+m≤l.length) (.vz ek ((l.drop o).take m))
    |false=>k (o=0∧m=l.length) (.vz ek l)) else .ret .no
   |_=>.ret .no
 |x=>k True x
def H7 (pt:Bool) (ids:List Nat):List SP→List SV→(Prop→List SV→Q Rs)→Q Rs
 |[],[],k=>k True []
 |p::ps,x::l,k=>L2 pt (adP p) ids x fun p y=>H7 pt ids ps l fun q m=>k (p∧q) (y::m)
 |_,_,_=>.ret .no
def uw (pt:Bool) (ids:List Nat):List SV→(Prop→List CV→Q Rs)→Q Rs
 |[],k=>k True []
 |.v x::l,k=>uw pt ids l fun q m=>k q (.v x::m)
 |.q b::l,k=>uw pt ids l fun q m=>k q (.q b::m)
 |.vz ek r::l,k=>uw pt ids l fun q m=>k q (.vz ek r::m)
 |.vw ek r::l,k=>uw pt ids l fun q m=>k q (.vz ek r::m)
 |.xs j sz o n::l,k=>bif iz ids j then .ret .no else sR j fun
  |.rs ek r=>bif Nat.beq ek.length sz then uw pt ids l fun q m=>k ((o=0∧n=r.length)∧q) (.vz ek r::m) else .ret .no
  |_=>.ret .no
 |_::_,_=>.ret .no
def afR (pt:Bool) (ids:List Nat) (ap:AP) (v:AV) (k:Prop→AV→Q Rs):Q Rs:=
 match ap,v with
 |.fn _ _,.fn f l=>k True (.fn f l)
 |.vs _,.o (.s (.vs m 0))=>k True (.s (.vs m 0))
 |.vs _,.o (.s (.bp i 0))=>bif iz ids i then .ret .no else sR i fun
  |.o (.a l)=>uw pt ids l fun p m=>k p (.s (.vs m 0))
  |_=>.ret .no
 |.s p,.o (.s x)=>L2 pt (adP p) ids x fun p y=>k p (.s y)
 |.a l,.o (.a m)=>H7 pt ids l m fun p m=>k p (.a m)
 |.b _,.o (.s x)=>L2 pt true ids x fun p y=>k p (.s y)
 |_,_=>.ret .no
def H8 (pt:Bool) (ids:List Nat):List AP→List AV→(Prop→List AV→Q Rs)→Q Rs
 |[],[],k=>k True []
 |p::ps,x::l,k=>afR pt ids p x fun p y=>H8 pt ids ps l fun q m=>k (p∧q) (y::m)
 |_,_,_=>.ret .no
def gh:List AV→List Nat
 |[]=>[]
 |x::l=>x.boxes++gh l
def KE:List Nat→(List AV→Q Rs)→Q Rs
 |[],k=>k []
 |i::l,k=>sR i fun v=>KE l fun vs=>k (v::vs)
def AJ (base:Nat):Nat→Q Rs→Q Rs
 |0,k=>k
 |n+1,k=>.ask (.b (base+n)) fun
  |none=>AJ base n k
  |some _=>.ret .no
def BN (g:Nat→Nat):List AV→List AV
 |[]=>[]
 |x::l=>x.ly g::BN g l
def oO (ids:List Nat) (base:Nat) (j:Nat):Nat:=match ids[j]? with
 |some i=>i
 |none=>base+(j-ids.length)
def atA (os:List AV) (j:Nat):AV:=match os[j]? with
 |some x=>x
 |none=>.zz
def F3 {α:Type}(o:α→List AV) (g:Nat→Nat):Nat→List Nat→List (fJ×(α→AV))
 |_,[]=>[]
 |j,i::l=>(.b i,fun z=>(atA (o z) j).ly g)::F3 o g (j+1) l
def H3:List AV→Bool
 |[]=>true
 |.o (.a _)::l=>H3 l
 |.rs _ _::l=>H3 l
 |_::_=>false
def il (mv:Bool) (d:Nat):Nat:=bif mv then 1000000000+10000*(d+1) else 10000*(d+1)
def afc (c:cn) (d:Nat) (ids:List Nat) (x:APs.Ty c.A) (y:APs.Ty c.B):List (fJ×(c.α x y→AV)):=
 match c.ro with
 |false=>F3 (c.o x y) (oO ids (il c.mv d)) 0 (ids++cD (il c.mv d) c.nf)
 |true=>F3 (c.o x y) (oO ids (il c.mv d)) ids.length (cD (il c.mv d) c.nf)
def NM (c:cn) (d:Nat) (ids:List Nat) (bs:List AV) (x:APs.Ty c.A) (y:APs.Ty c.B) (p:Prop):Prop:=
 match c.ro with
 |false=>p
 |true=>p∧∀z,c.φ x y z→BN (oO ids (il c.mv d)) ((c.o x y z).take ids.length)=bs
theorem afe {c:cn}{d:Nat}{ids:List Nat}{bs:List AV}{x:APs.Ty c.A}{y:APs.Ty c.B}{p:Prop}(h:NM c d ids bs x y p):p:=by
 unfold NM at h
 split at h
 ·exact h
 ·exact h.1
def ajP (d:Nat) (c:cn) (p:Prop) (ids:List Nat) (bs:List AV) (x:APs.Ty c.A) (y:APs.Ty c.B):Rs:=
 .ex (NM c d ids bs x y (p∧c.pre x y)) (c.α x y) (c.φ x y) ((.s d,fun z=>(c.r x y z).ly (oO ids (il c.mv d)))::afc c d ids x y)
def aff (pt:Bool) (d:Nat) (c:cn) (avs:List AV) (ids:List Nat):Q Rs:=
 KE ids fun bs=>bif H3 bs then H8 pt ids c.A avs fun p as=>
  match APs.parse c.A (BN (idxOf ids) as),APs.parse c.B (BN (idxOf ids) bs) with
  |some x,some y=>bif ((gh as).all (iz ids)&&(gh bs).all (iz ids))&&(nodupB ids&&Nat.ble ids.length 1000) then AJ (il c.mv d) c.nf (.ret (ajP d c p ids bs x y)) else .ret .no
  |_,_=>.ret .no else .ret .no
def dd:List Nat→List Nat→List Nat
 |[],acc=>acc
 |i::l,acc=>bif iz acc i then dd l acc else dd l (i::acc)
def vH:List Nat→List Nat→(List Nat→Q Rs)→Q Rs
 |[],acc,k=>k acc
 |i::l,acc,k=>bif iz acc i then vH l acc k else vH l (i::acc) k
theorem C3:∀(l acc:List Nat) (k:List Nat→Q Rs),vH l acc k=k (dd l acc)
 |[],_,_=>rfl
 |i::l,acc,k=>by
  simp only [vH,dd]
  cases iz acc i with
  |true=>exact C3 l acc k
  |false=>exact C3 l (i::acc) k
def yS:List Nat→List Nat→(List Nat→Q Rs)→Q Rs
 |[],m,k=>k m
 |i::l,m,k=>yS l (i::m) k
theorem MT:∀(l m:List Nat) (k:List Nat→Q Rs),yS l m k=k (l.reverse++m)
 |[],_,_=>rfl
 |i::l,m,k=>by simp only [yS,List.reverse_cons,ZD2,List.singleton_append];exact MT l (i::m) k
def afd (rU:FuncId→Option cn) (pt:Bool) (d:Nat) (f:FuncId) (args:List Operand):Q Rs:=
 match rU f with
 |none=>.ret .no
 |some c=>YA args fun avs=>vH (ZS c.A avs) [] fun r0=>yS r0 [] fun ahJ=>KE ahJ fun bs0=>vH (gh bs0) r0 fun r1=>yS r1 [] fun ids=>aff pt d c avs ids
def ai7 (τ:St) (i:Nat):Prop:=(∃ek l,τ (.b i)=some (.rs ek l))∨∃l,τ (.b i)=some (.o (.a l))
noncomputable def dU (T:bb) (β:Nat→Nat) (τ:St) (w:World) (ids:List Nat):bb:=fun b=>
 match T b with
 |some (.fz _ _ _)=>(match w.heap[b]? with
  |some (.cells cs e fr)=>some (.ln cs e fr)
  |_=>none)
 |some (.bx n)=>open Classical in if∃i,ai7 τ i∧i∉ids∧β i=b then (match w.heap[b]? with
  |some (.cells cs e fr)=>some (.ln cs e fr)
  |_=>none) else some (.bx n)
 |k=>k
section
variable {c:Ctx}{T:bb}{β:Nat→Nat}{a:Act}{w:World}{ids:List Nat}
theorem zE (h:WT T w):WT (dU T β τ w ids) w:=by
 intro b k hb
 unfold dU at hb
 split at hb
 ·split at hb
  ·rename_i cs e fr hc;cases hb;exact hc
  ·cases hb
 ·rename_i n hT
  split at hb
  ·split at hb
   ·rename_i cs e fr hc;cases hb;exact hc
   ·cases hb
  ·cases hb;exact h b _ hT
 ·exact h b k hb
theorem W1 (hg:YF T):UQ (dU T β τ w ids):=by
 refine⟨?_,fun g hm=>by obtain⟨cs,e,fr,h1,h2⟩:=hg g hm;exact⟨cs,e,fr,by unfold dU;rw [h1],h2⟩⟩
 intro b ek n cs hb
 unfold dU at hb
 split at hb
 ·split at hb<;>cases hb
 ·split at hb
  ·split at hb<;>cases hb
  ·cases hb
 ·rename_i h1 h2;exact h1 _ _ _ hb
theorem nX (h:WT T w) {b:Nat}{cs:Array Value}(hr:rdT T b cs):rdT (dU T β τ w ids) b cs:=by
 rcases hr with ⟨e,fr,h1⟩ |⟨e,fr,h1⟩ |⟨ek,n,h1⟩
 ·exact .inl ⟨e,fr,by unfold dU;rw [h1]⟩
 ·exact .inr (.inl ⟨e,fr,by unfold dU;rw [h1]⟩)
 ·obtain⟨_,e,fr,l,h2,_⟩:=h b _ h1
  exact .inr (.inl ⟨e,fr,by unfold dU;rw [h1];simp only;rw [h2]⟩)
theorem H6 (hh:Holds N c T β τ a w) {i:Nat}(hi:i∉ids) {ek:EK}{l:List (EK.Ty ek)}(hb:τ (.b i)=some (.rs ek l)) {cs:Array Value}{e:TypeId}{fr:Nat×Nat}(hc:w.heap[β i]?=some (.cells cs e fr)):rdT (dU T β τ w ids) (β i) cs:=by
 obtain⟨⟨n,hn⟩,_⟩:=hh.apart i (eD hb (by intro e;cases e))
 refine .inr (.inl ⟨e,fr,?_⟩)
 unfold dU
 rw [hn]
 simp only
 rw [if_pos ⟨i,.inl ⟨ek,l,hb⟩,hi,rfl⟩,hc]
theorem afQ (hh:Holds N c T β τ a w) {i:Nat}(hi:i∉ids) {l:List SV}(hb:τ (.b i)=some (.o (.a l))) {cs:Array Value}{e:TypeId}{fr:Nat×Nat}(hc:w.heap[β i]?=some (.cells cs e fr)):rdT (dU T β τ w ids) (β i) cs:=by
 obtain⟨⟨n,hn⟩,_⟩:=hh.apart i (eD hb (by intro e;cases e))
 refine .inr (.inl ⟨e,fr,?_⟩)
 unfold dU
 rw [hn]
 simp only
 rw [if_pos ⟨i,.inr ⟨l,hb⟩,hi,rfl⟩,hc]
theorem S1 (hh:Holds N c T β τ a w) {i n:Nat}(hi:i∈ids) (hl:live τ i) (hn:T (β i)=some (.bx n)):dU T β τ w ids (β i)=some (.bx n):=by
 unfold dU
 rw [hn]
 simp only
 rw [if_neg]
 rintro⟨j,CW,hji,e⟩
 have hlj:live τ j:=by
  rcases CW with ⟨ek,m,hj⟩ |⟨m,hj⟩
  ·exact eD hj (by intro e;cases e)
  ·exact eD hj (by intro e;cases e)
 have:=hh.inj j i hlj hl e
 subst this
 exact hji hi
theorem Q9 (h:WT T w) {x:SV}(hx:∀i sz o m,x≠.xs i sz o m) {v:Value}(hr:x.rel T β v):x.rel (dU T β τ w ids) β v:=by
 cases x with
 |v x=>exact hr
 |q b=>exact hr
 |bp i o=>exact hr
 |xp i sz k j=>exact hr
 |xs i sz o m=>exact absurd rfl (hx i sz o m)
 |ep ek j=>obtain⟨b,o,n,h1,h2,h3⟩:=hr;exact⟨b,o,n,h1,by unfold dU;rw [h2],h3⟩
 |sl ek len=>
  rcases hr with hr |⟨b,o,cap,n,h1,h2,h3,h4⟩
  ·exact .inl hr
  ·exact .inr ⟨b,o,cap,n,h1,h2,by unfold dU;rw [h3],h4⟩
 |vw ek l=>
  rcases hr with hr |⟨b,o,cap,cs,e,fr,h1,h2,h3,h4⟩
  ·exact .inl hr
  ·exact .inr ⟨b,o,cap,cs,e,fr,h1,h2,by unfold dU;rw [h3],h4⟩
 |vz ek l=>
  rcases hr with hr |⟨b,o,cap,cs,h1,h2,h3,h4⟩
  ·exact .inl hr
  ·exact .inr ⟨b,o,cap,cs,h1,h2,nX h h3,h4⟩
 |vp ek x j=>obtain⟨b,o,cs,h1,h2,h3,h4⟩:=hr;exact⟨b,o,cs,h1,h2,nX h h3,h4⟩
 |vs l j=>obtain⟨b,cs,h1,h2,h3⟩:=hr;exact⟨b,cs,h1,nX h h2,E9 (fun _ _=>nX h) h3⟩
 |er b=>exact hr
 |e0=>exact hr
theorem RA (hh:Holds N c T β τ a w) (uG:∀i∈ids,live τ i) {x:SV}(hx:∀i∈x.boxes,i∈ids) {v:Value}(hr:x.rel T β v):x.rel (dU T β τ w ids) β v:=by
 by_cases hxs:∃i sz o m,x= .xs i sz o m
 ·obtain⟨i,sz,o,m,rfl⟩:=hxs
  have hi:i∈ids:=hx i (by simp [SV.boxes])
  rcases hr with hr |⟨cap,n,h1,h2,h3,h4⟩
  ·exact .inl hr
  ·exact .inr ⟨cap,n,h1,h2,S1 hh hi (uG i hi) h3,h4⟩
 ·exact Q9 hh.typed (fun i sz o m e=>hxs ⟨i,sz,o,m,e⟩) hr
theorem LM (hh:Holds N c T β τ a w) (uG:∀i∈ids,live τ i):∀{x:List SV}{v:List Value},(∀i∈cc x,i∈ids)→dN T β x v→dN (dU T β τ w ids) β x v
 |[],[],_,_=>trivial
 |[],_::_,_,h=>h.elim
 |_::_,[],_,h=>h.elim
 |x::l,v::vs,hx,h=>by
  simp only [cc,ZB4] at hx
  exact⟨RA hh uG (fun i hi=>hx i (.inl hi)) h.1,LM hh uG (fun i hi=>hx i (.inr hi)) h.2⟩
theorem ae3 (hh:Holds N c T β τ a w) (uG:∀i∈ids,live τ i) {x:AV}{cs:Array Value}(hx:∀i∈x.boxes,i∈ids) (hr:x.rU T β cs):x.rU (dU T β τ w ids) β cs:=by
 cases x with
 |o x=>
  cases x with
  |s x=>exact hr
  |a l=>exact LM hh uG hx hr
 |_=>exact hr
theorem CJ {pt:Bool}(hh:Holds N c T β τ a w) (uG:∀i∈ids,live τ i) {kp:Bool}{v:SV}{y:Value}(hr:v.rel T β y) {k:Prop→SV→Q Rs}(hp:((L2 pt kp ids v k).run τ).pre):
  ∃p v',(L2 pt kp ids v k).run τ=(k p v').run τ∧(p→(∀i∈v'.boxes,i∈ids)→v'.rel (dU T β τ w ids) β y):=by
 unfold L2 at hp ⊢
 split at hp
 ·rename_i i sz o m
  cases kp with
  |true=>exact⟨True,_,rfl,fun _ hb=>RA hh uG hb hr⟩
  |false=>
   simp only at hp ⊢
   cases hmi:iz ids i with
   |true=>rw [hmi] at hp;exact hp.elim
   |false=>
    have hni:i∉ids:=fun h=>by rw [fy.2 h] at hmi;cases hmi
    rw [hmi] at hp
    simp only [cond_false] at hp ⊢
    simp only [sR,Q.run] at hp ⊢
    cases hb:τ (.b i) with
    |none=>rw [hb] at hp;exact hp.elim
    |some av=>
     rw [hb] at hp
     simp only at hp ⊢
     split at hp
     ·rename_i ek l
      cases hc:Nat.beq ek.length sz with
      |false=>rw [hc] at hp;exact hp.elim
      |true=>
       have dj:ek.length=sz:=by simpa using hc
       subst dj
       obtain⟨cs,te,mq,_,z,I3,_⟩:=hh.boxes i _ hb (by intro e;cases e)
       cases pt with
       |true=>
        refine⟨o+m≤l.length,.vz ek ((l.drop o).take m),rfl,fun hle _=>?_⟩
        have hlen:((l.drop o).take m).length=m:=by simp;omega
        rcases hr with ⟨rfl,p,rfl⟩ |⟨cap,n,rfl,hmc,_⟩
        ·exact .inl ⟨by simp,p,0,rfl⟩
        ·exact .inr ⟨β i,o*ek.length,cap,cs,by rw [hlen],by rw [hlen];exact hmc,H6 hh hni hb mq,A2 I3 o m⟩
       |false=>
        refine⟨o=0∧m=l.length,.vz ek l,rfl,fun hle _=>?_⟩
        obtain⟨rfl,rfl⟩:=hle
        rcases hr with ⟨za,p,rfl⟩ |⟨cap,n,rfl,hmc,_⟩
        ·exact .inl ⟨ZD4.1 za,p,0,rfl⟩
        ·exact .inr ⟨β i,0*ek.length,cap,cs,rfl,hmc,H6 hh hni hb mq,by have:=A2 I3 0 l.length;simpa using this⟩
     ·exact hp.elim
 ·rename_i fA
  exact⟨True,_,rfl,fun _ _=>Q9 hh.typed fA hr⟩
theorem L3 {pt:Bool}(hh:Holds N c T β τ a w) (uG:∀i∈ids,live τ i):∀{ps:List SP}{v:List SV}{y:List Value},dN T β v y→∀{k:Prop→List SV→Q Rs},((H7 pt ids ps v k).run τ).pre→
  ∃p v',(H7 pt ids ps v k).run τ=(k p v').run τ∧(p→(∀i∈cc v',i∈ids)→dN (dU T β τ w ids) β v' y)
 |[],[],[],_,k,hp=>⟨True,[],rfl,fun _ _=>trivial⟩
 |[],[],_::_,h,_,_=>h.elim
 |_::_,[],_,_,_,hp=>by simp only [H7] at hp;exact hp.elim
 |[],_::_,_,_,_,hp=>by simp only [H7] at hp;exact hp.elim
 |_::_,_::_,[],h,_,_=>h.elim
 |p0::ps,x::l,y::ys,h,k,hp=>by
  simp only [H7] at hp ⊢
  obtain⟨p,x',h1,h2⟩:=CJ hh uG h.1 hp
  rw [h1] at hp ⊢
  obtain⟨q,l',g1,g2⟩:=L3 hh uG h.2 hp
  refine⟨p∧q,x'::l',g1,fun hpq hb=>?_⟩
  simp only [cc,ZB4] at hb
  exact⟨h2 hpq.1 fun i hi=>hb i (.inl hi),g2 hpq.2 fun i hi=>hb i (.inr hi)⟩
theorem CK {pt:Bool}(hh:Holds N c T β τ a w):∀{v:List SV}{y:List Value},dN T β v y→∀{k:Prop→List CV→Q Rs},((uw pt ids v k).run τ).pre→
  ∃p v',(uw pt ids v k).run τ=(k p v').run τ∧(p→xl (dU T β τ w ids) v' y)
 |[],[],_,k,hp=>⟨True,[],rfl,fun _=>trivial⟩
 |[],_::_,h,_,_=>h.elim
 |_::_,[],h,_,_=>h.elim
 |x::l,y::ys,h,k,hp=>by
  have simple:∀(cv:CV),(∀k,uw pt ids (x::l) k=uw pt ids l fun q m=>k q (cv::m))→cv.rel (dU T β τ w ids) y→∃p v',(uw pt ids (x::l) k).run τ=(k p v').run τ∧(p→xl (dU T β τ w ids) v' (y::ys)):=fun cv e hr=>by
   rw [e] at hp ⊢
   obtain⟨p,v',h1,h2⟩:=CK hh h.2 hp
   exact⟨p,cv::v',h1,fun hpp=>⟨hr,h2 hpp⟩⟩
  cases x with
  |v x=>exact simple (.v x) (fun _=>rfl) h.1
  |q b=>exact simple (.q b) (fun _=>rfl) h.1
  |vz ek r=>exact simple (.vz ek r) (fun _=>rfl) (CV.acN (x:=.vz ek r) (fun _ _=>nX hh.typed) h.1)
  |vw ek r=>
   refine simple (.vz ek r) (fun _=>rfl) ?_
   rcases h.1 with hr |⟨b,o,cap,cs,e,fr,h1,h2,h3,h4⟩
   ·exact .inl hr
   ·exact .inr ⟨b,o,cap,cs,h1,h2,nX hh.typed (.inl ⟨e,fr,h3⟩),h4⟩
  |xs j sz o n=>
   simp only [uw] at hp ⊢
   cases hmi:iz ids j with
   |true=>rw [hmi] at hp;exact hp.elim
   |false=>
    have hni:j∉ids:=fun h=>by rw [fy.2 h] at hmi;cases hmi
    rw [hmi] at hp
    simp only [cond_false] at hp ⊢
    simp only [sR,Q.run] at hp ⊢
    cases hb:τ (.b j) with
    |none=>rw [hb] at hp;exact hp.elim
    |some av=>
     rw [hb] at hp
     simp only at hp ⊢
     split at hp
     ·rename_i ek r
      cases hc:Nat.beq ek.length sz with
      |false=>rw [hc] at hp;exact hp.elim
      |true=>
       rw [hc] at hp
       have dj:ek.length=sz:=by simpa using hc
       subst dj
       obtain⟨cs,te,mq,_,z,I3,_⟩:=hh.boxes j _ hb (by intro e;cases e)
       obtain⟨p,v',h1,h2⟩:=CK hh h.2 hp
       refine⟨(o=0∧n=r.length)∧p,.vz ek r::v',h1,fun hle=>⟨?_,h2 hle.2⟩⟩
       obtain⟨rfl,rfl⟩:=hle.1
       rcases h.1 with ⟨za,p,rfl⟩ |⟨cap,n,rfl,hmc,_⟩
       ·exact .inl ⟨ZD4.1 za,p,0,rfl⟩
       ·exact .inr ⟨β j,0*ek.length,cap,cs,rfl,hmc,H6 hh hni hb mq,by have:=A2 I3 0 r.length;simpa using this⟩
     ·exact hp.elim
  |_=>exact hp.elim
theorem adH {pt:Bool}(hh:Holds N c T β τ a w) (uG:∀i∈ids,live τ i) {ap:AP}{v:AV}{y:Value}(hr:v.rel T β y) {k:Prop→AV→Q Rs}(hp:((afR pt ids ap v k).run τ).pre):
  ∃p v',(afR pt ids ap v k).run τ=(k p v').run τ∧(p→(∀i∈v'.boxes,i∈ids)→v'.rel (dU T β τ w ids) β y):=by
 unfold afR at hp ⊢
 split at hp
 ·exact⟨True,_,rfl,fun _ _=>hr⟩
 ·rename_i m
  obtain⟨b,cs,h1,h2,h3⟩:=hr
  exact⟨True,_,rfl,fun _ _=>⟨b,cs,h1,nX hh.typed h2,E9 (fun _ _=>nX hh.typed) h3⟩⟩
 ·rename_i i
  cases hmi:iz ids i with
  |true=>rw [hmi] at hp;exact hp.elim
  |false=>
   have hni:i∉ids:=fun h=>by rw [fy.2 h] at hmi;cases hmi
   rw [hmi] at hp
   simp only [cond_false] at hp ⊢
   simp only [sR,Q.run] at hp ⊢
   cases hb:τ (.b i) with
   |none=>rw [hb] at hp;exact hp.elim
   |some av=>
    rw [hb] at hp
    simp only at hp ⊢
    split at hp
    ·rename_i l
     obtain⟨cs,te,mq,c6⟩:=hh.boxes i _ hb (by intro e;cases e)
     obtain⟨p,v',h1,h2⟩:=CK hh (pt:=pt) (v:=l) (y:=cs.toList) c6 hp
     exact⟨p,_,h1,fun hpp _=>⟨β i,cs,hr,afQ hh hni hb mq,h2 hpp⟩⟩
    ·exact hp.elim
 ·obtain⟨p,x',h1,h2⟩:=CJ hh uG hr hp
  exact⟨p,.s x',h1,h2⟩
 ·obtain⟨cs,e,hl⟩:=hr
  obtain⟨p,l',h1,h2⟩:=L3 hh uG hl hp
  exact⟨p,.a l',h1,fun hpp hb=>⟨cs,e,h2 hpp hb⟩⟩
 ·obtain⟨p,x',h1,h2⟩:=CJ hh uG hr hp
  exact⟨p,.s x',h1,h2⟩
 ·exact hp.elim
theorem L4 {pt:Bool}(hh:Holds N c T β τ a w) (uG:∀i∈ids,live τ i):∀{ps:List AP}{v:List AV}{y:List Value},r9 T β v y→∀{k:Prop→List AV→Q Rs},((H8 pt ids ps v k).run τ).pre→
  ∃p v',(H8 pt ids ps v k).run τ=(k p v').run τ∧(p→(∀i∈gh v',i∈ids)→r9 (dU T β τ w ids) β v' y)
 |[],[],[],_,k,hp=>⟨True,[],rfl,fun _ _=>trivial⟩
 |[],[],_::_,h,_,_=>h.elim
 |_::_,[],_,_,_,hp=>by simp only [H8] at hp;exact hp.elim
 |[],_::_,_,_,_,hp=>by simp only [H8] at hp;exact hp.elim
 |_::_,_::_,[],h,_,_=>h.elim
 |p0::ps,x::l,y::ys,h,k,hp=>by
  simp only [H8] at hp ⊢
  obtain⟨p,x',h1,h2⟩:=adH hh uG h.1 hp
  rw [h1] at hp ⊢
  obtain⟨q,l',g1,g2⟩:=L4 hh uG h.2 hp
  refine⟨p∧q,x'::l',g1,fun hpq hb=>?_⟩
  simp only [gh,ZB4] at hb
  exact⟨h2 hpq.1 fun i hi=>hb i (.inl hi),g2 hpq.2 fun i hi=>hb i (.inr hi)⟩
theorem FN (hh:Holds N c T β τ a w):∀{l:List Operand}{vs:List AV},evA τ l=some vs→r9 T β vs (l.map a.eval)∧∀i∈gh vs,τ (.b i)≠none
 |[],vs,h=>by cases h;exact⟨trivial,by simp [gh]⟩
 |x::l,vs,h=>by
  simp only [evA] at h
  split at h
  ·rename_i v hv
   split at h
   ·rename_i vs' IY
    cases h
    obtain⟨g1,g2⟩:=FN hh IY
    refine⟨⟨eP hh hv,g1⟩,fun i hi=>?_⟩
    simp only [gh,ZB4] at hi
    rcases hi with hi |hi
    ·exact gY hh hv i hi
    ·exact g2 i hi
   ·cases h
  ·cases h
theorem DJ:∀{l:List Nat}{k:List AV→Q Rs},((KE l k).run τ).pre→∃bs,(KE l k).run τ=(k bs).run τ∧bs.length=l.length∧∀(j i:Nat) (av:AV),l[j]?=some i→bs[j]?=some av→τ (.b i)=some av
 |[],k,_=>⟨[],rfl,rfl,by simp⟩
 |i::l,k,hp=>by
  simp only [KE,sR,Q.run] at hp ⊢
  cases hb:τ (.b i) with
  |none=>rw [hb] at hp;exact hp.elim
  |some av=>
   rw [hb] at hp
   obtain⟨bs,h1,h2,h3⟩:=DJ (l:=l) hp
   refine⟨av::bs,h1,by simp [h2],fun j i' av' hj hv=>?_⟩
   cases j with
   |zero=>simp at hj hv;subst hj;subst hv;exact hb
   |succ j=>exact h3 j i' av' (by simpa using hj) (by simpa using hv)
theorem EM {base:Nat}{q:Q Rs}:∀{n:Nat},((AJ base n q).run τ).pre→(AJ base n q).run τ=q.run τ∧∀j,j<n→τ (.b (base+j))=none
 |0,_=>⟨rfl,fun j hj=>by omega⟩
 |n+1,hp=>by
  simp only [AJ,Q.run] at hp ⊢
  cases hb:τ (.b (base+n)) with
  |some _=>rw [hb] at hp;exact hp.elim
  |none=>
   rw [hb] at hp
   obtain⟨h1,h2⟩:=EM (n:=n) hp
   refine⟨h1,fun j hj=>?_⟩
   by_cases e:j=n
   ·subst e;exact hb
   ·exact h2 j (by omega)
theorem H2:∀{l:List AV},H3 l=true→∀x∈l,x≠.zz∧((∃m,x= .o (.a m))∨∃ek m,x= .rs ek m)
 |[],_,x,h=>by cases h
 |y::l,h,x,hx=>by
  unfold H3 at h
  split at h
  ·rename_i heq;cases heq
  ·rename_i m l' heq
   cases heq
   rcases ZB8.1 hx with rfl |hx
   ·exact⟨(by intro e;cases e),.inl ⟨m,rfl⟩⟩
   ·exact H2 h x hx
  ·rename_i ek m l' heq
   cases heq
   rcases ZB8.1 hx with rfl |hx
   ·exact⟨(by intro e;cases e),.inr ⟨ek,m,rfl⟩⟩
   ·exact H2 h x hx
  ·cases h
theorem E8 {g:Nat→Nat}:∀{l:List AV}{i:Nat},(BN g l)[i]?=(l[i]?).map (AV.ly g)
 |[],i=>by simp [BN]
 |x::l,0=>by simp [BN]
 |x::l,i+1=>by simpa [BN] using E8 (l:=l) (i:=i)
theorem DH:∀{l:List AV}{i k:Nat}{x:AV},l[i]?=some x→k∈x.boxes→k∈gh l
 |[],_,_,_,h,_=>by simp at h
 |y::l,0,k,x,h,hk=>by simp at h;subst h;simp [gh,hk]
 |y::l,i+1,k,x,h,hk=>by
  have:=DH (l:=l) (i:=i) (by simpa using h) hk
  simp [gh,this]
end
end
end GL
namespace GL
def plain:BK→Prop
 |.ty _ _=>True
 |.ro _ _ _=>True
 |.bx _=>True
 |_=>False
section
variable {T T':bb}{β:Nat→Nat}
theorem SV.pQ (h:∀b k,T b=some k→plain k→T' b=some k) {x:SV}(hf:x.od=true) {v:Value}(hr:x.rel T β v):x.rel T' β v:=by
 cases x with
 |v x=>exact hr
 |q b=>exact hr
 |bp i o=>exact hr
 |xp i sz k j=>exact hr
 |xs i sz o m=>
  rcases hr with hr |⟨cap,n,h1,h2,h3,h4⟩
  ·exact .inl hr
  ·exact .inr ⟨cap,n,h1,h2,h _ _ h3 trivial,h4⟩
 |ep ek j=>obtain⟨b,o,n,h1,h2,h3⟩:=hr;exact⟨b,o,n,h1,h _ _ h2 trivial,h3⟩
 |sl ek len=>
  rcases hr with hr |⟨b,o,cap,n,h1,h2,h3,h4⟩
  ·exact .inl hr
  ·exact .inr ⟨b,o,cap,n,h1,h2,h _ _ h3 trivial,h4⟩
 |vw ek l=>
  rcases hr with hr |⟨b,o,cap,cs,e,fr,h1,h2,h3,h4⟩
  ·exact .inl hr
  ·exact .inr ⟨b,o,cap,cs,e,fr,h1,h2,h _ _ h3 trivial,h4⟩
 |vz ek l=>cases hf
 |vp ek x j=>cases hf
 |vs l j=>cases hf
 |er b=>exact hr
 |e0=>exact hr
theorem BP (h:∀b k,T b=some k→plain k→T' b=some k):∀{l:List SV}{cs:List Value},zW l=true→dN T β l cs→dN T' β l cs
 |[],[],_,_=>trivial
 |_::_,[],_,h'=>h'.elim
 |[],_::_,_,h'=>h'.elim
 |_::_,_::_,hf,h'=>by
  simp only [zW,ZA9] at hf
  exact⟨SV.pQ h hf.1 h'.1,BP h hf.2 h'.2⟩
theorem A0.pQ (h:∀b k,T b=some k→plain k→T' b=some k) {x:A0}(hf:x.od=true) {v:Value}(hr:x.rel T β v):x.rel T' β v:=by
 cases x with
 |s x=>exact SV.pQ h hf hr
 |a l=>obtain⟨cs,e,hl⟩:=hr;exact⟨cs,e,BP h hf hl⟩
theorem LJ (h:∀b k,T b=some k→plain k→T' b=some k):∀{l:List A0}{cs:List Value},uB l=true→uD T β l cs→uD T' β l cs
 |[],[],_,_=>trivial
 |_::_,[],_,h'=>h'.elim
 |[],_::_,_,h'=>h'.elim
 |_::_,_::_,hf,h'=>by
  simp only [uB,ZA9] at hf
  exact⟨A0.pQ h hf.1 h'.1,LJ h hf.2 h'.2⟩
theorem AV.pQ (h:∀b k,T b=some k→plain k→T' b=some k) {x:AV}(hf:x.od=true) {v:Value}(hr:x.rel T β v):x.rel T' β v:=by
 cases x with
 |o x=>exact A0.pQ h hf hr
 |t l=>obtain⟨cs,e,hl⟩:=hr;exact⟨cs,e,LJ h hf hl⟩
 |rs ek l=>exact hr
 |zz=>exact hr
 |fn f l=>exact hr
theorem AV.ae4 (h:∀b k,T b=some k→plain k→T' b=some k) {x:AV}(hf:x.od=true) {cs:Array Value}(hr:x.rU T β cs):x.rU T' β cs:=by
 cases x with
 |o x=>
  cases x with
  |s x=>exact hr
  |a l=>exact BP h hf hr
 |_=>exact hr
end
section
variable {N:Nat}{c:Ctx}{T:bb}{β:Nat→Nat}{τ:St}{a:Act}{w w':World}{ids:List Nat}
theorem vu (h:WT T w) {b:Nat}{k:BK}(hk:T b=some k):dU T β τ w ids b=some k∨∃cs e fr,dU T β τ w ids b=some (.ln cs e fr):=by
 unfold dU
 rw [hk]
 cases k with
 |fz ek n cs=>
  obtain⟨_,e,fr,l,h2,_⟩:=h b _ hk
  exact .inr ⟨cs,e,fr,by simp only [h2]⟩
 |bx n=>
  obtain⟨cs,e,h2,_⟩:=h b _ hk
  simp only
  by_cases hx:∃i,ai7 τ i∧i∉ids∧β i=b
  ·rw [if_pos hx,h2];exact .inr ⟨cs,e,(0,0),rfl⟩
  ·rw [if_neg hx];exact .inl rfl
 |_=>exact .inl rfl
theorem W2 {b:Nat}{k:BK}(hk:dU T β τ w ids b=some k) (hp:plain k):T b=some k:=by
 unfold dU at hk
 split at hk
 ·split at hk
  ·cases hk;exact hp.elim
  ·cases hk
 ·rename_i n hT
  split at hk
  ·split at hk
   ·cases hk;exact hp.elim
   ·cases hk
  ·rw [hT];exact hk
 ·exact hk
theorem W0 {b:Nat}(hk:T b=none):dU T β τ w ids b=none:=by
 unfold dU
 rw [hk]
def AH (T T':bb) (n:Nat):bb:=fun b=>if b<n then T b else T' b
def backβ (β β':Nat→Nat) (base nf k:Nat):Nat→Nat:=fun i=>if base≤i∧i<base+nf then β' (k+(i-base)) else β i
structure YG (τ τ':St) (ids:List Nat) (base nf:Nat) (os:List AV):Prop where
 set:∀j i,(ids++cD base nf)[j]?=some i→τ' (.b i)=some ((atA os j).ly (oO ids base))
 old:∀r,(∀i∈ids++cD base nf,r≠.b i)→τ' r=τ r
theorem Holds.call (hh:Holds N c T β τ a w) {base nf:Nat}{mv:Bool}{os:List AV}{T':bb}{β2 β':Nat→Nat}{τ':St}(agV:1000≤base) (hmv:mv=true→1000000000≤base)
  (sD:∀i∈ids,live τ i) (h2:∀j i,ids[j]?=some i→β2 j=β i) (uA:∀j,j<nf→τ (.b (base+j))=none) (hos:os.length=ids.length+nf)
  (hA:aaB w (dU T β τ w ids) β2 ids.length T' w') (hB:KO w ids.length mv β2 T' β' w' os) (hτ:YG τ τ' ids base nf os):
  Holds N c (AH T T' w.heap.size) (backβ β β' base nf ids.length) τ' a w'∧(∀b k,T' b=some k→plain k→AH T T' w.heap.size b=some k)∧∀n,n<os.length→backβ β β' base nf ids.length (oO ids base n)=β' n∧τ' (.b (oO ids base n))≠none:=by
 have I2:∀b k,T' b=some k→plain k→AH T T' w.heap.size b=some k:=by
  intro b k hb hp
  unfold AH
  by_cases bU:b<w.heap.size
  ·rw [if_pos bU]
   rw [hA.new b bU] at hb
   exact W2 hb hp
  ·rw [if_neg bU];exact hb
 have zS:uS T (AH T T' w.heap.size):=fun b k hb=>by
  unfold AH
  rw [if_pos (BK.lt (hh.typed b k hb))];exact hb
 have ke:∀i,τ (.b i)≠none→¬(base≤i∧i<base+nf):=fun i hi h=>by
  have:=uA (i-base) (by omega)
  rw [show base+(i-base)=i by omega] at this
  exact hi this
 have hβo:∀i,τ (.b i)≠none→backβ β β' base nf ids.length i=β i:=fun i hi=>by unfold backβ;rw [if_neg (ke i hi)]
 have hβj:∀j i,(ids++cD base nf)[j]?=some i→backβ β β' base nf ids.length i=β' j:=by
  intro j i hj
  by_cases bU:j<ids.length
  ·rw [ZC2 bU] at hj
   have hi:=ZB6 hj
   rw [hβo i (kD (sD i hi)),hB.same j bU,h2 j i hj]
  ·rw [ZC6 (by omega)] at hj
   have hr:j-ids.length<nf:=by
    have:=(ZC0.1 hj).1
    rwa [kI] at this
   rw [jO _ _ _ hr] at hj
   cases hj
   unfold backβ
   rw [if_pos (by omega)]
   congr 1;omega
 have agW:∀n,n<os.length→(ids++cD base nf)[n]?=some (oO ids base n):=by
  intro n hn
  unfold oO
  by_cases bU:n<ids.length
  ·rw [ZC2 bU,ZB1 bU]
  ·rw [ZC6 (by omega),jO _ _ _ (by omega),ZD8 (by omega)]
 have MO:∀n,n<os.length→backβ β β' base nf ids.length (oO ids base n)=β' n∧τ' (.b (oO ids base n))≠none:=fun n hn=>by
  refine⟨hβj n _ (agW n hn),?_⟩
  rw [hτ.set n _ (agW n hn)]
  simp
 have af7:∀i,τ (.b i)≠none→τ' (.b i)≠none:=by
  intro i hi
  by_cases hm:i∈ids++cD base nf
  ·obtain⟨j,hj⟩:=ZF3 hm
   rw [hτ.set j i hj];simp
  ·rw [hτ.old (.b i) (fun k hk e=>hm (by cases e;exact hk))];exact hi
 have ajd:∀i,live τ i→i∉ids→w'.heap[β i]?=w.heap[β i]?:=by
  intro i hi hni
  obtain⟨⟨n,hn⟩,_⟩:=hh.apart i hi
  have bU:=hh.lt hi
  rcases vu (β:=β) (τ:=τ) (ids:=ids) hh.typed hn with h |⟨cs,e,fr,h⟩
  ·refine hA.frame _ bU (fun j hj he=>?_) (by rw [h];trivial)
   have hjl:ids[j]?=some ids[j]:=ZB1 hj
   rw [h2 j _ hjl] at he
   exact hni (hh.inj i _ hi (sD _ (ZB6 hjl)) he ▸ ZB6 hjl)
  ·have g1:w.heap[β i]?=some (.cells cs e fr):=zE hh.typed _ _ h
   have g2:w'.heap[β i]?=some (.cells cs e fr):=hA.typed (β i) (.ln cs e fr) (by rw [hA.new _ bU];exact h)
   rw [g1,g2]
 have TM:∀i,live τ' i→(i∉ids∧¬(base≤i∧i<base+nf)∧live τ i)∨∃(j:Nat) (av:AV),(ids++cD base nf)[j]?=some i∧os[j]?=some av∧av≠.zz:=by
  intro i hi
  by_cases hm:i∈ids++cD base nf
  ·right
   obtain⟨j,hj⟩:=ZF3 hm
   have hs:=hτ.set j i hj
   unfold atA at hs
   cases ho:os[j]? with
   |none=>
    rw [ho] at hs
    unfold live at hi
    rw [hs] at hi
    exact hi.elim
   |some av=>
    rw [ho] at hs
    refine⟨j,av,hj,ho,fun e=>?_⟩
    subst e
    unfold live at hi
    rw [hs] at hi
    exact hi.elim
  ·left
   have ho:=hτ.old (.b i) (fun k hk e=>hm (by cases e;exact hk))
   refine⟨fun h=>hm (List.mem_append_left _ h),fun h=>hm (List.mem_append_right _ (fY.2 h)),?_⟩
   unfold live at hi ⊢
   rwa [ho] at hi
 have hβlive:∀i,live τ i→backβ β β' base nf ids.length i=β i:=fun i hi=>hβo i (kD hi)
 refine⟨{
  defs:=hh.defs
  size:=hh.size
  EB:=hh.EB
  iJ:=fun i av hi=>by
   rw [hτ.old (.s i) (fun k _ e=>by cases e)] at hi
   obtain⟨v,hv,hr⟩:=hh.iJ i av hi
   exact⟨v,hv,AV.nJ zS (AV.acO (fun k hk=>hβo k (hh.named (.s i) av hi k hk)) hr)⟩
  boxes:=fun i av hi hz=>by
   by_cases hm:i∈ids++cD base nf
   ·obtain⟨j,hj⟩:=ZF3 hm
    rw [hτ.set j i hj] at hi
    cases hi
    unfold atA at hz ⊢
    cases ho:os[j]? with
    |none=>rw [ho] at hz;exact absurd rfl hz
    |some x=>
     rw [ho] at hz
     simp only at hz ⊢
     obtain⟨_,_,⟨cs,e,g1,g2⟩,g3,g4⟩:=hB.at_ j x ho (E7 hz)
     refine⟨cs,e,by rw [hβj j i hj];exact g1,?_⟩
     exact AV.FT (fun n hn=>(MO n (g3 n hn)).1) (AV.ae4 I2 g4 g2)
   ·have ho:=hτ.old (.b i) (fun k hk e=>hm (by cases e;exact hk))
    rw [ho] at hi
    have hl:=eD hi hz
    obtain⟨cs,e,g1,g2⟩:=hh.boxes i av hi hz
    refine⟨cs,e,?_,AV.JS zS (AV.X2 (fun k hk=>hβo k (hh.named (.b i) av hi k hk)) g2)⟩
    rw [hβlive i hl,ajd i hl (fun h=>hm (List.mem_append_left _ h))]
    exact g1
  apart:=fun i hi=>by
   rcases TM i hi with ⟨_,_,hl⟩ |⟨j,av,hj,ho,hz⟩
   ·rw [hβlive i hl]
    obtain⟨⟨n,hn⟩,g⟩:=hh.apart i hl
    exact⟨⟨n,zS _ _ hn⟩,g⟩
   ·rw [hβj j i hj]
    obtain⟨⟨n,hn⟩,vE,_⟩:=hB.at_ j av ho hz
    refine⟨⟨n,I2 _ _ hn aa⟩,?_⟩
    by_cases bU:j<ids.length
    ·rw [ZC2 bU] at hj
     have hl:=sD i (ZB6 hj)
     have e:β' j=β i:=by rw [hB.same j bU,h2 j i hj]
     rw [e]
     exact (hh.apart i hl).2
    ·rw [ZC6 (by omega)] at hj
     have hr:=fY.1 (ZB6 hj)
     refine⟨fun h=>by omega,fun _ h3=>?_,?_⟩
     ·rcases vE (by omega) with h4 |⟨h4,_⟩
      ·exact ZB0 hh.gd h4
      ·have:=hmv h4;omega
     ·rcases vE (by omega) with h4 |⟨_,j',h4,h5⟩
      ·exact .inl (ZB0 hh.gd h4)
      ·rw [h5,h2 j' _ (ZB1 h4)]
       exact (hh.apart _ (sD _ (List.getElem_mem h4))).2.2.2
  handed:=fun i b hb hi=>by
   have bU:i<c.H.length:=(ZC0.1 hb).1
   have ald:=hh.EB
   have hl:live τ i:=by
    rcases TM i hi with ⟨_,_,hl⟩ |⟨j,av,hj,_,_⟩
    ·exact hl
    ·rcases ZB4.1 (ZB6 hj) with h |h
     ·exact sD i h
     ·have:=fY.1 h;omega
   rw [hβlive i hl]
   exact hh.handed i b hb hl
  inj:=fun i i' hi CX e=>by
   have adg:∀k,live τ k→β k<w.heap.size:=fun k hk=>hh.lt hk
   rcases TM i hi with ⟨n1,_,hl⟩ |⟨j,av,hj,ho,hz⟩
   ·rcases TM i' CX with ⟨_,_,hl'⟩ |⟨j',av',CW,ho',hz'⟩
    ·rw [hβlive i hl,hβlive i' hl'] at e
     exact hh.inj i i' hl hl' e
    ·rw [hβlive i hl,hβj j' i' CW] at e
     by_cases bU:j'<ids.length
     ·rw [ZC2 bU] at CW
      rw [hB.same j' bU,h2 j' i' CW] at e
      exact hh.inj i i' hl (sD i' (ZB6 CW)) e
     ·rcases (hB.at_ j' av' ho' hz').2.1 (by omega) with h4 |⟨_,j2,h4,h5⟩
      ·have:=adg i hl
       omega
      ·rw [h5,h2 j2 _ (ZB1 h4)] at e
       exact absurd (hh.inj i _ hl (sD _ (List.getElem_mem h4)) e ▸ List.getElem_mem h4) n1
   ·rcases TM i' CX with ⟨n1,_,hl'⟩ |⟨j',av',CW,ho',hz'⟩
    ·rw [hβj j i hj,hβlive i' hl'] at e
     by_cases bU:j<ids.length
     ·rw [ZC2 bU] at hj
      rw [hB.same j bU,h2 j i hj] at e
      exact hh.inj i i' (sD i (ZB6 hj)) hl' e
     ·rcases (hB.at_ j av ho hz).2.1 (by omega) with h4 |⟨_,j2,h4,h5⟩
      ·have:=adg i' hl'
       omega
      ·rw [h5,h2 j2 _ (ZB1 h4)] at e
       exact absurd (hh.inj i' _ hl' (sD _ (List.getElem_mem h4)) e.symm ▸ List.getElem_mem h4) n1
    ·rw [hβj j i hj,hβj j' i' CW] at e
     have:=hB.inj j j' av av' ho hz ho' hz' e
     subst this
     rw [hj] at CW
     cases CW
     rfl
  named:=fun r av hr i hi=>by
   cases r with
   |s n=>
    rw [hτ.old (.s n) (fun k _ e=>by cases e)] at hr
    exact af7 i (hh.named (.s n) av hr i hi)
   |b n=>
    by_cases hm:n∈ids++cD base nf
    ·obtain⟨j,hj⟩:=ZF3 hm
     rw [hτ.set j n hj] at hr
     cases hr
     obtain⟨m,hm',rfl⟩:=AV.gl hi
     unfold atA at hm'
     cases ho:os[j]? with
     |none=>rw [ho] at hm';simp [AV.boxes] at hm'
     |some x=>
      rw [ho] at hm'
      have hz:x≠.zz:=fun e=>by subst e;simp [AV.boxes] at hm'
      exact (MO m ((hB.at_ j x ho hz).2.2.2.1 m hm')).2
    ·rw [hτ.old (.b n) (fun k hk e=>hm (by cases e;exact hk))] at hr
     exact af7 i (hh.named (.b n) av hr i hi)
  typed:=fun b k hb=>by
   unfold AH at hb
   by_cases bU:b<w.heap.size
   ·rw [if_pos bU] at hb
    rcases vu (β:=β) (τ:=τ) (ids:=ids) hh.typed hb with h |⟨cs,e,fr,h⟩
    ·exact hA.typed b k (by rw [hA.new b bU];exact h)
    ·have g1:w.heap[b]?=some (.cells cs e fr):=zE hh.typed _ _ h
     have g2:w'.heap[b]?=some (.cells cs e fr):=hA.typed b (.ln cs e fr) (by rw [hA.new _ bU];exact h)
     exact BK.qn (hh.typed b k hb) (by rw [g1,g2])
   ·rw [if_neg bU] at hb
    exact hA.typed b k hb
  old:=fun b hb=>by
   unfold AH
   rw [if_pos (ZG3 hb hh.gd)]
   exact hh.old b hb
  frame:=fun b hb hH hq=>by
   have bU:b<w.heap.size:=ZG3 hb hh.gd
   rw [←hh.frame b hb hH hq]
   have ho:=hh.old b hb
   cases hT:T b with
   |none=>
    refine hA.frame b bU (fun j hj e=>?_) (by rw [W0 hT];trivial)
    have hjl:ids[j]?=some ids[j]:=ZB1 hj
    rw [h2 j _ hjl] at e
    obtain⟨n,hn⟩:=(hh.apart _ (sD _ (ZB6 hjl))).1
    rw [←e,hT] at hn
    cases hn
   |some k=>
    rw [hT] at ho
    rcases vu (β:=β) (τ:=τ) (ids:=ids) hh.typed hT with h |⟨cs,e,fr,h⟩
    ·refine hA.frame b bU (fun j hj e=>?_) ?_
     ·have hjl:ids[j]?=some ids[j]:=ZB1 hj
      rw [h2 j _ hjl] at e
      have hl:=sD _ (ZB6 hjl)
      rcases (hh.apart _ hl).2.2.2 with g1 |g1
      ·omega
      ·exact hH (e ▸ g1)
     ·rw [h]
      rw [←ho] at hq
      cases k<;>first|trivial|exact hq
    ·have g1:w.heap[b]?=some (.cells cs e fr):=zE hh.typed _ _ h
     have g2:w'.heap[b]?=some (.cells cs e fr):=hA.typed b (.ln cs e fr) (by rw [hA.new _ bU];exact h)
     rw [g1,g2]
  gd:=ZB0 hh.gd hA.gd
  os:=hA.os.trans hh.os
  tape:=hA.tape.trans hh.tape
  output:=hA.output.trans hh.output
  oV:=hh.oV.mono zS },I2,MO⟩
end
end GL
end Go.Proofs.YtnkbdhldiinfdaaGreatDoor
