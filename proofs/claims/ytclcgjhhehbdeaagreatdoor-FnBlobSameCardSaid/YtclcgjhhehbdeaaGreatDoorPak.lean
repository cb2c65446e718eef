/- A drawn law returns true for every code (its row lists package variables, tied by the card): part 11. -/
import Derived.Test.YtclcgjhhehbdeaaGreatDoorPaj
set_option maxHeartbeats 20000000
set_option maxRecDepth 100000
set_option linter.all false
namespace Go.Proofs.YtclcgjhhehbdeaaGreatDoor
namespace GL
section
variable {P:Program}{N:Nat}{τ:St}
variable {d:Nat}{x y z:Operand}{t u ty:TypeId}{pos:String}{af:Array Edge}{g:Option (Nat×Bool)}
def Enters (P : Program) (f : FuncId) : Prop := ∃ fn, P.funcs[f]? = some fn ∧ fn.body.isSome = true ∧ fn.name ≠ "runtime.NumGoroutine"
theorem aaD {f:FuncId}(h:Enters P f) {args:Array Operand}{tys:Array TypeId}{ρ:Operand→Value}(hρ:ρ (.func f)= .func (.func f) #[] #[]) {w:World}{dst:Option Nat}:
  (execOp ρ ⟨dst,.call ⟨.value (.func f),args,tys⟩,ty,pos,af,g⟩).run P w= .ok (.enter f (args.map ρ)) w:=by
 obtain⟨fn,h1,h2,h3⟩:=h
 obtain⟨cd,hcd⟩:=Option.isSome_iff_exists.1 h2
 simp [execOp,resolve,hρ,Deferred.ofValue,invoke,callFunc,h1,hcd,h3]
def X4:List Operand→(List AV→Q Rs)→Q Rs
 |[],k=>k []
 |x::l,k=>bY x fun v=>X4 l fun vs=>k (v::vs)
def evA (τ:St):List Operand→Option (List AV)
 |[]=>some []
 |x::l=>match ev τ x with
  |some v=>match evA τ l with
   |some vs=>some (v::vs)
   |none=>none
  |none=>none
theorem AF (τ:St):∀(l:List Operand) (k:List AV→Q Rs),(X4 l k).run τ=match evA τ l with
  |some v=>(k v).run τ
  |none=>.no
 |[],k=>rfl
 |x::l,k=>by
  simp only [X4,c8,evA]
  cases ev τ x with
  |none=>rfl
  |some v=>
   simp only [AF τ l]
   cases evA τ l<;>rfl
def adH:SP→Bool
 |.xb _ _=>true
 |_=>false
def agF (p:SP) (v:SV):List Nat:=
 match v with
 |.xs i _ _ _=>bif adH p then [i] else []
 |x=>x.boxes
def agG:List SP→List SV→List Nat
 |p::ps,x::l=>agF p x++agG ps l
 |_,_=>[]
def kept (p:AP) (v:AV):List Nat:=
 match p,v with
 |.s p,.o (.s x)=>agF p x
 |.a l,.o (.a m)=>agG l m
 |.b _,.o (.s x)=>x.boxes
 |.fn _ _,.fn _ l=>jF l
 |_,_=>[]
def ZL:List AP→List AV→List Nat
 |p::ps,x::l=>kept p x++ZL ps l
 |_,_=>[]
def LW (pt kp:Bool) (ids:List Nat) (v:SV) (k:Prop→SV→Q Rs):Q Rs:=
 match v with
 |.xs i sz o m=>match kp with
  |true=>k True (.xs i sz o m)
  |false=>bif ix ids i then .ret .no else sN i fun
   |.rs ek l=>bif Nat.beq ek.length sz then (match pt with
    |true=>k (o+m≤l.length) (.vz ek ((l.drop o).take m))
    |false=>k (o=0∧m=l.length) (.vz ek l)) else .ret .no
   |_=>.ret .no
 |x=>k True x
def H0 (pt:Bool) (ids:List Nat):List SP→List SV→(Prop→List SV→Q Rs)→Q Rs
 |[],[],k=>k True []
 |p::ps,x::l,k=>LW pt (adH p) ids x fun p y=>H0 pt ids ps l fun q m=>k (p∧q) (y::m)
 |_,_,_=>.ret .no
def uq (pt:Bool) (ids:List Nat):List SV→(Prop→List CV→Q Rs)→Q Rs
 |[],k=>k True []
 |.v x::l,k=>uq pt ids l fun q m=>k q (.v x::m)
 |.q b::l,k=>uq pt ids l fun q m=>k q (.q b::m)
 |.vz ek r::l,k=>uq pt ids l fun q m=>k q (.vz ek r::m)
 |.vw ek r::l,k=>uq pt ids l fun q m=>k q (.vz ek r::m)
 |.xs j sz o n::l,k=>bif ix ids j then .ret .no else sN j fun
  |.rs ek r=>bif Nat.beq ek.length sz then uq pt ids l fun q m=>k ((o=0∧n=r.length)∧q) (.vz ek r::m) else .ret .no
  |_=>.ret .no
 |_::_,_=>.ret .no
def afJ (pt:Bool) (ids:List Nat) (ap:AP) (v:AV) (k:Prop→AV→Q Rs):Q Rs:=
 match ap,v with
 |.fn _ _,.fn f l=>k True (.fn f l)
 |.vs _,.o (.s (.vs m 0))=>k True (.s (.vs m 0))
 |.vs _,.o (.s (.bp i 0))=>bif ix ids i then .ret .no else sN i fun
  |.o (.a l)=>uq pt ids l fun p m=>k p (.s (.vs m 0))
  |_=>.ret .no
 |.s p,.o (.s x)=>LW pt (adH p) ids x fun p y=>k p (.s y)
 |.a l,.o (.a m)=>H0 pt ids l m fun p m=>k p (.a m)
 |.b _,.o (.s x)=>LW pt true ids x fun p y=>k p (.s y)
 |_,_=>.ret .no
def H2 (pt:Bool) (ids:List Nat):List AP→List AV→(Prop→List AV→Q Rs)→Q Rs
 |[],[],k=>k True []
 |p::ps,x::l,k=>afJ pt ids p x fun p y=>H2 pt ids ps l fun q m=>k (p∧q) (y::m)
 |_,_,_=>.ret .no
def gf:List AV→List Nat
 |[]=>[]
 |x::l=>x.boxes++gf l
def J8:List Nat→(List AV→Q Rs)→Q Rs
 |[],k=>k []
 |i::l,k=>sN i fun v=>J8 l fun vs=>k (v::vs)
def AE (base:Nat):Nat→Q Rs→Q Rs
 |0,k=>k
 |n+1,k=>.ask (.b (base+n)) fun
  |none=>AE base n k
  |some _=>.ret .no
def BH (g:Nat→Nat):List AV→List AV
 |[]=>[]
 |x::l=>x.lr g::BH g l
def oK (ids:List Nat) (base:Nat) (j:Nat):Nat:=match ids[j]? with
 |some i=>i
 |none=>base+(j-ids.length)
def atA (os:List AV) (j:Nat):AV:=match os[j]? with
 |some x=>x
 |none=>.zz
def FY {α:Type}(o:α→List AV) (g:Nat→Nat):Nat→List Nat→List (fI×(α→AV))
 |_,[]=>[]
 |j,i::l=>(.b i,fun z=>(atA (o z) j).lr g)::FY o g (j+1) l
def HW:List AV→Bool
 |[]=>true
 |.o (.a _)::l=>HW l
 |.rs _ _::l=>HW l
 |_::_=>false
def ij (mv:Bool) (d:Nat):Nat:=bif mv then 1000000000+10000*(d+1) else 10000*(d+1)
def ae4 (c:cn) (d:Nat) (ids:List Nat) (x:APs.Ty c.A) (y:APs.Ty c.B):List (fI×(c.α x y→AV)):=
 match c.ro with
 |false=>FY (c.o x y) (oK ids (ij c.mv d)) 0 (ids++cD (ij c.mv d) c.nf)
 |true=>FY (c.o x y) (oK ids (ij c.mv d)) ids.length (cD (ij c.mv d) c.nf)
def NG (c:cn) (d:Nat) (ids:List Nat) (bs:List AV) (x:APs.Ty c.A) (y:APs.Ty c.B) (p:Prop):Prop:=
 match c.ro with
 |false=>p
 |true=>p∧∀z,c.φ x y z→BH (oK ids (ij c.mv d)) ((c.o x y z).take ids.length)=bs
theorem ae6 {c:cn}{d:Nat}{ids:List Nat}{bs:List AV}{x:APs.Ty c.A}{y:APs.Ty c.B}{p:Prop}(h:NG c d ids bs x y p):p:=by
 unfold NG at h
 split at h
 ·exact h
 ·exact h.1
def ajH (d:Nat) (c:cn) (p:Prop) (ids:List Nat) (bs:List AV) (x:APs.Ty c.A) (y:APs.Ty c.B):Rs:=
 .ex (NG c d ids bs x y (p∧c.pre x y)) (c.α x y) (c.φ x y) ((.s d,fun z=>(c.r x y z).lr (oK ids (ij c.mv d)))::ae4 c d ids x y)
def ae7 (pt:Bool) (d:Nat) (c:cn) (avs:List AV) (ids:List Nat):Q Rs:=
 J8 ids fun bs=>bif HW bs then H2 pt ids c.A avs fun p as=>
  match APs.parse c.A (BH (idxOf ids) as),APs.parse c.B (BH (idxOf ids) bs) with
  |some x,some y=>bif ((gf as).all (ix ids)&&(gf bs).all (ix ids))&&(nodupB ids&&Nat.ble ids.length 1000) then AE (ij c.mv d) c.nf (.ret (ajH d c p ids bs x y)) else .ret .no
  |_,_=>.ret .no else .ret .no
def dd:List Nat→List Nat→List Nat
 |[],acc=>acc
 |i::l,acc=>bif ix acc i then dd l acc else dd l (i::acc)
def vD:List Nat→List Nat→(List Nat→Q Rs)→Q Rs
 |[],acc,k=>k acc
 |i::l,acc,k=>bif ix acc i then vD l acc k else vD l (i::acc) k
theorem CZ:∀(l acc:List Nat) (k:List Nat→Q Rs),vD l acc k=k (dd l acc)
 |[],_,_=>rfl
 |i::l,acc,k=>by
  simp only [vD,dd]
  cases ix acc i with
  |true=>exact CZ l acc k
  |false=>exact CZ l (i::acc) k
def yN:List Nat→List Nat→(List Nat→Q Rs)→Q Rs
 |[],m,k=>k m
 |i::l,m,k=>yN l (i::m) k
theorem MN:∀(l m:List Nat) (k:List Nat→Q Rs),yN l m k=k (l.reverse++m)
 |[],_,_=>rfl
 |i::l,m,k=>by simp only [yN,List.reverse_cons,ZD2,List.singleton_append];exact MN l (i::m) k
def ae5 (rQ:FuncId→Option cn) (pt:Bool) (d:Nat) (f:FuncId) (args:List Operand):Q Rs:=
 match rQ f with
 |none=>.ret .no
 |some c=>X4 args fun avs=>vD (ZL c.A avs) [] fun r0=>yN r0 [] fun ahA=>J8 ahA fun bs0=>vD (gf bs0) r0 fun r1=>yN r1 [] fun ids=>ae7 pt d c avs ids
def aiZ (τ:St) (i:Nat):Prop:=(∃ek l,τ (.b i)=some (.rs ek l))∨∃l,τ (.b i)=some (.o (.a l))
noncomputable def dT (T:bb) (β:Nat→Nat) (τ:St) (w:World) (ids:List Nat):bb:=fun b=>
 match T b with
 |some (.fz _ _ _)=>(match w.heap[b]? with
  |some (.cells cs e fr)=>some (.ln cs e fr)
  |_=>none)
 |some (.bx n)=>open Classical in if∃i,aiZ τ i∧i∉ids∧β i=b then (match w.heap[b]? with
  |some (.cells cs e fr)=>some (.ln cs e fr)
  |_=>none) else some (.bx n)
 |k=>k
section
variable {c:Ctx}{T:bb}{β:Nat→Nat}{a:Act}{w:World}{ids:List Nat}
theorem zy (h:WT T w):WT (dT T β τ w ids) w:=by
 intro b k hb
 unfold dT at hb
 split at hb
 ·split at hb
  ·rename_i cs e fr hc;cases hb;exact hc
  ·cases hb
 ·rename_i n hT
  split at hb
  ·split at hb
   ·rename_i cs e fr hc;cases hb;exact hc
   ·cases hb
  ·cases hb;exact h b _ hT
 ·exact h b k hb
theorem WV (hg:X9 T):UJ (dT T β τ w ids):=by
 refine⟨?_,fun g hm=>by obtain⟨cs,e,fr,h1,h2⟩:=hg g hm;exact⟨cs,e,fr,by unfold dT;rw [h1],h2⟩⟩
 intro b ek n cs hb
 unfold dT at hb
 split at hb
 ·split at hb<;>cases hb
 ·split at hb
  ·split at hb<;>cases hb
  ·cases hb
 ·rename_i h1 h2;exact h1 _ _ _ hb
theorem nT (h:WT T w) {b:Nat}{cs:Array Value}(hr:rdT T b cs):rdT (dT T β τ w ids) b cs:=by
 rcases hr with ⟨e,fr,h1⟩ |⟨e,fr,h1⟩ |⟨ek,n,h1⟩
 ·exact .inl ⟨e,fr,by unfold dT;rw [h1]⟩
 ·exact .inr (.inl ⟨e,fr,by unfold dT;rw [h1]⟩)
 ·obtain⟨_,e,fr,l,h2,_⟩:=h b _ h1
  exact .inr (.inl ⟨e,fr,by unfold dT;rw [h1];simp only;rw [h2]⟩)
theorem HZ (hh:Holds N c T β τ a w) {i:Nat}(hi:i∉ids) {ek:EK}{l:List (EK.Ty ek)}(hb:τ (.b i)=some (.rs ek l)) {cs:Array Value}{e:TypeId}{fr:Nat×Nat}(hc:w.heap[β i]?=some (.cells cs e fr)):rdT (dT T β τ w ids) (β i) cs:=by
 obtain⟨⟨n,hn⟩,_⟩:=hh.apart i (eC hb (by intro e;cases e))
 refine .inr (.inl ⟨e,fr,?_⟩)
 unfold dT
 rw [hn]
 simp only
 rw [if_pos ⟨i,.inl ⟨ek,l,hb⟩,hi,rfl⟩,hc]
theorem afI (hh:Holds N c T β τ a w) {i:Nat}(hi:i∉ids) {l:List SV}(hb:τ (.b i)=some (.o (.a l))) {cs:Array Value}{e:TypeId}{fr:Nat×Nat}(hc:w.heap[β i]?=some (.cells cs e fr)):rdT (dT T β τ w ids) (β i) cs:=by
 obtain⟨⟨n,hn⟩,_⟩:=hh.apart i (eC hb (by intro e;cases e))
 refine .inr (.inl ⟨e,fr,?_⟩)
 unfold dT
 rw [hn]
 simp only
 rw [if_pos ⟨i,.inr ⟨l,hb⟩,hi,rfl⟩,hc]
theorem SU (hh:Holds N c T β τ a w) {i n:Nat}(hi:i∈ids) (hl:live τ i) (hn:T (β i)=some (.bx n)):dT T β τ w ids (β i)=some (.bx n):=by
 unfold dT
 rw [hn]
 simp only
 rw [if_neg]
 rintro⟨j,CR,hji,e⟩
 have hlj:live τ j:=by
  rcases CR with ⟨ek,m,hj⟩ |⟨m,hj⟩
  ·exact eC hj (by intro e;cases e)
  ·exact eC hj (by intro e;cases e)
 have:=hh.inj j i hlj hl e
 subst this
 exact hji hi
theorem Q3 (h:WT T w) {x:SV}(hx:∀i sz o m,x≠.xs i sz o m) {v:Value}(hr:x.rel T β v):x.rel (dT T β τ w ids) β v:=by
 cases x with
 |v x=>exact hr
 |q b=>exact hr
 |bp i o=>exact hr
 |xp i sz k j=>exact hr
 |xs i sz o m=>exact absurd rfl (hx i sz o m)
 |ep ek j=>obtain⟨b,o,n,h1,h2,h3⟩:=hr;exact⟨b,o,n,h1,by unfold dT;rw [h2],h3⟩
 |sl ek len=>
  rcases hr with hr |⟨b,o,cap,n,h1,h2,h3,h4⟩
  ·exact .inl hr
  ·exact .inr ⟨b,o,cap,n,h1,h2,by unfold dT;rw [h3],h4⟩
 |vw ek l=>
  rcases hr with hr |⟨b,o,cap,cs,e,fr,h1,h2,h3,h4⟩
  ·exact .inl hr
  ·exact .inr ⟨b,o,cap,cs,e,fr,h1,h2,by unfold dT;rw [h3],h4⟩
 |vz ek l=>
  rcases hr with hr |⟨b,o,cap,cs,h1,h2,h3,h4⟩
  ·exact .inl hr
  ·exact .inr ⟨b,o,cap,cs,h1,h2,nT h h3,h4⟩
 |vp ek x j=>obtain⟨b,o,cs,h1,h2,h3,h4⟩:=hr;exact⟨b,o,cs,h1,h2,nT h h3,h4⟩
 |vs l j=>obtain⟨b,cs,h1,h2,h3⟩:=hr;exact⟨b,cs,h1,nT h h2,E4 (fun _ _=>nT h) h3⟩
 |er b=>exact hr
 |e0=>exact hr
theorem Q4 (hh:Holds N c T β τ a w) (uC:∀i∈ids,live τ i) {x:SV}(hx:∀i∈x.boxes,i∈ids) {v:Value}(hr:x.rel T β v):x.rel (dT T β τ w ids) β v:=by
 by_cases hxs:∃i sz o m,x= .xs i sz o m
 ·obtain⟨i,sz,o,m,rfl⟩:=hxs
  have hi:i∈ids:=hx i (by simp [SV.boxes])
  rcases hr with hr |⟨cap,n,h1,h2,h3,h4⟩
  ·exact .inl hr
  ·exact .inr ⟨cap,n,h1,h2,SU hh hi (uC i hi) h3,h4⟩
 ·exact Q3 hh.typed (fun i sz o m e=>hxs ⟨i,sz,o,m,e⟩) hr
theorem LG (hh:Holds N c T β τ a w) (uC:∀i∈ids,live τ i):∀{x:List SV}{v:List Value},(∀i∈cc x,i∈ids)→dM T β x v→dM (dT T β τ w ids) β x v
 |[],[],_,_=>trivial
 |[],_::_,_,h=>h.elim
 |_::_,[],_,h=>h.elim
 |x::l,v::vs,hx,h=>by
  simp only [cc,ZB4] at hx
  exact⟨Q4 hh uC (fun i hi=>hx i (.inl hi)) h.1,LG hh uC (fun i hi=>hx i (.inr hi)) h.2⟩
theorem aeV (hh:Holds N c T β τ a w) (uC:∀i∈ids,live τ i) {x:AV}{cs:Array Value}(hx:∀i∈x.boxes,i∈ids) (hr:x.rQ T β cs):x.rQ (dT T β τ w ids) β cs:=by
 cases x with
 |o x=>
  cases x with
  |s x=>exact hr
  |a l=>exact LG hh uC hx hr
 |_=>exact hr
theorem CE {pt:Bool}(hh:Holds N c T β τ a w) (uC:∀i∈ids,live τ i) {kp:Bool}{v:SV}{y:Value}(hr:v.rel T β y) {k:Prop→SV→Q Rs}(hp:((LW pt kp ids v k).run τ).pre):
  ∃p v',(LW pt kp ids v k).run τ=(k p v').run τ∧(p→(∀i∈v'.boxes,i∈ids)→v'.rel (dT T β τ w ids) β y):=by
 unfold LW at hp ⊢
 split at hp
 ·rename_i i sz o m
  cases kp with
  |true=>exact⟨True,_,rfl,fun _ hb=>Q4 hh uC hb hr⟩
  |false=>
   simp only at hp ⊢
   cases hmi:ix ids i with
   |true=>rw [hmi] at hp;exact hp.elim
   |false=>
    have hni:i∉ids:=fun h=>by rw [fx.2 h] at hmi;cases hmi
    rw [hmi] at hp
    simp only [cond_false] at hp ⊢
    simp only [sN,Q.run] at hp ⊢
    cases hb:τ (.b i) with
    |none=>rw [hb] at hp;exact hp.elim
    |some av=>
     rw [hb] at hp
     simp only at hp ⊢
     split at hp
     ·rename_i ek l
      cases hc:Nat.beq ek.length sz with
      |false=>rw [hc] at hp;exact hp.elim
      |true=>
       have dj:ek.length=sz:=by simpa using hc
       subst dj
       obtain⟨cs,te,mj,_,z,IX,_⟩:=hh.boxes i _ hb (by intro e;cases e)
       cases pt with
       |true=>
        refine⟨o+m≤l.length,.vz ek ((l.drop o).take m),rfl,fun hle _=>?_⟩
        have hlen:((l.drop o).take m).length=m:=by simp;omega
        rcases hr with ⟨rfl,p,rfl⟩ |⟨cap,n,rfl,hmc,_⟩
        ·exact .inl ⟨by simp,p,0,rfl⟩
        ·exact .inr ⟨β i,o*ek.length,cap,cs,by rw [hlen],by rw [hlen];exact hmc,HZ hh hni hb mj,AW IX o m⟩
       |false=>
        refine⟨o=0∧m=l.length,.vz ek l,rfl,fun hle _=>?_⟩
        obtain⟨rfl,rfl⟩:=hle
        rcases hr with ⟨y0,p,rfl⟩ |⟨cap,n,rfl,hmc,_⟩
        ·exact .inl ⟨ZD4.1 y0,p,0,rfl⟩
        ·exact .inr ⟨β i,0*ek.length,cap,cs,rfl,hmc,HZ hh hni hb mj,by have:=AW IX 0 l.length;simpa using this⟩
     ·exact hp.elim
 ·rename_i fy
  exact⟨True,_,rfl,fun _ _=>Q3 hh.typed fy hr⟩
theorem LX {pt:Bool}(hh:Holds N c T β τ a w) (uC:∀i∈ids,live τ i):∀{ps:List SP}{v:List SV}{y:List Value},dM T β v y→∀{k:Prop→List SV→Q Rs},((H0 pt ids ps v k).run τ).pre→
  ∃p v',(H0 pt ids ps v k).run τ=(k p v').run τ∧(p→(∀i∈cc v',i∈ids)→dM (dT T β τ w ids) β v' y)
 |[],[],[],_,k,hp=>⟨True,[],rfl,fun _ _=>trivial⟩
 |[],[],_::_,h,_,_=>h.elim
 |_::_,[],_,_,_,hp=>by simp only [H0] at hp;exact hp.elim
 |[],_::_,_,_,_,hp=>by simp only [H0] at hp;exact hp.elim
 |_::_,_::_,[],h,_,_=>h.elim
 |p0::ps,x::l,y::ys,h,k,hp=>by
  simp only [H0] at hp ⊢
  obtain⟨p,x',h1,h2⟩:=CE hh uC h.1 hp
  rw [h1] at hp ⊢
  obtain⟨q,l',g1,g2⟩:=LX hh uC h.2 hp
  refine⟨p∧q,x'::l',g1,fun hpq hb=>?_⟩
  simp only [cc,ZB4] at hb
  exact⟨h2 hpq.1 fun i hi=>hb i (.inl hi),g2 hpq.2 fun i hi=>hb i (.inr hi)⟩
theorem CF {pt:Bool}(hh:Holds N c T β τ a w):∀{v:List SV}{y:List Value},dM T β v y→∀{k:Prop→List CV→Q Rs},((uq pt ids v k).run τ).pre→
  ∃p v',(uq pt ids v k).run τ=(k p v').run τ∧(p→xh (dT T β τ w ids) v' y)
 |[],[],_,k,hp=>⟨True,[],rfl,fun _=>trivial⟩
 |[],_::_,h,_,_=>h.elim
 |_::_,[],h,_,_=>h.elim
 |x::l,y::ys,h,k,hp=>by
  have simple:∀(cv:CV),(∀k,uq pt ids (x::l) k=uq pt ids l fun q m=>k q (cv::m))→cv.rel (dT T β τ w ids) y→∃p v',(uq pt ids (x::l) k).run τ=(k p v').run τ∧(p→xh (dT T β τ w ids) v' (y::ys)):=fun cv e hr=>by
   rw [e] at hp ⊢
   obtain⟨p,v',h1,h2⟩:=CF hh h.2 hp
   exact⟨p,cv::v',h1,fun hpp=>⟨hr,h2 hpp⟩⟩
  cases x with
  |v x=>exact simple (.v x) (fun _=>rfl) h.1
  |q b=>exact simple (.q b) (fun _=>rfl) h.1
  |vz ek r=>exact simple (.vz ek r) (fun _=>rfl) (CV.acF (x:=.vz ek r) (fun _ _=>nT hh.typed) h.1)
  |vw ek r=>
   refine simple (.vz ek r) (fun _=>rfl) ?_
   rcases h.1 with hr |⟨b,o,cap,cs,e,fr,h1,h2,h3,h4⟩
   ·exact .inl hr
   ·exact .inr ⟨b,o,cap,cs,h1,h2,nT hh.typed (.inl ⟨e,fr,h3⟩),h4⟩
  |xs j sz o n=>
   simp only [uq] at hp ⊢
   cases hmi:ix ids j with
   |true=>rw [hmi] at hp;exact hp.elim
   |false=>
    have hni:j∉ids:=fun h=>by rw [fx.2 h] at hmi;cases hmi
    rw [hmi] at hp
    simp only [cond_false] at hp ⊢
    simp only [sN,Q.run] at hp ⊢
    cases hb:τ (.b j) with
    |none=>rw [hb] at hp;exact hp.elim
    |some av=>
     rw [hb] at hp
     simp only at hp ⊢
     split at hp
     ·rename_i ek r
      cases hc:Nat.beq ek.length sz with
      |false=>rw [hc] at hp;exact hp.elim
      |true=>
       rw [hc] at hp
       have dj:ek.length=sz:=by simpa using hc
       subst dj
       obtain⟨cs,te,mj,_,z,IX,_⟩:=hh.boxes j _ hb (by intro e;cases e)
       obtain⟨p,v',h1,h2⟩:=CF hh h.2 hp
       refine⟨(o=0∧n=r.length)∧p,.vz ek r::v',h1,fun hle=>⟨?_,h2 hle.2⟩⟩
       obtain⟨rfl,rfl⟩:=hle.1
       rcases h.1 with ⟨y0,p,rfl⟩ |⟨cap,n,rfl,hmc,_⟩
       ·exact .inl ⟨ZD4.1 y0,p,0,rfl⟩
       ·exact .inr ⟨β j,0*ek.length,cap,cs,rfl,hmc,HZ hh hni hb mj,by have:=AW IX 0 r.length;simpa using this⟩
     ·exact hp.elim
  |_=>exact hp.elim
theorem adz {pt:Bool}(hh:Holds N c T β τ a w) (uC:∀i∈ids,live τ i) {ap:AP}{v:AV}{y:Value}(hr:v.rel T β y) {k:Prop→AV→Q Rs}(hp:((afJ pt ids ap v k).run τ).pre):
  ∃p v',(afJ pt ids ap v k).run τ=(k p v').run τ∧(p→(∀i∈v'.boxes,i∈ids)→v'.rel (dT T β τ w ids) β y):=by
 unfold afJ at hp ⊢
 split at hp
 ·exact⟨True,_,rfl,fun _ _=>hr⟩
 ·rename_i m
  obtain⟨b,cs,h1,h2,h3⟩:=hr
  exact⟨True,_,rfl,fun _ _=>⟨b,cs,h1,nT hh.typed h2,E4 (fun _ _=>nT hh.typed) h3⟩⟩
 ·rename_i i
  cases hmi:ix ids i with
  |true=>rw [hmi] at hp;exact hp.elim
  |false=>
   have hni:i∉ids:=fun h=>by rw [fx.2 h] at hmi;cases hmi
   rw [hmi] at hp
   simp only [cond_false] at hp ⊢
   simp only [sN,Q.run] at hp ⊢
   cases hb:τ (.b i) with
   |none=>rw [hb] at hp;exact hp.elim
   |some av=>
    rw [hb] at hp
    simp only at hp ⊢
    split at hp
    ·rename_i l
     obtain⟨cs,te,mj,c6⟩:=hh.boxes i _ hb (by intro e;cases e)
     obtain⟨p,v',h1,h2⟩:=CF hh (pt:=pt) (v:=l) (y:=cs.toList) c6 hp
     exact⟨p,_,h1,fun hpp _=>⟨β i,cs,hr,afI hh hni hb mj,h2 hpp⟩⟩
    ·exact hp.elim
 ·obtain⟨p,x',h1,h2⟩:=CE hh uC hr hp
  exact⟨p,.s x',h1,h2⟩
 ·obtain⟨cs,e,hl⟩:=hr
  obtain⟨p,l',h1,h2⟩:=LX hh uC hl hp
  exact⟨p,.a l',h1,fun hpp hb=>⟨cs,e,h2 hpp hb⟩⟩
 ·obtain⟨p,x',h1,h2⟩:=CE hh uC hr hp
  exact⟨p,.s x',h1,h2⟩
 ·exact hp.elim
theorem LY {pt:Bool}(hh:Holds N c T β τ a w) (uC:∀i∈ids,live τ i):∀{ps:List AP}{v:List AV}{y:List Value},r5 T β v y→∀{k:Prop→List AV→Q Rs},((H2 pt ids ps v k).run τ).pre→
  ∃p v',(H2 pt ids ps v k).run τ=(k p v').run τ∧(p→(∀i∈gf v',i∈ids)→r5 (dT T β τ w ids) β v' y)
 |[],[],[],_,k,hp=>⟨True,[],rfl,fun _ _=>trivial⟩
 |[],[],_::_,h,_,_=>h.elim
 |_::_,[],_,_,_,hp=>by simp only [H2] at hp;exact hp.elim
 |[],_::_,_,_,_,hp=>by simp only [H2] at hp;exact hp.elim
 |_::_,_::_,[],h,_,_=>h.elim
 |p0::ps,x::l,y::ys,h,k,hp=>by
  simp only [H2] at hp ⊢
  obtain⟨p,x',h1,h2⟩:=adz hh uC h.1 hp
  rw [h1] at hp ⊢
  obtain⟨q,l',g1,g2⟩:=LY hh uC h.2 hp
  refine⟨p∧q,x'::l',g1,fun hpq hb=>?_⟩
  simp only [gf,ZB4] at hb
  exact⟨h2 hpq.1 fun i hi=>hb i (.inl hi),g2 hpq.2 fun i hi=>hb i (.inr hi)⟩
theorem FH (hh:Holds N c T β τ a w):∀{l:List Operand}{vs:List AV},evA τ l=some vs→r5 T β vs (l.map a.eval)∧∀i∈gf vs,τ (.b i)≠none
 |[],vs,h=>by cases h;exact⟨trivial,by simp [gf]⟩
 |x::l,vs,h=>by
  simp only [evA] at h
  split at h
  ·rename_i v hv
   split at h
   ·rename_i vs' IS
    cases h
    obtain⟨g1,g2⟩:=FH hh IS
    refine⟨⟨eO hh hv,g1⟩,fun i hi=>?_⟩
    simp only [gf,ZB4] at hi
    rcases hi with hi |hi
    ·exact gX hh hv i hi
    ·exact g2 i hi
   ·cases h
  ·cases h
theorem DF:∀{l:List Nat}{k:List AV→Q Rs},((J8 l k).run τ).pre→∃bs,(J8 l k).run τ=(k bs).run τ∧bs.length=l.length∧∀(j i:Nat) (av:AV),l[j]?=some i→bs[j]?=some av→τ (.b i)=some av
 |[],k,_=>⟨[],rfl,rfl,by simp⟩
 |i::l,k,hp=>by
  simp only [J8,sN,Q.run] at hp ⊢
  cases hb:τ (.b i) with
  |none=>rw [hb] at hp;exact hp.elim
  |some av=>
   rw [hb] at hp
   obtain⟨bs,h1,h2,h3⟩:=DF (l:=l) hp
   refine⟨av::bs,h1,by simp [h2],fun j i' av' hj hv=>?_⟩
   cases j with
   |zero=>simp at hj hv;subst hj;subst hv;exact hb
   |succ j=>exact h3 j i' av' (by simpa using hj) (by simpa using hv)
theorem EH {base:Nat}{q:Q Rs}:∀{n:Nat},((AE base n q).run τ).pre→(AE base n q).run τ=q.run τ∧∀j,j<n→τ (.b (base+j))=none
 |0,_=>⟨rfl,fun j hj=>by omega⟩
 |n+1,hp=>by
  simp only [AE,Q.run] at hp ⊢
  cases hb:τ (.b (base+n)) with
  |some _=>rw [hb] at hp;exact hp.elim
  |none=>
   rw [hb] at hp
   obtain⟨h1,h2⟩:=EH (n:=n) hp
   refine⟨h1,fun j hj=>?_⟩
   by_cases e:j=n
   ·subst e;exact hb
   ·exact h2 j (by omega)
theorem HV:∀{l:List AV},HW l=true→∀x∈l,x≠.zz∧((∃m,x= .o (.a m))∨∃ek m,x= .rs ek m)
 |[],_,x,h=>by cases h
 |y::l,h,x,hx=>by
  unfold HW at h
  split at h
  ·rename_i heq;cases heq
  ·rename_i m l' heq
   cases heq
   rcases ZB8.1 hx with rfl |hx
   ·exact⟨(by intro e;cases e),.inl ⟨m,rfl⟩⟩
   ·exact HV h x hx
  ·rename_i ek m l' heq
   cases heq
   rcases ZB8.1 hx with rfl |hx
   ·exact⟨(by intro e;cases e),.inr ⟨ek,m,rfl⟩⟩
   ·exact HV h x hx
  ·cases h
theorem E3 {g:Nat→Nat}:∀{l:List AV}{i:Nat},(BH g l)[i]?=(l[i]?).map (AV.lr g)
 |[],i=>by simp [BH]
 |x::l,0=>by simp [BH]
 |x::l,i+1=>by simpa [BH] using E3 (l:=l) (i:=i)
theorem DD:∀{l:List AV}{i k:Nat}{x:AV},l[i]?=some x→k∈x.boxes→k∈gf l
 |[],_,_,_,h,_=>by simp at h
 |y::l,0,k,x,h,hk=>by simp at h;subst h;simp [gf,hk]
 |y::l,i+1,k,x,h,hk=>by
  have:=DD (l:=l) (i:=i) (by simpa using h) hk
  simp [gf,this]
end
end
end GL
namespace GL
def plain:BK→Prop
 |.ty _ _=>True
 |.ro _ _ _=>True
 |.bx _=>True
 |_=>False
section
variable {T T':bb}{β:Nat→Nat}
theorem SV.pL (h:∀b k,T b=some k→plain k→T' b=some k) {x:SV}(hf:x.n0=true) {v:Value}(hr:x.rel T β v):x.rel T' β v:=by
 cases x with
 |v x=>exact hr
 |q b=>exact hr
 |bp i o=>exact hr
 |xp i sz k j=>exact hr
 |xs i sz o m=>
  rcases hr with hr |⟨cap,n,h1,h2,h3,h4⟩
  ·exact .inl hr
  ·exact .inr ⟨cap,n,h1,h2,h _ _ h3 trivial,h4⟩
 |ep ek j=>obtain⟨b,o,n,h1,h2,h3⟩:=hr;exact⟨b,o,n,h1,h _ _ h2 trivial,h3⟩
 |sl ek len=>
  rcases hr with hr |⟨b,o,cap,n,h1,h2,h3,h4⟩
  ·exact .inl hr
  ·exact .inr ⟨b,o,cap,n,h1,h2,h _ _ h3 trivial,h4⟩
 |vw ek l=>
  rcases hr with hr |⟨b,o,cap,cs,e,fr,h1,h2,h3,h4⟩
  ·exact .inl hr
  ·exact .inr ⟨b,o,cap,cs,e,fr,h1,h2,h _ _ h3 trivial,h4⟩
 |vz ek l=>cases hf
 |vp ek x j=>cases hf
 |vs l j=>cases hf
 |er b=>exact hr
 |e0=>exact hr
theorem BJ (h:∀b k,T b=some k→plain k→T' b=some k):∀{l:List SV}{cs:List Value},zQ l=true→dM T β l cs→dM T' β l cs
 |[],[],_,_=>trivial
 |_::_,[],_,h'=>h'.elim
 |[],_::_,_,h'=>h'.elim
 |_::_,_::_,hf,h'=>by
  simp only [zQ,ZA9] at hf
  exact⟨SV.pL h hf.1 h'.1,BJ h hf.2 h'.2⟩
theorem A0.pL (h:∀b k,T b=some k→plain k→T' b=some k) {x:A0}(hf:x.n0=true) {v:Value}(hr:x.rel T β v):x.rel T' β v:=by
 cases x with
 |s x=>exact SV.pL h hf hr
 |a l=>obtain⟨cs,e,hl⟩:=hr;exact⟨cs,e,BJ h hf hl⟩
theorem LC (h:∀b k,T b=some k→plain k→T' b=some k):∀{l:List A0}{cs:List Value},ux l=true→uz T β l cs→uz T' β l cs
 |[],[],_,_=>trivial
 |_::_,[],_,h'=>h'.elim
 |[],_::_,_,h'=>h'.elim
 |_::_,_::_,hf,h'=>by
  simp only [ux,ZA9] at hf
  exact⟨A0.pL h hf.1 h'.1,LC h hf.2 h'.2⟩
theorem AV.pL (h:∀b k,T b=some k→plain k→T' b=some k) {x:AV}(hf:x.n0=true) {v:Value}(hr:x.rel T β v):x.rel T' β v:=by
 cases x with
 |o x=>exact A0.pL h hf hr
 |t l=>obtain⟨cs,e,hl⟩:=hr;exact⟨cs,e,LC h hf hl⟩
 |rs ek l=>exact hr
 |zz=>exact hr
 |fn f l=>exact hr
theorem AV.aeW (h:∀b k,T b=some k→plain k→T' b=some k) {x:AV}(hf:x.n0=true) {cs:Array Value}(hr:x.rQ T β cs):x.rQ T' β cs:=by
 cases x with
 |o x=>
  cases x with
  |s x=>exact hr
  |a l=>exact BJ h hf hr
 |_=>exact hr
end
section
variable {N:Nat}{c:Ctx}{T:bb}{β:Nat→Nat}{τ:St}{a:Act}{w w':World}{ids:List Nat}
theorem vo (h:WT T w) {b:Nat}{k:BK}(hk:T b=some k):dT T β τ w ids b=some k∨∃cs e fr,dT T β τ w ids b=some (.ln cs e fr):=by
 unfold dT
 rw [hk]
 cases k with
 |fz ek n cs=>
  obtain⟨_,e,fr,l,h2,_⟩:=h b _ hk
  exact .inr ⟨cs,e,fr,by simp only [h2]⟩
 |bx n=>
  obtain⟨cs,e,h2,_⟩:=h b _ hk
  simp only
  by_cases hx:∃i,aiZ τ i∧i∉ids∧β i=b
  ·rw [if_pos hx,h2];exact .inr ⟨cs,e,(0,0),rfl⟩
  ·rw [if_neg hx];exact .inl rfl
 |_=>exact .inl rfl
theorem WW {b:Nat}{k:BK}(hk:dT T β τ w ids b=some k) (hp:plain k):T b=some k:=by
 unfold dT at hk
 split at hk
 ·split at hk
  ·cases hk;exact hp.elim
  ·cases hk
 ·rename_i n hT
  split at hk
  ·split at hk
   ·cases hk;exact hp.elim
   ·cases hk
  ·rw [hT];exact hk
 ·exact hk
theorem WU {b:Nat}(hk:T b=none):dT T β τ w ids b=none:=by
 unfold dT
 rw [hk]
def AB (T T':bb) (n:Nat):bb:=fun b=>if b<n then T b else T' b
def backβ (β β':Nat→Nat) (base nf k:Nat):Nat→Nat:=fun i=>if base≤i∧i<base+nf then β' (k+(i-base)) else β i
structure YA (τ τ':St) (ids:List Nat) (base nf:Nat) (os:List AV):Prop where
 set:∀j i,(ids++cD base nf)[j]?=some i→τ' (.b i)=some ((atA os j).lr (oK ids base))
 old:∀r,(∀i∈ids++cD base nf,r≠.b i)→τ' r=τ r
theorem Holds.call (hh:Holds N c T β τ a w) {base nf:Nat}{mv:Bool}{os:List AV}{T':bb}{β2 β':Nat→Nat}{τ':St}(agN:1000≤base) (hmv:mv=true→1000000000≤base)
  (sx:∀i∈ids,live τ i) (h2:∀j i,ids[j]?=some i→β2 j=β i) (uw:∀j,j<nf→τ (.b (base+j))=none) (hos:os.length=ids.length+nf)
  (hA:aau w (dT T β τ w ids) β2 ids.length T' w') (hB:KI w ids.length mv β2 T' β' w' os) (hτ:YA τ τ' ids base nf os):
  Holds N c (AB T T' w.heap.size) (backβ β β' base nf ids.length) τ' a w'∧(∀b k,T' b=some k→plain k→AB T T' w.heap.size b=some k)∧∀n,n<os.length→backβ β β' base nf ids.length (oK ids base n)=β' n∧τ' (.b (oK ids base n))≠none:=by
 have IW:∀b k,T' b=some k→plain k→AB T T' w.heap.size b=some k:=by
  intro b k hb hp
  unfold AB
  by_cases bU:b<w.heap.size
  ·rw [if_pos bU]
   rw [hA.new b bU] at hb
   exact WW hb hp
  ·rw [if_neg bU];exact hb
 have zN:uO T (AB T T' w.heap.size):=fun b k hb=>by
  unfold AB
  rw [if_pos (BK.lt (hh.typed b k hb))];exact hb
 have ka:∀i,τ (.b i)≠none→¬(base≤i∧i<base+nf):=fun i hi h=>by
  have:=uw (i-base) (by omega)
  rw [show base+(i-base)=i by omega] at this
  exact hi this
 have hβo:∀i,τ (.b i)≠none→backβ β β' base nf ids.length i=β i:=fun i hi=>by unfold backβ;rw [if_neg (ka i hi)]
 have hβj:∀j i,(ids++cD base nf)[j]?=some i→backβ β β' base nf ids.length i=β' j:=by
  intro j i hj
  by_cases bU:j<ids.length
  ·rw [ZC2 bU] at hj
   have hi:=ZB6 hj
   rw [hβo i (kA (sx i hi)),hB.same j bU,h2 j i hj]
  ·rw [ZC6 (by omega)] at hj
   have hr:j-ids.length<nf:=by
    have:=(ZB9.1 hj).1
    rwa [kF] at this
   rw [jL _ _ _ hr] at hj
   cases hj
   unfold backβ
   rw [if_pos (by omega)]
   congr 1;omega
 have agO:∀n,n<os.length→(ids++cD base nf)[n]?=some (oK ids base n):=by
  intro n hn
  unfold oK
  by_cases bU:n<ids.length
  ·rw [ZC2 bU,ZB1 bU]
  ·rw [ZC6 (by omega),jL _ _ _ (by omega),ZD8 (by omega)]
 have MI:∀n,n<os.length→backβ β β' base nf ids.length (oK ids base n)=β' n∧τ' (.b (oK ids base n))≠none:=fun n hn=>by
  refine⟨hβj n _ (agO n hn),?_⟩
  rw [hτ.set n _ (agO n hn)]
  simp
 have afZ:∀i,τ (.b i)≠none→τ' (.b i)≠none:=by
  intro i hi
  by_cases hm:i∈ids++cD base nf
  ·obtain⟨j,hj⟩:=ZF3 hm
   rw [hτ.set j i hj];simp
  ·rw [hτ.old (.b i) (fun k hk e=>hm (by cases e;exact hk))];exact hi
 have ai5:∀i,live τ i→i∉ids→w'.heap[β i]?=w.heap[β i]?:=by
  intro i hi hni
  obtain⟨⟨n,hn⟩,_⟩:=hh.apart i hi
  have bU:=hh.lt hi
  rcases vo (β:=β) (τ:=τ) (ids:=ids) hh.typed hn with h |⟨cs,e,fr,h⟩
  ·refine hA.frame _ bU (fun j hj he=>?_) (by rw [h];trivial)
   have hjl:ids[j]?=some ids[j]:=ZB1 hj
   rw [h2 j _ hjl] at he
   exact hni (hh.inj i _ hi (sx _ (ZB6 hjl)) he ▸ ZB6 hjl)
  ·have g1:w.heap[β i]?=some (.cells cs e fr):=zy hh.typed _ _ h
   have g2:w'.heap[β i]?=some (.cells cs e fr):=hA.typed (β i) (.ln cs e fr) (by rw [hA.new _ bU];exact h)
   rw [g1,g2]
 have TF:∀i,live τ' i→(i∉ids∧¬(base≤i∧i<base+nf)∧live τ i)∨∃(j:Nat) (av:AV),(ids++cD base nf)[j]?=some i∧os[j]?=some av∧av≠.zz:=by
  intro i hi
  by_cases hm:i∈ids++cD base nf
  ·right
   obtain⟨j,hj⟩:=ZF3 hm
   have hs:=hτ.set j i hj
   unfold atA at hs
   cases ho:os[j]? with
   |none=>
    rw [ho] at hs
    unfold live at hi
    rw [hs] at hi
    exact hi.elim
   |some av=>
    rw [ho] at hs
    refine⟨j,av,hj,ho,fun e=>?_⟩
    subst e
    unfold live at hi
    rw [hs] at hi
    exact hi.elim
  ·left
   have ho:=hτ.old (.b i) (fun k hk e=>hm (by cases e;exact hk))
   refine⟨fun h=>hm (List.mem_append_left _ h),fun h=>hm (List.mem_append_right _ (fX.2 h)),?_⟩
   unfold live at hi ⊢
   rwa [ho] at hi
 have hβlive:∀i,live τ i→backβ β β' base nf ids.length i=β i:=fun i hi=>hβo i (kA hi)
 refine⟨{
  defs:=hh.defs
  size:=hh.size
  D7:=hh.D7
  iH:=fun i av hi=>by
   rw [hτ.old (.s i) (fun k _ e=>by cases e)] at hi
   obtain⟨v,hv,hr⟩:=hh.iH i av hi
   exact⟨v,hv,AV.nF zN (AV.acG (fun k hk=>hβo k (hh.named (.s i) av hi k hk)) hr)⟩
  boxes:=fun i av hi hz=>by
   by_cases hm:i∈ids++cD base nf
   ·obtain⟨j,hj⟩:=ZF3 hm
    rw [hτ.set j i hj] at hi
    cases hi
    unfold atA at hz ⊢
    cases ho:os[j]? with
    |none=>rw [ho] at hz;exact absurd rfl hz
    |some x=>
     rw [ho] at hz
     simp only at hz ⊢
     obtain⟨_,_,⟨cs,e,g1,g2⟩,g3,g4⟩:=hB.at_ j x ho (E2 hz)
     refine⟨cs,e,by rw [hβj j i hj];exact g1,?_⟩
     exact AV.FN (fun n hn=>(MI n (g3 n hn)).1) (AV.aeW IW g4 g2)
   ·have ho:=hτ.old (.b i) (fun k hk e=>hm (by cases e;exact hk))
    rw [ho] at hi
    have hl:=eC hi hz
    obtain⟨cs,e,g1,g2⟩:=hh.boxes i av hi hz
    refine⟨cs,e,?_,AV.JM zN (AV.XW (fun k hk=>hβo k (hh.named (.b i) av hi k hk)) g2)⟩
    rw [hβlive i hl,ai5 i hl (fun h=>hm (List.mem_append_left _ h))]
    exact g1
  apart:=fun i hi=>by
   rcases TF i hi with ⟨_,_,hl⟩ |⟨j,av,hj,ho,hz⟩
   ·rw [hβlive i hl]
    obtain⟨⟨n,hn⟩,g⟩:=hh.apart i hl
    exact⟨⟨n,zN _ _ hn⟩,g⟩
   ·rw [hβj j i hj]
    obtain⟨⟨n,hn⟩,vA,_⟩:=hB.at_ j av ho hz
    refine⟨⟨n,IW _ _ hn aa⟩,?_⟩
    by_cases bU:j<ids.length
    ·rw [ZC2 bU] at hj
     have hl:=sx i (ZB6 hj)
     have e:β' j=β i:=by rw [hB.same j bU,h2 j i hj]
     rw [e]
     exact (hh.apart i hl).2
    ·rw [ZC6 (by omega)] at hj
     have hr:=fX.1 (ZB6 hj)
     refine⟨fun h=>by omega,fun _ h3=>?_,?_⟩
     ·rcases vA (by omega) with h4 |⟨h4,_⟩
      ·exact ZB0 hh.gb h4
      ·have:=hmv h4;omega
     ·rcases vA (by omega) with h4 |⟨_,j',h4,h5⟩
      ·exact .inl (ZB0 hh.gb h4)
      ·rw [h5,h2 j' _ (ZB1 h4)]
       exact (hh.apart _ (sx _ (List.getElem_mem h4))).2.2.2
  handed:=fun i b hb hi=>by
   have bU:i<c.H.length:=(ZB9.1 hb).1
   have ak4:=hh.D7
   have hl:live τ i:=by
    rcases TF i hi with ⟨_,_,hl⟩ |⟨j,av,hj,_,_⟩
    ·exact hl
    ·rcases ZB4.1 (ZB6 hj) with h |h
     ·exact sx i h
     ·have:=fX.1 h;omega
   rw [hβlive i hl]
   exact hh.handed i b hb hl
  inj:=fun i i' hi CS e=>by
   have ac6:∀k,live τ k→β k<w.heap.size:=fun k hk=>hh.lt hk
   rcases TF i hi with ⟨n1,_,hl⟩ |⟨j,av,hj,ho,hz⟩
   ·rcases TF i' CS with ⟨_,_,hl'⟩ |⟨j',av',CR,ho',hz'⟩
    ·rw [hβlive i hl,hβlive i' hl'] at e
     exact hh.inj i i' hl hl' e
    ·rw [hβlive i hl,hβj j' i' CR] at e
     by_cases bU:j'<ids.length
     ·rw [ZC2 bU] at CR
      rw [hB.same j' bU,h2 j' i' CR] at e
      exact hh.inj i i' hl (sx i' (ZB6 CR)) e
     ·rcases (hB.at_ j' av' ho' hz').2.1 (by omega) with h4 |⟨_,j2,h4,h5⟩
      ·have:=ac6 i hl
       omega
      ·rw [h5,h2 j2 _ (ZB1 h4)] at e
       exact absurd (hh.inj i _ hl (sx _ (List.getElem_mem h4)) e ▸ List.getElem_mem h4) n1
   ·rcases TF i' CS with ⟨n1,_,hl'⟩ |⟨j',av',CR,ho',hz'⟩
    ·rw [hβj j i hj,hβlive i' hl'] at e
     by_cases bU:j<ids.length
     ·rw [ZC2 bU] at hj
      rw [hB.same j bU,h2 j i hj] at e
      exact hh.inj i i' (sx i (ZB6 hj)) hl' e
     ·rcases (hB.at_ j av ho hz).2.1 (by omega) with h4 |⟨_,j2,h4,h5⟩
      ·have:=ac6 i' hl'
       omega
      ·rw [h5,h2 j2 _ (ZB1 h4)] at e
       exact absurd (hh.inj i' _ hl' (sx _ (List.getElem_mem h4)) e.symm ▸ List.getElem_mem h4) n1
    ·rw [hβj j i hj,hβj j' i' CR] at e
     have:=hB.inj j j' av av' ho hz ho' hz' e
     subst this
     rw [hj] at CR
     cases CR
     rfl
  named:=fun r av hr i hi=>by
   cases r with
   |s n=>
    rw [hτ.old (.s n) (fun k _ e=>by cases e)] at hr
    exact afZ i (hh.named (.s n) av hr i hi)
   |b n=>
    by_cases hm:n∈ids++cD base nf
    ·obtain⟨j,hj⟩:=ZF3 hm
     rw [hτ.set j n hj] at hr
     cases hr
     obtain⟨m,hm',rfl⟩:=AV.gj hi
     unfold atA at hm'
     cases ho:os[j]? with
     |none=>rw [ho] at hm';simp [AV.boxes] at hm'
     |some x=>
      rw [ho] at hm'
      have hz:x≠.zz:=fun e=>by subst e;simp [AV.boxes] at hm'
      exact (MI m ((hB.at_ j x ho hz).2.2.2.1 m hm')).2
    ·rw [hτ.old (.b n) (fun k hk e=>hm (by cases e;exact hk))] at hr
     exact afZ i (hh.named (.b n) av hr i hi)
  typed:=fun b k hb=>by
   unfold AB at hb
   by_cases bU:b<w.heap.size
   ·rw [if_pos bU] at hb
    rcases vo (β:=β) (τ:=τ) (ids:=ids) hh.typed hb with h |⟨cs,e,fr,h⟩
    ·exact hA.typed b k (by rw [hA.new b bU];exact h)
    ·have g1:w.heap[b]?=some (.cells cs e fr):=zy hh.typed _ _ h
     have g2:w'.heap[b]?=some (.cells cs e fr):=hA.typed b (.ln cs e fr) (by rw [hA.new _ bU];exact h)
     exact BK.qi (hh.typed b k hb) (by rw [g1,g2])
   ·rw [if_neg bU] at hb
    exact hA.typed b k hb
  old:=fun b hb=>by
   unfold AB
   rw [if_pos (ZG1 hb hh.gb)]
   exact hh.old b hb
  frame:=fun b hb hH hq=>by
   have bU:b<w.heap.size:=ZG1 hb hh.gb
   rw [←hh.frame b hb hH hq]
   have ho:=hh.old b hb
   cases hT:T b with
   |none=>
    refine hA.frame b bU (fun j hj e=>?_) (by rw [WU hT];trivial)
    have hjl:ids[j]?=some ids[j]:=ZB1 hj
    rw [h2 j _ hjl] at e
    obtain⟨n,hn⟩:=(hh.apart _ (sx _ (ZB6 hjl))).1
    rw [←e,hT] at hn
    cases hn
   |some k=>
    rw [hT] at ho
    rcases vo (β:=β) (τ:=τ) (ids:=ids) hh.typed hT with h |⟨cs,e,fr,h⟩
    ·refine hA.frame b bU (fun j hj e=>?_) ?_
     ·have hjl:ids[j]?=some ids[j]:=ZB1 hj
      rw [h2 j _ hjl] at e
      have hl:=sx _ (ZB6 hjl)
      rcases (hh.apart _ hl).2.2.2 with g1 |g1
      ·omega
      ·exact hH (e ▸ g1)
     ·rw [h]
      rw [←ho] at hq
      cases k<;>first|trivial|exact hq
    ·have g1:w.heap[b]?=some (.cells cs e fr):=zy hh.typed _ _ h
     have g2:w'.heap[b]?=some (.cells cs e fr):=hA.typed b (.ln cs e fr) (by rw [hA.new _ bU];exact h)
     rw [g1,g2]
  gb:=ZB0 hh.gb hA.gb
  os:=hA.os.trans hh.os
  tape:=hA.tape.trans hh.tape
  output:=hA.output.trans hh.output
  oR:=hh.oR.mono zN },IW,MI⟩
end
end GL
end Go.Proofs.YtclcgjhhehbdeaaGreatDoor
