/- FnTreeOk returns true for every code (its row lists package variables, tied by the card): part 9. -/
import Derived.Test.YtbfgjadbfjkcdaaGreatDoorPah
set_option maxHeartbeats 20000000
set_option linter.all false
namespace Go.Proofs.YtbfgjadbfjkcdaaGreatDoor
namespace GL
section
variable {P:Program}{N:Nat}{τ:St}
variable {d:Nat}{x y z:Operand}{t u ty:TypeId}{pos:String}{af:Array Edge}{g:Option (Nat×Bool)}
def Enters (P : Program) (f : FuncId) : Prop := ∃ fn, P.funcs[f]? = some fn ∧ fn.body.isSome = true ∧ fn.name ≠ "runtime.NumGoroutine"
theorem aa1 {f:FuncId}(h:Enters P f) {args:Array Operand}{tys:Array TypeId}{ρ:Operand→Value}(hρ:ρ (.func f)= .func (.func f) #[] #[]) {w:World}{dst:Option Nat}:
  (execOp ρ ⟨dst,.call ⟨.value (.func f),args,tys⟩,ty,pos,af,g⟩).run P w= .ok (.enter f (args.map ρ)) w:=by
 obtain⟨fn,h1,h2,h3⟩:=h
 obtain⟨cd,hcd⟩:=Option.isSome_iff_exists.1 h2
 simp [execOp,resolve,hρ,Deferred.ofValue,invoke,callFunc,h1,hcd,h3]
def YU:List Operand→(List AV→Q Rs)→Q Rs
 |[],k=>k []
 |x::l,k=>cb x fun v=>YU l fun vs=>k (v::vs)
def evA (τ:St):List Operand→Option (List AV)
 |[]=>some []
 |x::l=>match ev τ x with
  |some v=>match evA τ l with
   |some vs=>some (v::vs)
   |none=>none
  |none=>none
theorem AS (τ:St):∀(l:List Operand) (k:List AV→Q Rs),(YU l k).run τ=match evA τ l with
  |some v=>(k v).run τ
  |none=>.no
 |[],k=>rfl
 |x::l,k=>by
  simp only [YU,da,evA]
  cases ev τ x with
  |none=>rfl
  |some v=>
   simp only [AS τ l]
   cases evA τ l<;>rfl
def ad6:SP→Bool
 |.xb _ _=>true
 |_=>false
def ag7 (p:SP) (v:SV):List Nat:=
 match v with
 |.xs i _ _ _=>bif ad6 p then [i] else []
 |x=>x.boxes
def ag8:List SP→List SV→List Nat
 |p::ps,x::l=>ag7 p x++ag8 ps l
 |_,_=>[]
def kept (p:AP) (v:AV):List Nat:=
 match p,v with
 |.s p,.o (.s x)=>ag7 p x
 |.a l,.o (.a m)=>ag8 l m
 |.b _,.o (.s x)=>x.boxes
 |.fn _ _,.fn _ l=>jJ l
 |_,_=>[]
def Z9:List AP→List AV→List Nat
 |p::ps,x::l=>kept p x++Z9 ps l
 |_,_=>[]
def MD (pt kp:Bool) (ids:List Nat) (v:SV) (k:Prop→SV→Q Rs):Q Rs:=
 match v with
 |.xs i sz o m=>match kp with
  |true=>k True (.xs i sz o m)
  |false=>bif iz ids i then .ret .no else sW i fun
   |.rs ek l=>bif Nat.beq ek.length sz then (match pt with
    |true=>k (o+m≤l.length) (.vz ek ((l.drop o).take m))
    |false=>k (o=0∧m=l.length) (.vz ek l)) else .ret .no
   |_=>.ret .no
 |x=>k True x
def IH (pt:Bool) (ids:List Nat):List SP→List SV→(Prop→List SV→Q Rs)→Q Rs
 |[],[],k=>k True []
 |p::ps,x::l,k=>MD pt (ad6 p) ids x fun p y=>IH pt ids ps l fun q m=>k (p∧q) (y::m)
 |_,_,_=>.ret .no
def uB (pt:Bool) (ids:List Nat):List SV→(Prop→List CV→Q Rs)→Q Rs
 |[],k=>k True []
 |.v x::l,k=>uB pt ids l fun q m=>k q (.v x::m)
 |.q b::l,k=>uB pt ids l fun q m=>k q (.q b::m)
 |.vz ek r::l,k=>uB pt ids l fun q m=>k q (.vz ek r::m)
 |.vw ek r::l,k=>uB pt ids l fun q m=>k q (.vz ek r::m)
 |.xs j sz o n::l,k=>bif iz ids j then .ret .no else sW j fun
  |.rs ek r=>bif Nat.beq ek.length sz then uB pt ids l fun q m=>k ((o=0∧n=r.length)∧q) (.vz ek r::m) else .ret .no
  |_=>.ret .no
 |_::_,_=>.ret .no
def af9 (pt:Bool) (ids:List Nat) (ap:AP) (v:AV) (k:Prop→AV→Q Rs):Q Rs:=
 match ap,v with
 |.fn _ _,.fn f l=>k True (.fn f l)
 |.vs _,.o (.s (.vs m 0))=>k True (.s (.vs m 0))
 |.vs _,.o (.s (.bp i 0))=>bif iz ids i then .ret .no else sW i fun
  |.o (.a l)=>uB pt ids l fun p m=>k p (.s (.vs m 0))
  |_=>.ret .no
 |.s p,.o (.s x)=>MD pt (ad6 p) ids x fun p y=>k p (.s y)
 |.a l,.o (.a m)=>IH pt ids l m fun p m=>k p (.a m)
 |.b _,.o (.s x)=>MD pt true ids x fun p y=>k p (.s y)
 |_,_=>.ret .no
def II (pt:Bool) (ids:List Nat):List AP→List AV→(Prop→List AV→Q Rs)→Q Rs
 |[],[],k=>k True []
 |p::ps,x::l,k=>af9 pt ids p x fun p y=>II pt ids ps l fun q m=>k (p∧q) (y::m)
 |_,_,_=>.ret .no
def gi:List AV→List Nat
 |[]=>[]
 |x::l=>x.boxes++gi l
def KP:List Nat→(List AV→Q Rs)→Q Rs
 |[],k=>k []
 |i::l,k=>sW i fun v=>KP l fun vs=>k (v::vs)
def AR (base:Nat):Nat→Q Rs→Q Rs
 |0,k=>k
 |n+1,k=>.ask (.b (base+n)) fun
  |none=>AR base n k
  |some _=>.ret .no
def BS (g:Nat→Nat):List AV→List AV
 |[]=>[]
 |x::l=>x.lF g::BS g l
def oT (ids:List Nat) (base:Nat) (j:Nat):Nat:=match ids[j]? with
 |some i=>i
 |none=>base+(j-ids.length)
def atA (os:List AV) (j:Nat):AV:=match os[j]? with
 |some x=>x
 |none=>.zz
def GF {α:Type}(o:α→List AV) (g:Nat→Nat):Nat→List Nat→List (fK×(α→AV))
 |_,[]=>[]
 |j,i::l=>(.b i,fun z=>(atA (o z) j).lF g)::GF o g (j+1) l
def ID:List AV→Bool
 |[]=>true
 |.o (.a _)::l=>ID l
 |.rs _ _::l=>ID l
 |_::_=>false
def il (mv:Bool) (d:Nat):Nat:=bif mv then 1000000000+10000*(d+1) else 10000*(d+1)
def afx (c:Con) (d:Nat) (ids:List Nat) (x:APs.Ty c.A) (y:APs.Ty c.B):List (fK×(c.α x y→AV)):=
 match c.ro with
 |false=>GF (c.o x y) (oT ids (il c.mv d)) 0 (ids++cF (il c.mv d) c.nf)
 |true=>GF (c.o x y) (oT ids (il c.mv d)) ids.length (cF (il c.mv d) c.nf)
def NX (c:Con) (d:Nat) (ids:List Nat) (bs:List AV) (x:APs.Ty c.A) (y:APs.Ty c.B) (p:Prop):Prop:=
 match c.ro with
 |false=>p
 |true=>p∧∀z,c.φ x y z→BS (oT ids (il c.mv d)) ((c.o x y z).take ids.length)=bs
theorem afz {c:Con}{d:Nat}{ids:List Nat}{bs:List AV}{x:APs.Ty c.A}{y:APs.Ty c.B}{p:Prop}(h:NX c d ids bs x y p):p:=by
 unfold NX at h
 split at h
 ·exact h
 ·exact h.1
def aj8 (d:Nat) (c:Con) (p:Prop) (ids:List Nat) (bs:List AV) (x:APs.Ty c.A) (y:APs.Ty c.B):Rs:=
 .ex (NX c d ids bs x y (p∧c.pre x y)) (c.α x y) (c.φ x y) ((.s d,fun z=>(c.r x y z).lF (oT ids (il c.mv d)))::afx c d ids x y)
def afA (pt:Bool) (d:Nat) (c:Con) (gh:List AV) (ids:List Nat):Q Rs:=
 KP ids fun bs=>bif ID bs then II pt ids c.A gh fun p as=>
  match APs.parse c.A (BS (idxOf ids) as),APs.parse c.B (BS (idxOf ids) bs) with
  |some x,some y=>bif ((gi as).all (iz ids)&&(gi bs).all (iz ids))&&(nodupB ids&&Nat.ble ids.length 1000) then AR (il c.mv d) c.nf (.ret (aj8 d c p ids bs x y)) else .ret .no
  |_,_=>.ret .no else .ret .no
def dd:List Nat→List Nat→List Nat
 |[],acc=>acc
 |i::l,acc=>bif iz acc i then dd l acc else dd l (i::acc)
def vO:List Nat→List Nat→(List Nat→Q Rs)→Q Rs
 |[],acc,k=>k acc
 |i::l,acc,k=>bif iz acc i then vO l acc k else vO l (i::acc) k
theorem C9:∀(l acc:List Nat) (k:List Nat→Q Rs),vO l acc k=k (dd l acc)
 |[],_,_=>rfl
 |i::l,acc,k=>by
  simp only [vO,dd]
  cases iz acc i with
  |true=>exact C9 l acc k
  |false=>exact C9 l (i::acc) k
def y7:List Nat→List Nat→(List Nat→Q Rs)→Q Rs
 |[],m,k=>k m
 |i::l,m,k=>y7 l (i::m) k
theorem M5:∀(l m:List Nat) (k:List Nat→Q Rs),y7 l m k=k (l.reverse++m)
 |[],_,_=>rfl
 |i::l,m,k=>by simp only [y7,List.reverse_cons,ZD2,List.singleton_append];exact M5 l (i::m) k
def afy (rZ:FuncId→Option Con) (pt:Bool) (d:Nat) (f:FuncId) (args:List Operand):Q Rs:=
 match rZ f with
 |none=>.ret .no
 |some c=>YU args fun gh=>vO (Z9 c.A gh) [] fun r0=>y7 r0 [] fun ah1=>KP ah1 fun bs0=>vO (gi bs0) r0 fun r1=>y7 r1 [] fun ids=>afA pt d c gh ids
def ajp (τ:St) (i:Nat):Prop:=(∃ek l,τ (.b i)=some (.rs ek l))∨∃l,τ (.b i)=some (.o (.a l))
noncomputable def dV (T:bc) (β:Nat→Nat) (τ:St) (w:World) (ids:List Nat):bc:=fun b=>
 match T b with
 |some (.fz _ _ _)=>(match w.heap[b]? with
  |some (.cells cs e fr)=>some (.ln cs e fr)
  |_=>none)
 |some (.bx n)=>open Classical in if∃i,ajp τ i∧i∉ids∧β i=b then (match w.heap[b]? with
  |some (.cells cs e fr)=>some (.ln cs e fr)
  |_=>none) else some (.bx n)
 |k=>k
section
variable {c:Ctx}{T:bc}{β:Nat→Nat}{a:Act}{w:World}{ids:List Nat}
theorem zP (h:WT T w):WT (dV T β τ w ids) w:=by
 intro b k hb
 unfold dV at hb
 split at hb
 ·split at hb
  ·rename_i cs e fr hc;cases hb;exact hc
  ·cases hb
 ·rename_i n hT
  split at hb
  ·split at hb
   ·rename_i cs e fr hc;cases hb;exact hc
   ·cases hb
  ·cases hb;exact h b _ hT
 ·exact h b k hb
theorem XH (hg:YZ T):U6 (dV T β τ w ids):=by
 refine⟨?_,fun g hm=>by obtain⟨cs,e,fr,h1,h2⟩:=hg g hm;exact⟨cs,e,fr,by unfold dV;rw [h1],h2⟩⟩
 intro b ek n cs hb
 unfold dV at hb
 split at hb
 ·split at hb<;>cases hb
 ·split at hb
  ·split at hb<;>cases hb
  ·cases hb
 ·rename_i h1 h2;exact h1 _ _ _ hb
theorem od (h:WT T w) {b:Nat}{cs:Array Value}(hr:rdT T b cs):rdT (dV T β τ w ids) b cs:=by
 rcases hr with ⟨e,fr,h1⟩ |⟨e,fr,h1⟩ |⟨ek,n,h1⟩
 ·exact .inl ⟨e,fr,by unfold dV;rw [h1]⟩
 ·exact .inr (.inl ⟨e,fr,by unfold dV;rw [h1]⟩)
 ·obtain⟨_,e,fr,l,h2,_⟩:=h b _ h1
  exact .inr (.inl ⟨e,fr,by unfold dV;rw [h1];simp only;rw [h2]⟩)
theorem IG (hh:Holds N c T β τ a w) {i:Nat}(hi:i∉ids) {ek:EK}{l:List (EK.Ty ek)}(hb:τ (.b i)=some (.rs ek l)) {cs:Array Value}{e:TypeId}{fr:Nat×Nat}(hc:w.heap[β i]?=some (.cells cs e fr)):rdT (dV T β τ w ids) (β i) cs:=by
 obtain⟨⟨n,hn⟩,_⟩:=hh.apart i (eF hb (by intro e;cases e))
 refine .inr (.inl ⟨e,fr,?_⟩)
 unfold dV
 rw [hn]
 simp only
 rw [if_pos ⟨i,.inl ⟨ek,l,hb⟩,hi,rfl⟩,hc]
theorem af8 (hh:Holds N c T β τ a w) {i:Nat}(hi:i∉ids) {l:List SV}(hb:τ (.b i)=some (.o (.a l))) {cs:Array Value}{e:TypeId}{fr:Nat×Nat}(hc:w.heap[β i]?=some (.cells cs e fr)):rdT (dV T β τ w ids) (β i) cs:=by
 obtain⟨⟨n,hn⟩,_⟩:=hh.apart i (eF hb (by intro e;cases e))
 refine .inr (.inl ⟨e,fr,?_⟩)
 unfold dV
 rw [hn]
 simp only
 rw [if_pos ⟨i,.inr ⟨l,hb⟩,hi,rfl⟩,hc]
theorem TK (hh:Holds N c T β τ a w) {i n:Nat}(hi:i∈ids) (hl:live τ i) (hn:T (β i)=some (.bx n)):dV T β τ w ids (β i)=some (.bx n):=by
 unfold dV
 rw [hn]
 simp only
 rw [if_neg]
 rintro⟨j,C2,hji,e⟩
 have hlj:live τ j:=by
  rcases C2 with ⟨ek,m,hj⟩ |⟨m,hj⟩
  ·exact eF hj (by intro e;cases e)
  ·exact eF hj (by intro e;cases e)
 have:=hh.inj j i hlj hl e
 subst this
 exact hji hi
theorem RP (h:WT T w) {x:SV}(hx:∀i sz o m,x≠.xs i sz o m) {v:Value}(hr:x.rel T β v):x.rel (dV T β τ w ids) β v:=by
 cases x with
 |v x=>exact hr
 |q b=>exact hr
 |bp i o=>exact hr
 |xp i sz k j=>exact hr
 |xs i sz o m=>exact absurd rfl (hx i sz o m)
 |ep ek j=>obtain⟨b,o,n,h1,h2,h3⟩:=hr;exact⟨b,o,n,h1,by unfold dV;rw [h2],h3⟩
 |sl ek len=>
  rcases hr with hr |⟨b,o,cap,n,h1,h2,h3,h4⟩
  ·exact .inl hr
  ·exact .inr ⟨b,o,cap,n,h1,h2,by unfold dV;rw [h3],h4⟩
 |vw ek l=>
  rcases hr with hr |⟨b,o,cap,cs,e,fr,h1,h2,h3,h4⟩
  ·exact .inl hr
  ·exact .inr ⟨b,o,cap,cs,e,fr,h1,h2,by unfold dV;rw [h3],h4⟩
 |vz ek l=>
  rcases hr with hr |⟨b,o,cap,cs,h1,h2,h3,h4⟩
  ·exact .inl hr
  ·exact .inr ⟨b,o,cap,cs,h1,h2,od h h3,h4⟩
 |vp ek x j=>obtain⟨b,o,cs,h1,h2,h3,h4⟩:=hr;exact⟨b,o,cs,h1,h2,od h h3,h4⟩
 |vs l j=>obtain⟨b,cs,h1,h2,h3⟩:=hr;exact⟨b,cs,h1,od h h2,FL (fun _ _=>od h) h3⟩
 |er b=>exact hr
 |e0=>exact hr
theorem RQ (hh:Holds N c T β τ a w) (uN:∀i∈ids,live τ i) {x:SV}(hx:∀i∈x.boxes,i∈ids) {v:Value}(hr:x.rel T β v):x.rel (dV T β τ w ids) β v:=by
 by_cases hxs:∃i sz o m,x= .xs i sz o m
 ·obtain⟨i,sz,o,m,rfl⟩:=hxs
  have hi:i∈ids:=hx i (by simp [SV.boxes])
  rcases hr with hr |⟨cap,n,h1,h2,h3,h4⟩
  ·exact .inl hr
  ·exact .inr ⟨cap,n,h1,h2,TK hh hi (uN i hi) h3,h4⟩
 ·exact RP hh.typed (fun i sz o m e=>hxs ⟨i,sz,o,m,e⟩) hr
theorem LY (hh:Holds N c T β τ a w) (uN:∀i∈ids,live τ i):∀{x:List SV}{v:List Value},(∀i∈cg x,i∈ids)→dO T β x v→dO (dV T β τ w ids) β x v
 |[],[],_,_=>trivial
 |[],_::_,_,h=>h.elim
 |_::_,[],_,h=>h.elim
 |x::l,v::vs,hx,h=>by
  simp only [cg,ZB5] at hx
  exact⟨RQ hh uN (fun i hi=>hx i (.inl hi)) h.1,LY hh uN (fun i hi=>hx i (.inr hi)) h.2⟩
theorem afo (hh:Holds N c T β τ a w) (uN:∀i∈ids,live τ i) {x:AV}{cs:Array Value}(hx:∀i∈x.boxes,i∈ids) (hr:x.rZ T β cs):x.rZ (dV T β τ w ids) β cs:=by
 cases x with
 |o x=>
  cases x with
  |s x=>exact hr
  |a l=>exact LY hh uN hx hr
 |_=>exact hr
theorem CO {pt:Bool}(hh:Holds N c T β τ a w) (uN:∀i∈ids,live τ i) {kp:Bool}{v:SV}{y:Value}(hr:v.rel T β y) {k:Prop→SV→Q Rs}(hp:((MD pt kp ids v k).run τ).pre):
  ∃p v',(MD pt kp ids v k).run τ=(k p v').run τ∧(p→(∀i∈v'.boxes,i∈ids)→v'.rel (dV T β τ w ids) β y):=by
 unfold MD at hp ⊢
 split at hp
 ·rename_i i sz o m
  cases kp with
  |true=>exact⟨True,_,rfl,fun _ hb=>RQ hh uN hb hr⟩
  |false=>
   simp only at hp ⊢
   cases hmi:iz ids i with
   |true=>rw [hmi] at hp;exact hp.elim
   |false=>
    have hni:i∉ids:=fun h=>by rw [fA.2 h] at hmi;cases hmi
    rw [hmi] at hp
    simp only [cond_false] at hp ⊢
    simp only [sW,Q.run] at hp ⊢
    cases hb:τ (.b i) with
    |none=>rw [hb] at hp;exact hp.elim
    |some av=>
     rw [hb] at hp
     simp only at hp ⊢
     split at hp
     ·rename_i ek l
      cases hc:Nat.beq ek.length sz with
      |false=>rw [hc] at hp;exact hp.elim
      |true=>
       have dk:ek.length=sz:=by simpa using hc
       subst dk
       obtain⟨cs,te,kh,_,z,JD,_⟩:=hh.boxes i _ hb (by intro e;cases e)
       cases pt with
       |true=>
        refine⟨o+m≤l.length,.vz ek ((l.drop o).take m),rfl,fun hle _=>?_⟩
        have hlen:((l.drop o).take m).length=m:=by simp;omega
        rcases hr with ⟨rfl,p,rfl⟩ |⟨cap,n,rfl,hmc,_⟩
        ·exact .inl ⟨by simp,p,0,rfl⟩
        ·exact .inr ⟨β i,o*ek.length,cap,cs,by rw [hlen],by rw [hlen];exact hmc,IG hh hni hb kh,A9 JD o m⟩
       |false=>
        refine⟨o=0∧m=l.length,.vz ek l,rfl,fun hle _=>?_⟩
        obtain⟨rfl,rfl⟩:=hle
        rcases hr with ⟨zk,p,rfl⟩ |⟨cap,n,rfl,hmc,_⟩
        ·exact .inl ⟨ZD4.1 zk,p,0,rfl⟩
        ·exact .inr ⟨β i,0*ek.length,cap,cs,rfl,hmc,IG hh hni hb kh,by have:=A9 JD 0 l.length;simpa using this⟩
     ·exact hp.elim
 ·rename_i fB
  exact⟨True,_,rfl,fun _ _=>RP hh.typed fB hr⟩
theorem ME {pt:Bool}(hh:Holds N c T β τ a w) (uN:∀i∈ids,live τ i):∀{ps:List SP}{v:List SV}{y:List Value},dO T β v y→∀{k:Prop→List SV→Q Rs},((IH pt ids ps v k).run τ).pre→
  ∃p v',(IH pt ids ps v k).run τ=(k p v').run τ∧(p→(∀i∈cg v',i∈ids)→dO (dV T β τ w ids) β v' y)
 |[],[],[],_,k,hp=>⟨True,[],rfl,fun _ _=>trivial⟩
 |[],[],_::_,h,_,_=>h.elim
 |_::_,[],_,_,_,hp=>by simp only [IH] at hp;exact hp.elim
 |[],_::_,_,_,_,hp=>by simp only [IH] at hp;exact hp.elim
 |_::_,_::_,[],h,_,_=>h.elim
 |p0::ps,x::l,y::ys,h,k,hp=>by
  simp only [IH] at hp ⊢
  obtain⟨p,x',h1,h2⟩:=CO hh uN h.1 hp
  rw [h1] at hp ⊢
  obtain⟨q,l',g1,g2⟩:=ME hh uN h.2 hp
  refine⟨p∧q,x'::l',g1,fun hpq hb=>?_⟩
  simp only [cg,ZB5] at hb
  exact⟨h2 hpq.1 fun i hi=>hb i (.inl hi),g2 hpq.2 fun i hi=>hb i (.inr hi)⟩
theorem CQ {pt:Bool}(hh:Holds N c T β τ a w):∀{v:List SV}{y:List Value},dO T β v y→∀{k:Prop→List CV→Q Rs},((uB pt ids v k).run τ).pre→
  ∃p v',(uB pt ids v k).run τ=(k p v').run τ∧(p→xu (dV T β τ w ids) v' y)
 |[],[],_,k,hp=>⟨True,[],rfl,fun _=>trivial⟩
 |[],_::_,h,_,_=>h.elim
 |_::_,[],h,_,_=>h.elim
 |x::l,y::ys,h,k,hp=>by
  have simple:∀(cv:CV),(∀k,uB pt ids (x::l) k=uB pt ids l fun q m=>k q (cv::m))→cv.rel (dV T β τ w ids) y→∃p v',(uB pt ids (x::l) k).run τ=(k p v').run τ∧(p→xu (dV T β τ w ids) v' (y::ys)):=fun cv e hr=>by
   rw [e] at hp ⊢
   obtain⟨p,v',h1,h2⟩:=CQ hh h.2 hp
   exact⟨p,cv::v',h1,fun hpp=>⟨hr,h2 hpp⟩⟩
  cases x with
  |v x=>exact simple (.v x) (fun _=>rfl) h.1
  |q b=>exact simple (.q b) (fun _=>rfl) h.1
  |vz ek r=>exact simple (.vz ek r) (fun _=>rfl) (CV.ac5 (x:=.vz ek r) (fun _ _=>od hh.typed) h.1)
  |vw ek r=>
   refine simple (.vz ek r) (fun _=>rfl) ?_
   rcases h.1 with hr |⟨b,o,cap,cs,e,fr,h1,h2,h3,h4⟩
   ·exact .inl hr
   ·exact .inr ⟨b,o,cap,cs,h1,h2,od hh.typed (.inl ⟨e,fr,h3⟩),h4⟩
  |xs j sz o n=>
   simp only [uB] at hp ⊢
   cases hmi:iz ids j with
   |true=>rw [hmi] at hp;exact hp.elim
   |false=>
    have hni:j∉ids:=fun h=>by rw [fA.2 h] at hmi;cases hmi
    rw [hmi] at hp
    simp only [cond_false] at hp ⊢
    simp only [sW,Q.run] at hp ⊢
    cases hb:τ (.b j) with
    |none=>rw [hb] at hp;exact hp.elim
    |some av=>
     rw [hb] at hp
     simp only at hp ⊢
     split at hp
     ·rename_i ek r
      cases hc:Nat.beq ek.length sz with
      |false=>rw [hc] at hp;exact hp.elim
      |true=>
       rw [hc] at hp
       have dk:ek.length=sz:=by simpa using hc
       subst dk
       obtain⟨cs,te,kh,_,z,JD,_⟩:=hh.boxes j _ hb (by intro e;cases e)
       obtain⟨p,v',h1,h2⟩:=CQ hh h.2 hp
       refine⟨(o=0∧n=r.length)∧p,.vz ek r::v',h1,fun hle=>⟨?_,h2 hle.2⟩⟩
       obtain⟨rfl,rfl⟩:=hle.1
       rcases h.1 with ⟨zk,p,rfl⟩ |⟨cap,n,rfl,hmc,_⟩
       ·exact .inl ⟨ZD4.1 zk,p,0,rfl⟩
       ·exact .inr ⟨β j,0*ek.length,cap,cs,rfl,hmc,IG hh hni hb kh,by have:=A9 JD 0 r.length;simpa using this⟩
     ·exact hp.elim
  |_=>exact hp.elim
theorem adY {pt:Bool}(hh:Holds N c T β τ a w) (uN:∀i∈ids,live τ i) {ap:AP}{v:AV}{y:Value}(hr:v.rel T β y) {k:Prop→AV→Q Rs}(hp:((af9 pt ids ap v k).run τ).pre):
  ∃p v',(af9 pt ids ap v k).run τ=(k p v').run τ∧(p→(∀i∈v'.boxes,i∈ids)→v'.rel (dV T β τ w ids) β y):=by
 unfold af9 at hp ⊢
 split at hp
 ·exact⟨True,_,rfl,fun _ _=>hr⟩
 ·rename_i m
  obtain⟨b,cs,h1,h2,h3⟩:=hr
  exact⟨True,_,rfl,fun _ _=>⟨b,cs,h1,od hh.typed h2,FL (fun _ _=>od hh.typed) h3⟩⟩
 ·rename_i i
  cases hmi:iz ids i with
  |true=>rw [hmi] at hp;exact hp.elim
  |false=>
   have hni:i∉ids:=fun h=>by rw [fA.2 h] at hmi;cases hmi
   rw [hmi] at hp
   simp only [cond_false] at hp ⊢
   simp only [sW,Q.run] at hp ⊢
   cases hb:τ (.b i) with
   |none=>rw [hb] at hp;exact hp.elim
   |some av=>
    rw [hb] at hp
    simp only at hp ⊢
    split at hp
    ·rename_i l
     obtain⟨cs,te,kh,c7⟩:=hh.boxes i _ hb (by intro e;cases e)
     obtain⟨p,v',h1,h2⟩:=CQ hh (pt:=pt) (v:=l) (y:=cs.toList) c7 hp
     exact⟨p,_,h1,fun hpp _=>⟨β i,cs,hr,af8 hh hni hb kh,h2 hpp⟩⟩
    ·exact hp.elim
 ·obtain⟨p,x',h1,h2⟩:=CO hh uN hr hp
  exact⟨p,.s x',h1,h2⟩
 ·obtain⟨cs,e,hl⟩:=hr
  obtain⟨p,l',h1,h2⟩:=ME hh uN hl hp
  exact⟨p,.a l',h1,fun hpp hb=>⟨cs,e,h2 hpp hb⟩⟩
 ·obtain⟨p,x',h1,h2⟩:=CO hh uN hr hp
  exact⟨p,.s x',h1,h2⟩
 ·exact hp.elim
theorem MF {pt:Bool}(hh:Holds N c T β τ a w) (uN:∀i∈ids,live τ i):∀{ps:List AP}{v:List AV}{y:List Value},se T β v y→∀{k:Prop→List AV→Q Rs},((II pt ids ps v k).run τ).pre→
  ∃p v',(II pt ids ps v k).run τ=(k p v').run τ∧(p→(∀i∈gi v',i∈ids)→se (dV T β τ w ids) β v' y)
 |[],[],[],_,k,hp=>⟨True,[],rfl,fun _ _=>trivial⟩
 |[],[],_::_,h,_,_=>h.elim
 |_::_,[],_,_,_,hp=>by simp only [II] at hp;exact hp.elim
 |[],_::_,_,_,_,hp=>by simp only [II] at hp;exact hp.elim
 |_::_,_::_,[],h,_,_=>h.elim
 |p0::ps,x::l,y::ys,h,k,hp=>by
  simp only [II] at hp ⊢
  obtain⟨p,x',h1,h2⟩:=adY hh uN h.1 hp
  rw [h1] at hp ⊢
  obtain⟨q,l',g1,g2⟩:=MF hh uN h.2 hp
  refine⟨p∧q,x'::l',g1,fun hpq hb=>?_⟩
  simp only [gi,ZB5] at hb
  exact⟨h2 hpq.1 fun i hi=>hb i (.inl hi),g2 hpq.2 fun i hi=>hb i (.inr hi)⟩
theorem FZ (hh:Holds N c T β τ a w):∀{l:List Operand}{vs:List AV},evA τ l=some vs→se T β vs (l.map a.eval)∧∀i∈gi vs,τ (.b i)≠none
 |[],vs,h=>by cases h;exact⟨trivial,by simp [gi]⟩
 |x::l,vs,h=>by
  simp only [evA] at h
  split at h
  ·rename_i v hv
   split at h
   ·rename_i vs' I8
    cases h
    obtain⟨g1,g2⟩:=FZ hh I8
    refine⟨⟨eR hh hv,g1⟩,fun i hi=>?_⟩
    simp only [gi,ZB5] at hi
    rcases hi with hi |hi
    ·exact ia hh hv i hi
    ·exact g2 i hi
   ·cases h
  ·cases h
theorem DS:∀{l:List Nat}{k:List AV→Q Rs},((KP l k).run τ).pre→∃bs,(KP l k).run τ=(k bs).run τ∧bs.length=l.length∧∀(j i:Nat) (av:AV),l[j]?=some i→bs[j]?=some av→τ (.b i)=some av
 |[],k,_=>⟨[],rfl,rfl,by simp⟩
 |i::l,k,hp=>by
  simp only [KP,sW,Q.run] at hp ⊢
  cases hb:τ (.b i) with
  |none=>rw [hb] at hp;exact hp.elim
  |some av=>
   rw [hb] at hp
   obtain⟨bs,h1,h2,h3⟩:=DS (l:=l) hp
   refine⟨av::bs,h1,by simp [h2],fun j i' av' hj hv=>?_⟩
   cases j with
   |zero=>simp at hj hv;subst hj;subst hv;exact hb
   |succ j=>exact h3 j i' av' (by simpa using hj) (by simpa using hv)
theorem EY {base:Nat}{q:Q Rs}:∀{n:Nat},((AR base n q).run τ).pre→(AR base n q).run τ=q.run τ∧∀j,j<n→τ (.b (base+j))=none
 |0,_=>⟨rfl,fun j hj=>by omega⟩
 |n+1,hp=>by
  simp only [AR,Q.run] at hp ⊢
  cases hb:τ (.b (base+n)) with
  |some _=>rw [hb] at hp;exact hp.elim
  |none=>
   rw [hb] at hp
   obtain⟨h1,h2⟩:=EY (n:=n) hp
   refine⟨h1,fun j hj=>?_⟩
   by_cases e:j=n
   ·subst e;exact hb
   ·exact h2 j (by omega)
theorem IC:∀{l:List AV},ID l=true→∀x∈l,x≠.zz∧((∃m,x= .o (.a m))∨∃ek m,x= .rs ek m)
 |[],_,x,h=>by cases h
 |y::l,h,x,hx=>by
  unfold ID at h
  split at h
  ·rename_i heq;cases heq
  ·rename_i m l' heq
   cases heq
   rcases ZB9.1 hx with rfl |hx
   ·exact⟨(by intro e;cases e),.inl ⟨m,rfl⟩⟩
   ·exact IC h x hx
  ·rename_i ek m l' heq
   cases heq
   rcases ZB9.1 hx with rfl |hx
   ·exact⟨(by intro e;cases e),.inr ⟨ek,m,rfl⟩⟩
   ·exact IC h x hx
  ·cases h
theorem FK {g:Nat→Nat}:∀{l:List AV}{i:Nat},(BS g l)[i]?=(l[i]?).map (AV.lF g)
 |[],i=>by simp [BS]
 |x::l,0=>by simp [BS]
 |x::l,i+1=>by simpa [BS] using FK (l:=l) (i:=i)
theorem DQ:∀{l:List AV}{i k:Nat}{x:AV},l[i]?=some x→k∈x.boxes→k∈gi l
 |[],_,_,_,h,_=>by simp at h
 |y::l,0,k,x,h,hk=>by simp at h;subst h;simp [gi,hk]
 |y::l,i+1,k,x,h,hk=>by
  have:=DQ (l:=l) (i:=i) (by simpa using h) hk
  simp [gi,this]
end
end
end GL
namespace GL
def plain:BK→Prop
 |.ty _ _=>True
 |.ro _ _ _=>True
 |.bx _=>True
 |_=>False
section
variable {T T':bc}{β:Nat→Nat}
theorem SV.pU (h:∀b k,T b=some k→plain k→T' b=some k) {x:SV}(hf:x.ot=true) {v:Value}(hr:x.rel T β v):x.rel T' β v:=by
 cases x with
 |v x=>exact hr
 |q b=>exact hr
 |bp i o=>exact hr
 |xp i sz k j=>exact hr
 |xs i sz o m=>
  rcases hr with hr |⟨cap,n,h1,h2,h3,h4⟩
  ·exact .inl hr
  ·exact .inr ⟨cap,n,h1,h2,h _ _ h3 trivial,h4⟩
 |ep ek j=>obtain⟨b,o,n,h1,h2,h3⟩:=hr;exact⟨b,o,n,h1,h _ _ h2 trivial,h3⟩
 |sl ek len=>
  rcases hr with hr |⟨b,o,cap,n,h1,h2,h3,h4⟩
  ·exact .inl hr
  ·exact .inr ⟨b,o,cap,n,h1,h2,h _ _ h3 trivial,h4⟩
 |vw ek l=>
  rcases hr with hr |⟨b,o,cap,cs,e,fr,h1,h2,h3,h4⟩
  ·exact .inl hr
  ·exact .inr ⟨b,o,cap,cs,e,fr,h1,h2,h _ _ h3 trivial,h4⟩
 |vz ek l=>cases hf
 |vp ek x j=>cases hf
 |vs l j=>cases hf
 |er b=>exact hr
 |e0=>exact hr
theorem BU (h:∀b k,T b=some k→plain k→T' b=some k):∀{l:List SV}{cs:List Value},AA l=true→dO T β l cs→dO T' β l cs
 |[],[],_,_=>trivial
 |_::_,[],_,h'=>h'.elim
 |[],_::_,_,h'=>h'.elim
 |_::_,_::_,hf,h'=>by
  simp only [AA,ZB0] at hf
  exact⟨SV.pU h hf.1 h'.1,BU h hf.2 h'.2⟩
theorem A0.pU (h:∀b k,T b=some k→plain k→T' b=some k) {x:A0}(hf:x.ot=true) {v:Value}(hr:x.rel T β v):x.rel T' β v:=by
 cases x with
 |s x=>exact SV.pU h hf hr
 |a l=>obtain⟨cs,e,hl⟩:=hr;exact⟨cs,e,BU h hf hl⟩
theorem LV (h:∀b k,T b=some k→plain k→T' b=some k):∀{l:List A0}{cs:List Value},uH l=true→uJ T β l cs→uJ T' β l cs
 |[],[],_,_=>trivial
 |_::_,[],_,h'=>h'.elim
 |[],_::_,_,h'=>h'.elim
 |_::_,_::_,hf,h'=>by
  simp only [uH,ZB0] at hf
  exact⟨A0.pU h hf.1 h'.1,LV h hf.2 h'.2⟩
theorem AV.pU (h:∀b k,T b=some k→plain k→T' b=some k) {x:AV}(hf:x.ot=true) {v:Value}(hr:x.rel T β v):x.rel T' β v:=by
 cases x with
 |o x=>exact A0.pU h hf hr
 |t l=>obtain⟨cs,e,hl⟩:=hr;exact⟨cs,e,LV h hf hl⟩
 |rs ek l=>exact hr
 |zz=>exact hr
 |fn f l=>exact hr
theorem AV.afp (h:∀b k,T b=some k→plain k→T' b=some k) {x:AV}(hf:x.ot=true) {cs:Array Value}(hr:x.rZ T β cs):x.rZ T' β cs:=by
 cases x with
 |o x=>
  cases x with
  |s x=>exact hr
  |a l=>exact BU h hf hr
 |_=>exact hr
end
section
variable {N:Nat}{c:Ctx}{T:bc}{β:Nat→Nat}{τ:St}{a:Act}{w w':World}{ids:List Nat}
theorem vE (h:WT T w) {b:Nat}{k:BK}(hk:T b=some k):dV T β τ w ids b=some k∨∃cs e fr,dV T β τ w ids b=some (.ln cs e fr):=by
 unfold dV
 rw [hk]
 cases k with
 |fz ek n cs=>
  obtain⟨_,e,fr,l,h2,_⟩:=h b _ hk
  exact .inr ⟨cs,e,fr,by simp only [h2]⟩
 |bx n=>
  obtain⟨cs,e,h2,_⟩:=h b _ hk
  simp only
  by_cases hx:∃i,ajp τ i∧i∉ids∧β i=b
  ·rw [if_pos hx,h2];exact .inr ⟨cs,e,(0,0),rfl⟩
  ·rw [if_neg hx];exact .inl rfl
 |_=>exact .inl rfl
theorem XI {b:Nat}{k:BK}(hk:dV T β τ w ids b=some k) (hp:plain k):T b=some k:=by
 unfold dV at hk
 split at hk
 ·split at hk
  ·cases hk;exact hp.elim
  ·cases hk
 ·rename_i n hT
  split at hk
  ·split at hk
   ·cases hk;exact hp.elim
   ·cases hk
  ·rw [hT];exact hk
 ·exact hk
theorem XG {b:Nat}(hk:T b=none):dV T β τ w ids b=none:=by
 unfold dV
 rw [hk]
def AO (T T':bc) (n:Nat):bc:=fun b=>if b<n then T b else T' b
def backβ (β β':Nat→Nat) (base nf k:Nat):Nat→Nat:=fun i=>if base≤i∧i<base+nf then β' (k+(i-base)) else β i
structure Y0 (τ τ':St) (ids:List Nat) (base nf:Nat) (os:List AV):Prop where
 set:∀j i,(ids++cF base nf)[j]?=some i→τ' (.b i)=some ((atA os j).lF (oT ids base))
 old:∀r,(∀i∈ids++cF base nf,r≠.b i)→τ' r=τ r
theorem Holds.call (hh:Holds N c T β τ a w) {base nf:Nat}{mv:Bool}{os:List AV}{T':bc}{β2 β':Nat→Nat}{τ':St}(ahf:1000≤base) (hmv:mv=true→1000000000≤base)
  (sI:∀i∈ids,live τ i) (h2:∀j i,ids[j]?=some i→β2 j=β i) (uF:∀j,j<nf→τ (.b (base+j))=none) (hos:os.length=ids.length+nf)
  (hA:aaS w (dV T β τ w ids) β2 ids.length T' w') (hB:KZ w ids.length mv β2 T' β' w' os) (hτ:Y0 τ τ' ids base nf os):
  Holds N c (AO T T' w.heap.size) (backβ β β' base nf ids.length) τ' a w'∧(∀b k,T' b=some k→plain k→AO T T' w.heap.size b=some k)∧∀n,n<os.length→backβ β β' base nf ids.length (oT ids base n)=β' n∧τ' (.b (oT ids base n))≠none:=by
 have JC:∀b k,T' b=some k→plain k→AO T T' w.heap.size b=some k:=by
  intro b k hb hp
  unfold AO
  by_cases bU:b<w.heap.size
  ·rw [if_pos bU]
   rw [hA.new b bU] at hb
   exact XI hb hp
  ·rw [if_neg bU];exact hb
 have z7:uX T (AO T T' w.heap.size):=fun b k hb=>by
  unfold AO
  rw [if_pos (BK.lt (hh.typed b k hb))];exact hb
 have kg:∀i,τ (.b i)≠none→¬(base≤i∧i<base+nf):=fun i hi h=>by
  have:=uF (i-base) (by omega)
  rw [show base+(i-base)=i by omega] at this
  exact hi this
 have hβo:∀i,τ (.b i)≠none→backβ β β' base nf ids.length i=β i:=fun i hi=>by unfold backβ;rw [if_neg (kg i hi)]
 have hβj:∀j i,(ids++cF base nf)[j]?=some i→backβ β β' base nf ids.length i=β' j:=by
  intro j i hj
  by_cases bU:j<ids.length
  ·rw [ZC2 bU] at hj
   have hi:=ZB7 hj
   rw [hβo i (kI (sI i hi)),hB.same j bU,h2 j i hj]
  ·rw [ZC6 (by omega)] at hj
   have hr:j-ids.length<nf:=by
    have:=(ZC0.1 hj).1
    rwa [kO] at this
   rw [jO _ _ _ hr] at hj
   cases hj
   unfold backβ
   rw [if_pos (by omega)]
   congr 1;omega
 have ahg:∀n,n<os.length→(ids++cF base nf)[n]?=some (oT ids base n):=by
  intro n hn
  unfold oT
  by_cases bU:n<ids.length
  ·rw [ZC2 bU,ZB2 bU]
  ·rw [ZC6 (by omega),jO _ _ _ (by omega),ZD9 (by omega)]
 have MZ:∀n,n<os.length→backβ β β' base nf ids.length (oT ids base n)=β' n∧τ' (.b (oT ids base n))≠none:=fun n hn=>by
  refine⟨hβj n _ (ahg n hn),?_⟩
  rw [hτ.set n _ (ahg n hn)]
  simp
 have agp:∀i,τ (.b i)≠none→τ' (.b i)≠none:=by
  intro i hi
  by_cases hm:i∈ids++cF base nf
  ·obtain⟨j,hj⟩:=ZF5 hm
   rw [hτ.set j i hj];simp
  ·rw [hτ.old (.b i) (fun k hk e=>hm (by cases e;exact hk))];exact hi
 have ajv:∀i,live τ i→i∉ids→w'.heap[β i]?=w.heap[β i]?:=by
  intro i hi hni
  obtain⟨⟨n,hn⟩,_⟩:=hh.apart i hi
  have bU:=hh.lt hi
  rcases vE (β:=β) (τ:=τ) (ids:=ids) hh.typed hn with h |⟨cs,e,fr,h⟩
  ·refine hA.frame _ bU (fun j hj he=>?_) (by rw [h];trivial)
   have hjl:ids[j]?=some ids[j]:=ZB2 hj
   rw [h2 j _ hjl] at he
   exact hni (hh.inj i _ hi (sI _ (ZB7 hjl)) he ▸ ZB7 hjl)
  ·have g1:w.heap[β i]?=some (.cells cs e fr):=zP hh.typed _ _ h
   have g2:w'.heap[β i]?=some (.cells cs e fr):=hA.typed (β i) (.ln cs e fr) (by rw [hA.new _ bU];exact h)
   rw [g1,g2]
 have T4:∀i,live τ' i→(i∉ids∧¬(base≤i∧i<base+nf)∧live τ i)∨∃(j:Nat) (av:AV),(ids++cF base nf)[j]?=some i∧os[j]?=some av∧av≠.zz:=by
  intro i hi
  by_cases hm:i∈ids++cF base nf
  ·right
   obtain⟨j,hj⟩:=ZF5 hm
   have hs:=hτ.set j i hj
   unfold atA at hs
   cases ho:os[j]? with
   |none=>
    rw [ho] at hs
    unfold live at hi
    rw [hs] at hi
    exact hi.elim
   |some av=>
    rw [ho] at hs
    refine⟨j,av,hj,ho,fun e=>?_⟩
    subst e
    unfold live at hi
    rw [hs] at hi
    exact hi.elim
  ·left
   have ho:=hτ.old (.b i) (fun k hk e=>hm (by cases e;exact hk))
   refine⟨fun h=>hm (List.mem_append_left _ h),fun h=>hm (List.mem_append_right _ (fY.2 h)),?_⟩
   unfold live at hi ⊢
   rwa [ho] at hi
 have hβlive:∀i,live τ i→backβ β β' base nf ids.length i=β i:=fun i hi=>hβo i (kI hi)
 refine⟨{
  defs:=hh.defs
  size:=hh.size
  EN:=hh.EN
  iL:=fun i av hi=>by
   rw [hτ.old (.s i) (fun k _ e=>by cases e)] at hi
   obtain⟨v,hv,hr⟩:=hh.iL i av hi
   exact⟨v,hv,AV.nQ z7 (AV.ac6 (fun k hk=>hβo k (hh.named (.s i) av hi k hk)) hr)⟩
  boxes:=fun i av hi hz=>by
   by_cases hm:i∈ids++cF base nf
   ·obtain⟨j,hj⟩:=ZF5 hm
    rw [hτ.set j i hj] at hi
    cases hi
    unfold atA at hz ⊢
    cases ho:os[j]? with
    |none=>rw [ho] at hz;exact absurd rfl hz
    |some x=>
     rw [ho] at hz
     simp only at hz ⊢
     obtain⟨_,_,⟨cs,e,g1,g2⟩,g3,g4⟩:=hB.at_ j x ho (FJ hz)
     refine⟨cs,e,by rw [hβj j i hj];exact g1,?_⟩
     exact AV.F4 (fun n hn=>(MZ n (g3 n hn)).1) (AV.afp JC g4 g2)
   ·have ho:=hτ.old (.b i) (fun k hk e=>hm (by cases e;exact hk))
    rw [ho] at hi
    have hl:=eF hi hz
    obtain⟨cs,e,g1,g2⟩:=hh.boxes i av hi hz
    refine⟨cs,e,?_,AV.J2 z7 (AV.YK (fun k hk=>hβo k (hh.named (.b i) av hi k hk)) g2)⟩
    rw [hβlive i hl,ajv i hl (fun h=>hm (List.mem_append_left _ h))]
    exact g1
  apart:=fun i hi=>by
   rcases T4 i hi with ⟨_,_,hl⟩ |⟨j,av,hj,ho,hz⟩
   ·rw [hβlive i hl]
    obtain⟨⟨n,hn⟩,g⟩:=hh.apart i hl
    exact⟨⟨n,z7 _ _ hn⟩,g⟩
   ·rw [hβj j i hj]
    obtain⟨⟨n,hn⟩,vL,_⟩:=hB.at_ j av ho hz
    refine⟨⟨n,JC _ _ hn aa⟩,?_⟩
    by_cases bU:j<ids.length
    ·rw [ZC2 bU] at hj
     have hl:=sI i (ZB7 hj)
     have e:β' j=β i:=by rw [hB.same j bU,h2 j i hj]
     rw [e]
     exact (hh.apart i hl).2
    ·rw [ZC6 (by omega)] at hj
     have hr:=fY.1 (ZB7 hj)
     refine⟨fun h=>by omega,fun _ h3=>?_,?_⟩
     ·rcases vL (by omega) with h4 |⟨h4,_⟩
      ·exact ZB1 hh.gd h4
      ·have:=hmv h4;omega
     ·rcases vL (by omega) with h4 |⟨_,j',h4,h5⟩
      ·exact .inl (ZB1 hh.gd h4)
      ·rw [h5,h2 j' _ (ZB2 h4)]
       exact (hh.apart _ (sI _ (List.getElem_mem h4))).2.2.2
  handed:=fun i b hb hi=>by
   have bU:i<c.H.length:=(ZC0.1 hb).1
   have aly:=hh.EN
   have hl:live τ i:=by
    rcases T4 i hi with ⟨_,_,hl⟩ |⟨j,av,hj,_,_⟩
    ·exact hl
    ·rcases ZB5.1 (ZB7 hj) with h |h
     ·exact sI i h
     ·have:=fY.1 h;omega
   rw [hβlive i hl]
   exact hh.handed i b hb hl
  inj:=fun i i' hi C3 e=>by
   have ady:∀k,live τ k→β k<w.heap.size:=fun k hk=>hh.lt hk
   rcases T4 i hi with ⟨n1,_,hl⟩ |⟨j,av,hj,ho,hz⟩
   ·rcases T4 i' C3 with ⟨_,_,hl'⟩ |⟨j',av',C2,ho',hz'⟩
    ·rw [hβlive i hl,hβlive i' hl'] at e
     exact hh.inj i i' hl hl' e
    ·rw [hβlive i hl,hβj j' i' C2] at e
     by_cases bU:j'<ids.length
     ·rw [ZC2 bU] at C2
      rw [hB.same j' bU,h2 j' i' C2] at e
      exact hh.inj i i' hl (sI i' (ZB7 C2)) e
     ·rcases (hB.at_ j' av' ho' hz').2.1 (by omega) with h4 |⟨_,j2,h4,h5⟩
      ·have:=ady i hl
       omega
      ·rw [h5,h2 j2 _ (ZB2 h4)] at e
       exact absurd (hh.inj i _ hl (sI _ (List.getElem_mem h4)) e ▸ List.getElem_mem h4) n1
   ·rcases T4 i' C3 with ⟨n1,_,hl'⟩ |⟨j',av',C2,ho',hz'⟩
    ·rw [hβj j i hj,hβlive i' hl'] at e
     by_cases bU:j<ids.length
     ·rw [ZC2 bU] at hj
      rw [hB.same j bU,h2 j i hj] at e
      exact hh.inj i i' (sI i (ZB7 hj)) hl' e
     ·rcases (hB.at_ j av ho hz).2.1 (by omega) with h4 |⟨_,j2,h4,h5⟩
      ·have:=ady i' hl'
       omega
      ·rw [h5,h2 j2 _ (ZB2 h4)] at e
       exact absurd (hh.inj i' _ hl' (sI _ (List.getElem_mem h4)) e.symm ▸ List.getElem_mem h4) n1
    ·rw [hβj j i hj,hβj j' i' C2] at e
     have:=hB.inj j j' av av' ho hz ho' hz' e
     subst this
     rw [hj] at C2
     cases C2
     rfl
  named:=fun r av hr i hi=>by
   cases r with
   |s n=>
    rw [hτ.old (.s n) (fun k _ e=>by cases e)] at hr
    exact agp i (hh.named (.s n) av hr i hi)
   |b n=>
    by_cases hm:n∈ids++cF base nf
    ·obtain⟨j,hj⟩:=ZF5 hm
     rw [hτ.set j n hj] at hr
     cases hr
     obtain⟨m,hm',rfl⟩:=AV.gm hi
     unfold atA at hm'
     cases ho:os[j]? with
     |none=>rw [ho] at hm';simp [AV.boxes] at hm'
     |some x=>
      rw [ho] at hm'
      have hz:x≠.zz:=fun e=>by subst e;simp [AV.boxes] at hm'
      exact (MZ m ((hB.at_ j x ho hz).2.2.2.1 m hm')).2
    ·rw [hτ.old (.b n) (fun k hk e=>hm (by cases e;exact hk))] at hr
     exact agp i (hh.named (.b n) av hr i hi)
  typed:=fun b k hb=>by
   unfold AO at hb
   by_cases bU:b<w.heap.size
   ·rw [if_pos bU] at hb
    rcases vE (β:=β) (τ:=τ) (ids:=ids) hh.typed hb with h |⟨cs,e,fr,h⟩
    ·exact hA.typed b k (by rw [hA.new b bU];exact h)
    ·have g1:w.heap[b]?=some (.cells cs e fr):=zP hh.typed _ _ h
     have g2:w'.heap[b]?=some (.cells cs e fr):=hA.typed b (.ln cs e fr) (by rw [hA.new _ bU];exact h)
     exact BK.qt (hh.typed b k hb) (by rw [g1,g2])
   ·rw [if_neg bU] at hb
    exact hA.typed b k hb
  old:=fun b hb=>by
   unfold AO
   rw [if_pos (ZG2 hb hh.gd)]
   exact hh.old b hb
  frame:=fun b hb hH hq=>by
   have bU:b<w.heap.size:=ZG2 hb hh.gd
   rw [←hh.frame b hb hH hq]
   have ho:=hh.old b hb
   cases hT:T b with
   |none=>
    refine hA.frame b bU (fun j hj e=>?_) (by rw [XG hT];trivial)
    have hjl:ids[j]?=some ids[j]:=ZB2 hj
    rw [h2 j _ hjl] at e
    obtain⟨n,hn⟩:=(hh.apart _ (sI _ (ZB7 hjl))).1
    rw [←e,hT] at hn
    cases hn
   |some k=>
    rw [hT] at ho
    rcases vE (β:=β) (τ:=τ) (ids:=ids) hh.typed hT with h |⟨cs,e,fr,h⟩
    ·refine hA.frame b bU (fun j hj e=>?_) ?_
     ·have hjl:ids[j]?=some ids[j]:=ZB2 hj
      rw [h2 j _ hjl] at e
      have hl:=sI _ (ZB7 hjl)
      rcases (hh.apart _ hl).2.2.2 with g1 |g1
      ·omega
      ·exact hH (e ▸ g1)
     ·rw [h]
      rw [←ho] at hq
      cases k<;>first|trivial|exact hq
    ·have g1:w.heap[b]?=some (.cells cs e fr):=zP hh.typed _ _ h
     have g2:w'.heap[b]?=some (.cells cs e fr):=hA.typed b (.ln cs e fr) (by rw [hA.new _ bU];exact h)
     rw [g1,g2]
  gd:=ZB1 hh.gd hA.gd
  os:=hA.os.trans hh.os
  tape:=hA.tape.trans hh.tape
  output:=hA.output.trans hh.output
  oZ:=hh.oZ.mono z7 },JC,MZ⟩
end
end GL
end Go.Proofs.YtbfgjadbfjkcdaaGreatDoor
