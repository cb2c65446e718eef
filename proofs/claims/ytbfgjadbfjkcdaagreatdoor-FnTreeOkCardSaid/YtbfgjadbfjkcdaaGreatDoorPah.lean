/- FnTreeOk returns true for every code (its row lists package variables, tied by the card): part 8 of 39. -/
import Derived.Test.YtbfgjadbfjkcdaaGreatDoorPag
set_option maxHeartbeats 20000000
set_option linter.all false
namespace Go.Proofs.YtbfgjadbfjkcdaaGreatDoor
namespace GL
section
variable {P:Program} {N:Nat} {τ:St}
variable {d:Nat} {x y z:Operand} {t u ty:TypeId} {pos:String} {af:Array Edge} {g:Option (Nat×Bool)}
def Enters (P : Program) (f : FuncId) : Prop := ∃ fn, P.funcs[f]? = some fn ∧ fn.body.isSome = true ∧ fn.name ≠ "runtime.NumGoroutine"
theorem aaT {f:FuncId} (h:Enters P f) {args:Array Operand} {tys:Array TypeId} {ρ:Operand→Value} (hρ:ρ (.func f)= .func (.func f) #[] #[]) {w:World} {dst:Option Nat}:
  (execOp ρ ⟨dst, .call ⟨.value (.func f),args,tys⟩,ty,pos,af,g⟩).run P w= .ok (.enter f (args.map ρ)) w:=by
 obtain ⟨fn,h1,h2,h3⟩:=h
 obtain ⟨cd,hcd⟩:=Option.isSome_iff_exists.1 h2
 simp [execOp,resolve,hρ,Deferred.ofValue,invoke,callFunc,h1,hcd,h3]
def YM:List Operand→(List AV→Q Rs)→Q Rs
 |[],k=>k []
 |x::l,k=>bR x fun v=>YM l fun vs=>k (v::vs)
def evA (τ:St):List Operand→Option (List AV)
 |[]=>some []
 |x::l=>match ev τ x with
  |some v=>match evA τ l with
   |some vs=>some (v::vs)
   |none=>none
  |none=>none
theorem AI (τ:St):∀(l:List Operand) (k:List AV→Q Rs),(YM l k).run τ=match evA τ l with
  |some v=>(k v).run τ
  |none=>.no
 |[],k=>rfl
 |x::l,k=>by
  simp only [YM,cX,evA]
  cases ev τ x with
  |none=>rfl
  |some v=>
   simp only [AI τ l]
   cases evA τ l<;>rfl
def adX:SP→Bool
 | .xb _ _=>true
 |_=>false
def agW (p:SP) (v:SV):List Nat:=
 match v with
 | .xs i _ _ _=>bif adX p then [i] else []
 |x=>x.boxes
def agX:List SP→List SV→List Nat
 |p::ps,x::l=>agW p x++agX ps l
 |_,_=>[]
def kept (p:AP) (v:AV):List Nat:=
 match p,v with
 | .s p, .o (.s x)=>agW p x
 | .a l, .o (.a m)=>agX l m
 | .b _, .o (.s x)=>x.boxes
 | .fn _ _, .fn _ l=>jA l
 |_,_=>[]
def Z2:List AP→List AV→List Nat
 |p::ps,x::l=>kept p x++Z2 ps l
 |_,_=>[]
def L3 (pt kp:Bool) (ids:List Nat) (v:SV) (k:Prop→SV→Q Rs):Q Rs:=
 match v with
 | .xs i sz o m=>match kp with
  |true=>k True (.xs i sz o m)
  |false=>bif il ids i then .ret .no else sN i fun
   | .rs ek l=>bif Nat.beq ek.length sz then (match pt with
    |true=>k (o+m≤l.length) (.vz ek ((l.drop o).take m))
    |false=>k (o=0∧m=l.length) (.vz ek l)) else .ret .no
   |_=>.ret .no
 |x=>k True x
def H6 (pt:Bool) (ids:List Nat):List SP→List SV→(Prop→List SV→Q Rs)→Q Rs
 |[],[],k=>k True []
 |p::ps,x::l,k=>L3 pt (adX p) ids x fun p y=>H6 pt ids ps l fun q m=>k (p∧q) (y::m)
 |_,_,_=>.ret .no
def uw (pt:Bool) (ids:List Nat):List SV→(Prop→List CV→Q Rs)→Q Rs
 |[],k=>k True []
 | .v x::l,k=>uw pt ids l fun q m=>k q (.v x::m)
 | .q b::l,k=>uw pt ids l fun q m=>k q (.q b::m)
 | .vz ek r::l,k=>uw pt ids l fun q m=>k q (.vz ek r::m)
 | .vw ek r::l,k=>uw pt ids l fun q m=>k q (.vz ek r::m)
 | .xs j sz o n::l,k=>bif il ids j then .ret .no else sN j fun
  | .rs ek r=>bif Nat.beq ek.length sz then uw pt ids l fun q m=>k ((o=0∧n=r.length)∧q) (.vz ek r::m) else .ret .no
  |_=>.ret .no
 |_::_,_=>.ret .no
def afZ (pt:Bool) (ids:List Nat) (ap:AP) (v:AV) (k:Prop→AV→Q Rs):Q Rs:=
 match ap,v with
 | .fn _ _, .fn f l=>k True (.fn f l)
 | .vs _, .o (.s (.vs m 0))=>k True (.s (.vs m 0))
 | .vs _, .o (.s (.bp i 0))=>bif il ids i then .ret .no else sN i fun
  | .o (.a l)=>uw pt ids l fun p m=>k p (.s (.vs m 0))
  |_=>.ret .no
 | .s p, .o (.s x)=>L3 pt (adX p) ids x fun p y=>k p (.s y)
 | .a l, .o (.a m)=>H6 pt ids l m fun p m=>k p (.a m)
 | .b _, .o (.s x)=>L3 pt true ids x fun p y=>k p (.s y)
 |_,_=>.ret .no
def H7 (pt:Bool) (ids:List Nat):List AP→List AV→(Prop→List AV→Q Rs)→Q Rs
 |[],[],k=>k True []
 |p::ps,x::l,k=>afZ pt ids p x fun p y=>H7 pt ids ps l fun q m=>k (p∧q) (y::m)
 |_,_,_=>.ret .no
def fV:List AV→List Nat
 |[]=>[]
 |x::l=>x.boxes++fV l
def KE:List Nat→(List AV→Q Rs)→Q Rs
 |[],k=>k []
 |i::l,k=>sN i fun v=>KE l fun vs=>k (v::vs)
def AH (base:Nat):Nat→Q Rs→Q Rs
 |0,k=>k
 |n+1,k=>.ask (.b (base+n)) fun
  |none=>AH base n k
  |some _=>.ret .no
def BH (g:Nat→Nat):List AV→List AV
 |[]=>[]
 |x::l=>x.lx g::BH g l
def oJ (ids:List Nat) (base:Nat) (j:Nat):Nat:=match ids[j]? with
 |some i=>i
 |none=>base+(j - ids.length)
def atA (os:List AV) (j:Nat):AV:=match os[j]? with
 |some x=>x
 |none=>.zz
def F1 {α:Type} (o:α→List AV) (g:Nat→Nat):Nat→List Nat→List (fC×(α→AV))
 |_,[]=>[]
 |j,i::l=>(.b i,fun z=>(atA (o z) j).lx g)::F1 o g (j+1) l
def H2:List AV→Bool
 |[]=>true
 | .o (.a _)::l=>H2 l
 | .rs _ _::l=>H2 l
 |_::_=>false
def gZ (mv:Bool) (d:Nat):Nat:=bif mv then 1000000000+10000 * (d+1) else 10000 * (d+1)
def afo (c:Con) (d:Nat) (ids:List Nat) (x:APs.Ty c.A) (y:APs.Ty c.B):List (fC×(c.α x y→AV)):=
 match c.ro with
 |false=>F1 (c.o x y) (oJ ids (gZ c.mv d)) 0 (ids++cy (gZ c.mv d) c.nf)
 |true=>F1 (c.o x y) (oJ ids (gZ c.mv d)) ids.length (cy (gZ c.mv d) c.nf)
def NN (c:Con) (d:Nat) (ids:List Nat) (bs:List AV) (x:APs.Ty c.A) (y:APs.Ty c.B) (p:Prop):Prop:=
 match c.ro with
 |false=>p
 |true=>p∧∀z,c.φ x y z→BH (oJ ids (gZ c.mv d)) ((c.o x y z).take ids.length)=bs
theorem afq {c:Con} {d:Nat} {ids:List Nat} {bs:List AV} {x:APs.Ty c.A} {y:APs.Ty c.B} {p:Prop} (h:NN c d ids bs x y p):p:=by
 unfold NN at h
 split at h
 ·exact h
 ·exact h.1
def ajO (d:Nat) (c:Con) (p:Prop) (ids:List Nat) (bs:List AV) (x:APs.Ty c.A) (y:APs.Ty c.B):Rs:=
 .ex (NN c d ids bs x y (p∧c.pre x y)) (c.α x y) (c.φ x y) ((.s d,fun z=>(c.r x y z).lx (oJ ids (gZ c.mv d)))::afo c d ids x y)
def afr (pt:Bool) (d:Nat) (c:Con) (iS:List AV) (ids:List Nat):Q Rs:=
 KE ids fun bs=>bif H2 bs then H7 pt ids c.A iS fun p as=>
  match APs.parse c.A (BH (idxOf ids) as),APs.parse c.B (BH (idxOf ids) bs) with
  |some x,some y=>bif ((fV as).all (il ids)&&(fV bs).all (il ids))&&(nodupB ids&&Nat.ble ids.length 1000) then AH (gZ c.mv d) c.nf (.ret (ajO d c p ids bs x y)) else .ret .no
  |_,_=>.ret .no else .ret .no
def dd:List Nat→List Nat→List Nat
 |[],acc=>acc
 |i::l,acc=>bif il acc i then dd l acc else dd l (i::acc)
def vI:List Nat→List Nat→(List Nat→Q Rs)→Q Rs
 |[],acc,k=>k acc
 |i::l,acc,k=>bif il acc i then vI l acc k else vI l (i::acc) k
theorem CZ:∀(l acc:List Nat) (k:List Nat→Q Rs),vI l acc k=k (dd l acc)
 |[],_,_=>rfl
 |i::l,acc,k=>by
  simp only [vI,dd]
  cases il acc i with
  |true=>exact CZ l acc k
  |false=>exact CZ l (i::acc) k
def yZ:List Nat→List Nat→(List Nat→Q Rs)→Q Rs
 |[],m,k=>k m
 |i::l,m,k=>yZ l (i::m) k
theorem MU:∀(l m:List Nat) (k:List Nat→Q Rs),yZ l m k=k (l.reverse++m)
 |[],_,_=>rfl
 |i::l,m,k=>by simp only [yZ,List.reverse_cons,List.append_assoc,List.singleton_append];exact MU l (i::m) k
def afp (rN:FuncId→Option Con) (pt:Bool) (d:Nat) (f:FuncId) (args:List Operand):Q Rs:=
 match rN f with
 |none=>.ret .no
 |some c=>YM args fun iS=>vI (Z2 c.A iS) [] fun r0=>yZ r0 [] fun ahO=>KE ahO fun bs0=>vI (fV bs0) r0 fun r1=>yZ r1 [] fun ids=>afr pt d c iS ids
def ai5 (τ:St) (i:Nat):Prop:=(∃ek l,τ (.b i)=some (.rs ek l))∨∃l,τ (.b i)=some (.o (.a l))
noncomputable def dN (T:a7) (β:Nat→Nat) (τ:St) (w:World) (ids:List Nat):a7:=fun b=>
 match T b with
 |some (.fz _ _ _)=>(match w.heap[b]? with
  |some (.cells cs e fr)=>some (.ln cs e fr)
  |_=>none)
 |some (.bx n)=>open Classical in if∃i,ai5 τ i∧i∉ids∧β i=b then (match w.heap[b]? with
  |some (.cells cs e fr)=>some (.ln cs e fr)
  |_=>none) else some (.bx n)
 |k=>k
section
variable {c:Ctx} {T:a7} {β:Nat→Nat} {a:Act} {w:World} {ids:List Nat}
theorem zG (h:WT T w):WT (dN T β τ w ids) w:=by
 intro b k hb
 unfold dN at hb
 split at hb
 ·split at hb
  ·rename_i cs e fr hc;cases hb;exact hc
  ·cases hb
 ·rename_i n hT
  split at hb
  ·split at hb
   ·rename_i cs e fr hc;cases hb;exact hc
   ·cases hb
  ·cases hb;exact h b _ hT
 ·exact h b k hb
theorem W9 (hg:YS T):UY (dN T β τ w ids):=by
 refine ⟨?_,fun g hm=>by obtain ⟨cs,e,fr,h1,h2⟩:=hg g hm;exact ⟨cs,e,fr,by unfold dN;rw [h1],h2⟩⟩
 intro b ek n cs hb
 unfold dN at hb
 split at hb
 ·split at hb<;>cases hb
 ·split at hb
  ·split at hb<;>cases hb
  ·cases hb
 ·rename_i h1 h2;exact h1 _ _ _ hb
theorem nX (h:WT T w) {b:Nat} {cs:Array Value} (hr:rdT T b cs):rdT (dN T β τ w ids) b cs:=by
 rcases hr with ⟨e,fr,h1⟩ |⟨e,fr,h1⟩ |⟨ek,n,h1⟩
 ·exact .inl ⟨e,fr,by unfold dN;rw [h1]⟩
 ·exact .inr (.inl ⟨e,fr,by unfold dN;rw [h1]⟩)
 ·obtain ⟨_,e,fr,l,h2,_⟩:=h b _ h1
  exact .inr (.inl ⟨e,fr,by unfold dN;rw [h1];simp only;rw [h2]⟩)
theorem H5 (hh:Holds N c T β τ a w) {i:Nat} (hi:i∉ids) {ek:EK} {l:List (EK.Ty ek)} (hb:τ (.b i)=some (.rs ek l)) {cs:Array Value} {e:TypeId} {fr:Nat×Nat} (hc:w.heap[β i]?=some (.cells cs e fr)):rdT (dN T β τ w ids) (β i) cs:=by
 obtain ⟨⟨n,hn⟩,_⟩:=hh.apart i (ey hb (by intro e;cases e))
 refine .inr (.inl ⟨e,fr,?_⟩)
 unfold dN
 rw [hn]
 simp only
 rw [if_pos ⟨i, .inl ⟨ek,l,hb⟩,hi,rfl⟩,hc]
theorem afY (hh:Holds N c T β τ a w) {i:Nat} (hi:i∉ids) {l:List SV} (hb:τ (.b i)=some (.o (.a l))) {cs:Array Value} {e:TypeId} {fr:Nat×Nat} (hc:w.heap[β i]?=some (.cells cs e fr)):rdT (dN T β τ w ids) (β i) cs:=by
 obtain ⟨⟨n,hn⟩,_⟩:=hh.apart i (ey hb (by intro e;cases e))
 refine .inr (.inl ⟨e,fr,?_⟩)
 unfold dN
 rw [hn]
 simp only
 rw [if_pos ⟨i, .inr ⟨l,hb⟩,hi,rfl⟩,hc]
theorem TB (hh:Holds N c T β τ a w) {i n:Nat} (hi:i∈ids) (hl:live τ i) (hn:T (β i)=some (.bx n)):dN T β τ w ids (β i)=some (.bx n):=by
 unfold dN
 rw [hn]
 simp only
 rw [if_neg]
 rintro ⟨j,CR,hji,e⟩
 have hlj:live τ j:=by
  rcases CR with ⟨ek,m,hj⟩ |⟨m,hj⟩
  ·exact ey hj (by intro e;cases e)
  ·exact ey hj (by intro e;cases e)
 have:=hh.inj j i hlj hl e
 subst this
 exact hji hi
theorem RH (h:WT T w) {x:SV} (hx:∀i sz o m,x≠.xs i sz o m) {v:Value} (hr:x.rel T β v):x.rel (dN T β τ w ids) β v:=by
 cases x with
 |v x=>exact hr
 |q b=>exact hr
 |bp i o=>exact hr
 |xp i sz k j=>exact hr
 |xs i sz o m=>exact absurd rfl (hx i sz o m)
 |ep ek j=>obtain ⟨b,o,n,h1,h2,h3⟩:=hr;exact ⟨b,o,n,h1,by unfold dN;rw [h2],h3⟩
 |sl ek len=>
  rcases hr with hr |⟨b,o,cap,n,h1,h2,h3,h4⟩
  ·exact .inl hr
  ·exact .inr ⟨b,o,cap,n,h1,h2,by unfold dN;rw [h3],h4⟩
 |vw ek l=>
  rcases hr with hr |⟨b,o,cap,cs,e,fr,h1,h2,h3,h4⟩
  ·exact .inl hr
  ·exact .inr ⟨b,o,cap,cs,e,fr,h1,h2,by unfold dN;rw [h3],h4⟩
 |vz ek l=>
  rcases hr with hr |⟨b,o,cap,cs,h1,h2,h3,h4⟩
  ·exact .inl hr
  ·exact .inr ⟨b,o,cap,cs,h1,h2,nX h h3,h4⟩
 |vp ek x j=>obtain ⟨b,o,cs,h1,h2,h3,h4⟩:=hr;exact ⟨b,o,cs,h1,h2,nX h h3,h4⟩
 |vs l j=>obtain ⟨b,cs,h1,h2,h3⟩:=hr;exact ⟨b,cs,h1,nX h h2,E5 (fun _ _=>nX h) h3⟩
 |er b=>exact hr
 |e0=>exact hr
theorem RI (hh:Holds N c T β τ a w) (uH:∀i∈ids,live τ i) {x:SV} (hx:∀i∈x.boxes,i∈ids) {v:Value} (hr:x.rel T β v):x.rel (dN T β τ w ids) β v:=by
 by_cases hxs:∃i sz o m,x= .xs i sz o m
 ·obtain ⟨i,sz,o,m,rfl⟩:=hxs
  have hi:i∈ids:=hx i (by simp [SV.boxes])
  rcases hr with hr |⟨cap,n,h1,h2,h3,h4⟩
  ·exact .inl hr
  ·exact .inr ⟨cap,n,h1,h2,TB hh hi (uH i hi) h3,h4⟩
 ·exact RH hh.typed (fun i sz o m e=>hxs ⟨i,sz,o,m,e⟩) hr
theorem LN (hh:Holds N c T β τ a w) (uH:∀i∈ids,live τ i):∀ {x:List SV} {v:List Value},(∀i∈bX x,i∈ids)→ee T β x v→ee (dN T β τ w ids) β x v
 |[],[],_,_=>trivial
 |[],_::_,_,h=>h.elim
 |_::_,[],_,h=>h.elim
 |x::l,v::vs,hx,h=>by
  simp only [bX,List.mem_append] at hx
  exact ⟨RI hh uH (fun i hi=>hx i (.inl hi)) h.1,LN hh uH (fun i hi=>hx i (.inr hi)) h.2⟩
theorem aff (hh:Holds N c T β τ a w) (uH:∀i∈ids,live τ i) {x:AV} {cs:Array Value} (hx:∀i∈x.boxes,i∈ids) (hr:x.rN T β cs):x.rN (dN T β τ w ids) β cs:=by
 cases x with
 |o x=>
  cases x with
  |s x=>exact hr
  |a l=>exact LN hh uH hx hr
 |_=>exact hr
theorem CE {pt:Bool} (hh:Holds N c T β τ a w) (uH:∀i∈ids,live τ i) {kp:Bool} {v:SV} {y:Value} (hr:v.rel T β y) {k:Prop→SV→Q Rs} (hp:((L3 pt kp ids v k).run τ).pre):
  ∃p v',(L3 pt kp ids v k).run τ=(k p v').run τ∧(p→(∀i∈v'.boxes,i∈ids)→v'.rel (dN T β τ w ids) β y):=by
 unfold L3 at hp ⊢
 split at hp
 ·rename_i i sz o m
  cases kp with
  |true=>exact ⟨True,_,rfl,fun _ hb=>RI hh uH hb hr⟩
  |false=>
   simp only at hp ⊢
   cases hmi:il ids i with
   |true=>rw [hmi] at hp;exact hp.elim
   |false=>
    have hni:i∉ids:=fun h=>by rw [fp.2 h] at hmi;cases hmi
    rw [hmi] at hp
    simp only [cond_false] at hp ⊢
    simp only [sN,Q.run] at hp ⊢
    cases hb:τ (.b i) with
    |none=>rw [hb] at hp;exact hp.elim
    |some av=>
     rw [hb] at hp
     simp only at hp ⊢
     split at hp
     ·rename_i ek l
      cases hc:Nat.beq ek.length sz with
      |false=>rw [hc] at hp;exact hp.elim
      |true=>
       have db:ek.length=sz:=by simpa using hc
       subst db
       obtain ⟨cs,te,j7,_,z,I2,_⟩:=hh.boxes i _ hb (by intro e;cases e)
       cases pt with
       |true=>
        refine ⟨o+m≤l.length, .vz ek ((l.drop o).take m),rfl,fun hle _=>?_⟩
        have hlen:((l.drop o).take m).length=m:=by simp;omega
        rcases hr with ⟨rfl,p,rfl⟩ |⟨cap,n,rfl,hmc,_⟩
        ·exact .inl ⟨by simp,p,0,rfl⟩
        ·exact .inr ⟨β i,o * ek.length,cap,cs,by rw [hlen],by rw [hlen];exact hmc,H5 hh hni hb j7,AZ I2 o m⟩
       |false=>
        refine ⟨o=0∧m=l.length, .vz ek l,rfl,fun hle _=>?_⟩
        obtain ⟨rfl,rfl⟩:=hle
        rcases hr with ⟨ze,p,rfl⟩ |⟨cap,n,rfl,hmc,_⟩
        ·exact .inl ⟨List.length_eq_zero_iff.1 ze,p,0,rfl⟩
        ·exact .inr ⟨β i,0 * ek.length,cap,cs,rfl,hmc,H5 hh hni hb j7,by have:=AZ I2 0 l.length;simpa using this⟩
     ·exact hp.elim
 ·rename_i fq
  exact ⟨True,_,rfl,fun _ _=>RH hh.typed fq hr⟩
theorem L4 {pt:Bool} (hh:Holds N c T β τ a w) (uH:∀i∈ids,live τ i):∀ {ps:List SP} {v:List SV} {y:List Value},ee T β v y→∀ {k:Prop→List SV→Q Rs},((H6 pt ids ps v k).run τ).pre→
  ∃p v',(H6 pt ids ps v k).run τ=(k p v').run τ∧(p→(∀i∈bX v',i∈ids)→ee (dN T β τ w ids) β v' y)
 |[],[],[],_,k,hp=>⟨True,[],rfl,fun _ _=>trivial⟩
 |[],[],_::_,h,_,_=>h.elim
 |_::_,[],_,_,_,hp=>by simp only [H6] at hp;exact hp.elim
 |[],_::_,_,_,_,hp=>by simp only [H6] at hp;exact hp.elim
 |_::_,_::_,[],h,_,_=>h.elim
 |p0::ps,x::l,y::ys,h,k,hp=>by
  simp only [H6] at hp ⊢
  obtain ⟨p,x',h1,h2⟩:=CE hh uH h.1 hp
  rw [h1] at hp ⊢
  obtain ⟨q,l',g1,g2⟩:=L4 hh uH h.2 hp
  refine ⟨p∧q,x'::l',g1,fun hpq hb=>?_⟩
  simp only [bX,List.mem_append] at hb
  exact ⟨h2 hpq.1 fun i hi=>hb i (.inl hi),g2 hpq.2 fun i hi=>hb i (.inr hi)⟩
theorem CF {pt:Bool} (hh:Holds N c T β τ a w):∀ {v:List SV} {y:List Value},ee T β v y→∀ {k:Prop→List CV→Q Rs},((uw pt ids v k).run τ).pre→
  ∃p v',(uw pt ids v k).run τ=(k p v').run τ∧(p→xj (dN T β τ w ids) v' y)
 |[],[],_,k,hp=>⟨True,[],rfl,fun _=>trivial⟩
 |[],_::_,h,_,_=>h.elim
 |_::_,[],h,_,_=>h.elim
 |x::l,y::ys,h,k,hp=>by
  have simple:∀(cv:CV),(∀k,uw pt ids (x::l) k=uw pt ids l fun q m=>k q (cv::m))→cv.rel (dN T β τ w ids) y→∃p v',(uw pt ids (x::l) k).run τ=(k p v').run τ∧(p→xj (dN T β τ w ids) v' (y::ys)):=fun cv e hr=>by
   rw [e] at hp ⊢
   obtain ⟨p,v',h1,h2⟩:=CF hh h.2 hp
   exact ⟨p,cv::v',h1,fun hpp=>⟨hr,h2 hpp⟩⟩
  cases x with
  |v x=>exact simple (.v x) (fun _=>rfl) h.1
  |q b=>exact simple (.q b) (fun _=>rfl) h.1
  |vz ek r=>exact simple (.vz ek r) (fun _=>rfl) (CV.acV (x:=.vz ek r) (fun _ _=>nX hh.typed) h.1)
  |vw ek r=>
   refine simple (.vz ek r) (fun _=>rfl) ?_
   rcases h.1 with hr |⟨b,o,cap,cs,e,fr,h1,h2,h3,h4⟩
   ·exact .inl hr
   ·exact .inr ⟨b,o,cap,cs,h1,h2,nX hh.typed (.inl ⟨e,fr,h3⟩),h4⟩
  |xs j sz o n=>
   simp only [uw] at hp ⊢
   cases hmi:il ids j with
   |true=>rw [hmi] at hp;exact hp.elim
   |false=>
    have hni:j∉ids:=fun h=>by rw [fp.2 h] at hmi;cases hmi
    rw [hmi] at hp
    simp only [cond_false] at hp ⊢
    simp only [sN,Q.run] at hp ⊢
    cases hb:τ (.b j) with
    |none=>rw [hb] at hp;exact hp.elim
    |some av=>
     rw [hb] at hp
     simp only at hp ⊢
     split at hp
     ·rename_i ek r
      cases hc:Nat.beq ek.length sz with
      |false=>rw [hc] at hp;exact hp.elim
      |true=>
       rw [hc] at hp
       have db:ek.length=sz:=by simpa using hc
       subst db
       obtain ⟨cs,te,j7,_,z,I2,_⟩:=hh.boxes j _ hb (by intro e;cases e)
       obtain ⟨p,v',h1,h2⟩:=CF hh h.2 hp
       refine ⟨(o=0∧n=r.length)∧p, .vz ek r::v',h1,fun hle=>⟨?_,h2 hle.2⟩⟩
       obtain ⟨rfl,rfl⟩:=hle.1
       rcases h.1 with ⟨ze,p,rfl⟩ |⟨cap,n,rfl,hmc,_⟩
       ·exact .inl ⟨List.length_eq_zero_iff.1 ze,p,0,rfl⟩
       ·exact .inr ⟨β j,0 * ek.length,cap,cs,rfl,hmc,H5 hh hni hb j7,by have:=AZ I2 0 r.length;simpa using this⟩
     ·exact hp.elim
  |_=>exact hp.elim
theorem adP {pt:Bool} (hh:Holds N c T β τ a w) (uH:∀i∈ids,live τ i) {ap:AP} {v:AV} {y:Value} (hr:v.rel T β y) {k:Prop→AV→Q Rs} (hp:((afZ pt ids ap v k).run τ).pre):
  ∃p v',(afZ pt ids ap v k).run τ=(k p v').run τ∧(p→(∀i∈v'.boxes,i∈ids)→v'.rel (dN T β τ w ids) β y):=by
 unfold afZ at hp ⊢
 split at hp
 ·exact ⟨True,_,rfl,fun _ _=>hr⟩
 ·rename_i m
  obtain ⟨b,cs,h1,h2,h3⟩:=hr
  exact ⟨True,_,rfl,fun _ _=>⟨b,cs,h1,nX hh.typed h2,E5 (fun _ _=>nX hh.typed) h3⟩⟩
 ·rename_i i
  cases hmi:il ids i with
  |true=>rw [hmi] at hp;exact hp.elim
  |false=>
   have hni:i∉ids:=fun h=>by rw [fp.2 h] at hmi;cases hmi
   rw [hmi] at hp
   simp only [cond_false] at hp ⊢
   simp only [sN,Q.run] at hp ⊢
   cases hb:τ (.b i) with
   |none=>rw [hb] at hp;exact hp.elim
   |some av=>
    rw [hb] at hp
    simp only at hp ⊢
    split at hp
    ·rename_i l
     obtain ⟨cs,te,j7,cV⟩:=hh.boxes i _ hb (by intro e;cases e)
     obtain ⟨p,v',h1,h2⟩:=CF hh (pt:=pt) (v:=l) (y:=cs.toList) cV hp
     exact ⟨p,_,h1,fun hpp _=>⟨β i,cs,hr,afY hh hni hb j7,h2 hpp⟩⟩
    ·exact hp.elim
 ·obtain ⟨p,x',h1,h2⟩:=CE hh uH hr hp
  exact ⟨p, .s x',h1,h2⟩
 ·obtain ⟨cs,e,hl⟩:=hr
  obtain ⟨p,l',h1,h2⟩:=L4 hh uH hl hp
  exact ⟨p, .a l',h1,fun hpp hb=>⟨cs,e,h2 hpp hb⟩⟩
 ·obtain ⟨p,x',h1,h2⟩:=CE hh uH hr hp
  exact ⟨p, .s x',h1,h2⟩
 ·exact hp.elim
theorem L5 {pt:Bool} (hh:Holds N c T β τ a w) (uH:∀i∈ids,live τ i):∀ {ps:List AP} {v:List AV} {y:List Value},rZ T β v y→∀ {k:Prop→List AV→Q Rs},((H7 pt ids ps v k).run τ).pre→
  ∃p v',(H7 pt ids ps v k).run τ=(k p v').run τ∧(p→(∀i∈fV v',i∈ids)→rZ (dN T β τ w ids) β v' y)
 |[],[],[],_,k,hp=>⟨True,[],rfl,fun _ _=>trivial⟩
 |[],[],_::_,h,_,_=>h.elim
 |_::_,[],_,_,_,hp=>by simp only [H7] at hp;exact hp.elim
 |[],_::_,_,_,_,hp=>by simp only [H7] at hp;exact hp.elim
 |_::_,_::_,[],h,_,_=>h.elim
 |p0::ps,x::l,y::ys,h,k,hp=>by
  simp only [H7] at hp ⊢
  obtain ⟨p,x',h1,h2⟩:=adP hh uH h.1 hp
  rw [h1] at hp ⊢
  obtain ⟨q,l',g1,g2⟩:=L5 hh uH h.2 hp
  refine ⟨p∧q,x'::l',g1,fun hpq hb=>?_⟩
  simp only [fV,List.mem_append] at hb
  exact ⟨h2 hpq.1 fun i hi=>hb i (.inl hi),g2 hpq.2 fun i hi=>hb i (.inr hi)⟩
theorem FL (hh:Holds N c T β τ a w):∀ {l:List Operand} {vs:List AV},evA τ l=some vs→rZ T β vs (l.map a.eval)∧∀i∈fV vs,τ (.b i)≠none
 |[],vs,h=>by cases h;exact ⟨trivial,by simp [fV]⟩
 |x::l,vs,h=>by
  simp only [evA] at h
  split at h
  ·rename_i v hv
   split at h
   ·rename_i vs' IX
    cases h
    obtain ⟨g1,g2⟩:=FL hh IX
    refine ⟨⟨eK hh hv,g1⟩,fun i hi=>?_⟩
    simp only [fV,List.mem_append] at hi
    rcases hi with hi |hi
    ·exact gS hh hv i hi
    ·exact g2 i hi
   ·cases h
  ·cases h
theorem DH:∀ {l:List Nat} {k:List AV→Q Rs},((KE l k).run τ).pre→∃bs,(KE l k).run τ=(k bs).run τ∧bs.length=l.length∧∀(j i:Nat) (av:AV),l[j]?=some i→bs[j]?=some av→τ (.b i)=some av
 |[],k,_=>⟨[],rfl,rfl,by simp⟩
 |i::l,k,hp=>by
  simp only [KE,sN,Q.run] at hp ⊢
  cases hb:τ (.b i) with
  |none=>rw [hb] at hp;exact hp.elim
  |some av=>
   rw [hb] at hp
   obtain ⟨bs,h1,h2,h3⟩:=DH (l:=l) hp
   refine ⟨av::bs,h1,by simp [h2],fun j i' av' hj hv=>?_⟩
   cases j with
   |zero=>simp at hj hv;subst hj;subst hv;exact hb
   |succ j=>exact h3 j i' av' (by simpa using hj) (by simpa using hv)
theorem EI {base:Nat} {q:Q Rs}:∀ {n:Nat},((AH base n q).run τ).pre→(AH base n q).run τ=q.run τ∧∀j,j < n→τ (.b (base+j))=none
 |0,_=>⟨rfl,fun j hj=>by omega⟩
 |n+1,hp=>by
  simp only [AH,Q.run] at hp ⊢
  cases hb:τ (.b (base+n)) with
  |some _=>rw [hb] at hp;exact hp.elim
  |none=>
   rw [hb] at hp
   obtain ⟨h1,h2⟩:=EI (n:=n) hp
   refine ⟨h1,fun j hj=>?_⟩
   by_cases e:j=n
   ·subst e;exact hb
   ·exact h2 j (by omega)
theorem H0:∀ {l:List AV},H2 l=true→∀x∈l,x≠.zz∧((∃m,x= .o (.a m))∨∃ek m,x= .rs ek m)
 |[],_,x,h=>by cases h
 |y::l,h,x,hx=>by
  unfold H2 at h
  split at h
  ·rename_i heq;cases heq
  ·rename_i m l' heq
   cases heq
   rcases List.mem_cons.1 hx with rfl |hx
   ·exact ⟨(by intro e;cases e), .inl ⟨m,rfl⟩⟩
   ·exact H0 h x hx
  ·rename_i ek m l' heq
   cases heq
   rcases List.mem_cons.1 hx with rfl |hx
   ·exact ⟨(by intro e;cases e), .inr ⟨ek,m,rfl⟩⟩
   ·exact H0 h x hx
  ·cases h
theorem E4 {g:Nat→Nat}:∀ {l:List AV} {i:Nat},(BH g l)[i]?=(l[i]?).map (AV.lx g)
 |[],i=>by simp [BH]
 |x::l,0=>by simp [BH]
 |x::l,i+1=>by simpa [BH] using E4 (l:=l) (i:=i)
theorem DF:∀ {l:List AV} {i k:Nat} {x:AV},l[i]?=some x→k∈x.boxes→k∈fV l
 |[],_,_,_,h,_=>by simp at h
 |y::l,0,k,x,h,hk=>by simp at h;subst h;simp [fV,hk]
 |y::l,i+1,k,x,h,hk=>by
  have:=DF (l:=l) (i:=i) (by simpa using h) hk
  simp [fV,this]
end
end
end GL
namespace GL
def plain:BK→Prop
 | .ty _ _=>True
 | .ro _ _ _=>True
 | .bx _=>True
 |_=>False
section
variable {T T':a7} {β:Nat→Nat}
theorem SV.pG (h:∀b k,T b=some k→plain k→T' b=some k) {x:SV} (hf:x.od=true) {v:Value} (hr:x.rel T β v):x.rel T' β v:=by
 cases x with
 |v x=>exact hr
 |q b=>exact hr
 |bp i o=>exact hr
 |xp i sz k j=>exact hr
 |xs i sz o m=>
  rcases hr with hr |⟨cap,n,h1,h2,h3,h4⟩
  ·exact .inl hr
  ·exact .inr ⟨cap,n,h1,h2,h _ _ h3 trivial,h4⟩
 |ep ek j=>obtain ⟨b,o,n,h1,h2,h3⟩:=hr;exact ⟨b,o,n,h1,h _ _ h2 trivial,h3⟩
 |sl ek len=>
  rcases hr with hr |⟨b,o,cap,n,h1,h2,h3,h4⟩
  ·exact .inl hr
  ·exact .inr ⟨b,o,cap,n,h1,h2,h _ _ h3 trivial,h4⟩
 |vw ek l=>
  rcases hr with hr |⟨b,o,cap,cs,e,fr,h1,h2,h3,h4⟩
  ·exact .inl hr
  ·exact .inr ⟨b,o,cap,cs,e,fr,h1,h2,h _ _ h3 trivial,h4⟩
 |vz ek l=>cases hf
 |vp ek x j=>cases hf
 |vs l j=>cases hf
 |er b=>exact hr
 |e0=>exact hr
theorem BJ (h:∀b k,T b=some k→plain k→T' b=some k):∀ {l:List SV} {cs:List Value},zV l=true→ee T β l cs→ee T' β l cs
 |[],[],_,_=>trivial
 |_::_,[],_,h'=>h'.elim
 |[],_::_,_,h'=>h'.elim
 |_::_,_::_,hf,h'=>by
  simp only [zV,Bool.and_eq_true] at hf
  exact ⟨SV.pG h hf.1 h'.1,BJ h hf.2 h'.2⟩
theorem A0.pG (h:∀b k,T b=some k→plain k→T' b=some k) {x:A0} (hf:x.od=true) {v:Value} (hr:x.rel T β v):x.rel T' β v:=by
 cases x with
 |s x=>exact SV.pG h hf hr
 |a l=>obtain ⟨cs,e,hl⟩:=hr;exact ⟨cs,e,BJ h hf hl⟩
theorem LK (h:∀b k,T b=some k→plain k→T' b=some k):∀ {l:List A0} {cs:List Value},uC l=true→uE T β l cs→uE T' β l cs
 |[],[],_,_=>trivial
 |_::_,[],_,h'=>h'.elim
 |[],_::_,_,h'=>h'.elim
 |_::_,_::_,hf,h'=>by
  simp only [uC,Bool.and_eq_true] at hf
  exact ⟨A0.pG h hf.1 h'.1,LK h hf.2 h'.2⟩
theorem AV.pG (h:∀b k,T b=some k→plain k→T' b=some k) {x:AV} (hf:x.od=true) {v:Value} (hr:x.rel T β v):x.rel T' β v:=by
 cases x with
 |o x=>exact A0.pG h hf hr
 |t l=>obtain ⟨cs,e,hl⟩:=hr;exact ⟨cs,e,LK h hf hl⟩
 |rs ek l=>exact hr
 |zz=>exact hr
 |fn f l=>exact hr
theorem AV.afg (h:∀b k,T b=some k→plain k→T' b=some k) {x:AV} (hf:x.od=true) {cs:Array Value} (hr:x.rN T β cs):x.rN T' β cs:=by
 cases x with
 |o x=>
  cases x with
  |s x=>exact hr
  |a l=>exact BJ h hf hr
 |_=>exact hr
end
section
variable {N:Nat} {c:Ctx} {T:a7} {β:Nat→Nat} {τ:St} {a:Act} {w w':World} {ids:List Nat}
theorem vx (h:WT T w) {b:Nat} {k:BK} (hk:T b=some k):dN T β τ w ids b=some k∨∃cs e fr,dN T β τ w ids b=some (.ln cs e fr):=by
 unfold dN
 rw [hk]
 cases k with
 |fz ek n cs=>
  obtain ⟨_,e,fr,l,h2,_⟩:=h b _ hk
  exact .inr ⟨cs,e,fr,by simp only [h2]⟩
 |bx n=>
  obtain ⟨cs,e,h2,_⟩:=h b _ hk
  simp only
  by_cases hx:∃i,ai5 τ i∧i∉ids∧β i=b
  ·rw [if_pos hx,h2];exact .inr ⟨cs,e,(0,0),rfl⟩
  ·rw [if_neg hx];exact .inl rfl
 |_=>exact .inl rfl
theorem XA {b:Nat} {k:BK} (hk:dN T β τ w ids b=some k) (hp:plain k):T b=some k:=by
 unfold dN at hk
 split at hk
 ·split at hk
  ·cases hk;exact hp.elim
  ·cases hk
 ·rename_i n hT
  split at hk
  ·split at hk
   ·cases hk;exact hp.elim
   ·cases hk
  ·rw [hT];exact hk
 ·exact hk
theorem W8 {b:Nat} (hk:T b=none):dN T β τ w ids b=none:=by
 unfold dN
 rw [hk]
def AF (T T':a7) (n:Nat):a7:=fun b=>if b < n then T b else T' b
def backβ (β β':Nat→Nat) (base nf k:Nat):Nat→Nat:=fun i=>if base≤i∧i < base+nf then β' (k+(i - base)) else β i
structure YT (τ τ':St) (ids:List Nat) (base nf:Nat) (os:List AV):Prop where
 set:∀j i,(ids++cy base nf)[j]?=some i→τ' (.b i)=some ((atA os j).lx (oJ ids base))
 old:∀r,(∀i∈ids++cy base nf,r≠.b i)→τ' r=τ r
theorem Holds.call (hh:Holds N c T β τ a w) {base nf:Nat} {mv:Bool} {os:List AV} {T':a7} {β2 β':Nat→Nat} {τ':St} (ag4:1000≤base) (hmv:mv=true→1000000000≤base)
  (sx:∀i∈ids,live τ i) (h2:∀j i,ids[j]?=some i→β2 j=β i) (uA:∀j,j < nf→τ (.b (base+j))=none) (hos:os.length=ids.length+nf)
  (hA:aaK w (dN T β τ w ids) β2 ids.length T' w') (hB:KO w ids.length mv β2 T' β' w' os) (hτ:YT τ τ' ids base nf os):
  Holds N c (AF T T' w.heap.size) (backβ β β' base nf ids.length) τ' a w'∧(∀b k,T' b=some k→plain k→AF T T' w.heap.size b=some k)∧∀n,n < os.length→backβ β β' base nf ids.length (oJ ids base n)=β' n∧τ' (.b (oJ ids base n))≠none:=by
 have I1:∀b k,T' b=some k→plain k→AF T T' w.heap.size b=some k:=by
  intro b k hb hp
  unfold AF
  by_cases bM:b < w.heap.size
  ·rw [if_pos bM]
   rw [hA.new b bM] at hb
   exact XA hb hp
  ·rw [if_neg bM];exact hb
 have zT:uR T (AF T T' w.heap.size):=fun b k hb=>by
  unfold AF
  rw [if_pos (BK.lt (hh.typed b k hb))];exact hb
 have j6:∀i,τ (.b i)≠none→¬(base≤i∧i < base+nf):=fun i hi h=>by
  have:=uA (i - base) (by omega)
  rw [show base+(i - base)=i by omega] at this
  exact hi this
 have hβo:∀i,τ (.b i)≠none→backβ β β' base nf ids.length i=β i:=fun i hi=>by unfold backβ;rw [if_neg (j6 i hi)]
 have hβj:∀j i,(ids++cy base nf)[j]?=some i→backβ β β' base nf ids.length i=β' j:=by
  intro j i hj
  by_cases bM:j < ids.length
  ·rw [List.getElem?_append_left bM] at hj
   have hi:=List.mem_of_getElem? hj
   rw [hβo i (kB (sx i hi)),hB.same j bM,h2 j i hj]
  ·rw [List.getElem?_append_right (by omega)] at hj
   have hr:j - ids.length < nf:=by
    have:=(List.getElem?_eq_some_iff.1 hj).1
    rwa [kH] at this
   rw [jF _ _ _ hr] at hj
   cases hj
   unfold backβ
   rw [if_pos (by omega)]
   congr 1;omega
 have ag5:∀n,n < os.length→(ids++cy base nf)[n]?=some (oJ ids base n):=by
  intro n hn
  unfold oJ
  by_cases bM:n < ids.length
  ·rw [List.getElem?_append_left bM,List.getElem?_eq_getElem bM]
  ·rw [List.getElem?_append_right (by omega),jF _ _ _ (by omega),List.getElem?_eq_none (by omega)]
 have MP:∀n,n < os.length→backβ β β' base nf ids.length (oJ ids base n)=β' n∧τ' (.b (oJ ids base n))≠none:=fun n hn=>by
  refine ⟨hβj n _ (ag5 n hn),?_⟩
  rw [hτ.set n _ (ag5 n hn)]
  simp
 have age:∀i,τ (.b i)≠none→τ' (.b i)≠none:=by
  intro i hi
  by_cases hm:i∈ids++cy base nf
  ·obtain ⟨j,hj⟩:=List.getElem?_of_mem hm
   rw [hτ.set j i hj];simp
  ·rw [hτ.old (.b i) (fun k hk e=>hm (by cases e;exact hk))];exact hi
 have ajb:∀i,live τ i→i∉ids→w'.heap[β i]?=w.heap[β i]?:=by
  intro i hi hni
  obtain ⟨⟨n,hn⟩,_⟩:=hh.apart i hi
  have bM:=hh.lt hi
  rcases vx (β:=β) (τ:=τ) (ids:=ids) hh.typed hn with h |⟨cs,e,fr,h⟩
  ·refine hA.frame _ bM (fun j hj he=>?_) (by rw [h];trivial)
   have hjl:ids[j]?=some ids[j]:=List.getElem?_eq_getElem hj
   rw [h2 j _ hjl] at he
   exact hni (hh.inj i _ hi (sx _ (List.mem_of_getElem? hjl)) he ▸ List.mem_of_getElem? hjl)
  ·have g1:w.heap[β i]?=some (.cells cs e fr):=zG hh.typed _ _ h
   have g2:w'.heap[β i]?=some (.cells cs e fr):=hA.typed (β i) (.ln cs e fr) (by rw [hA.new _ bM];exact h)
   rw [g1,g2]
 have TV:∀i,live τ' i→(i∉ids∧¬(base≤i∧i < base+nf)∧live τ i)∨∃(j:Nat) (av:AV),(ids++cy base nf)[j]?=some i∧os[j]?=some av∧av≠.zz:=by
  intro i hi
  by_cases hm:i∈ids++cy base nf
  ·right
   obtain ⟨j,hj⟩:=List.getElem?_of_mem hm
   have hs:=hτ.set j i hj
   unfold atA at hs
   cases ho:os[j]? with
   |none=>
    rw [ho] at hs
    unfold live at hi
    rw [hs] at hi
    exact hi.elim
   |some av=>
    rw [ho] at hs
    refine ⟨j,av,hj,ho,fun e=>?_⟩
    subst e
    unfold live at hi
    rw [hs] at hi
    exact hi.elim
  ·left
   have ho:=hτ.old (.b i) (fun k hk e=>hm (by cases e;exact hk))
   refine ⟨fun h=>hm (List.mem_append_left _ h),fun h=>hm (List.mem_append_right _ (fQ.2 h)),?_⟩
   unfold live at hi ⊢
   rwa [ho] at hi
 have hβlive:∀i,live τ i→backβ β β' base nf ids.length i=β i:=fun i hi=>hβo i (kB hi)
 refine ⟨{
  defs:=hh.defs
  size:=hh.size
  D8:=hh.D8
  iC:=fun i av hi=>by
   rw [hτ.old (.s i) (fun k _ e=>by cases e)] at hi
   obtain ⟨v,hv,hr⟩:=hh.iC i av hi
   exact ⟨v,hv,AV.nJ zT (AV.acW (fun k hk=>hβo k (hh.named (.s i) av hi k hk)) hr)⟩
  boxes:=fun i av hi hz=>by
   by_cases hm:i∈ids++cy base nf
   ·obtain ⟨j,hj⟩:=List.getElem?_of_mem hm
    rw [hτ.set j i hj] at hi
    cases hi
    unfold atA at hz ⊢
    cases ho:os[j]? with
    |none=>rw [ho] at hz;exact absurd rfl hz
    |some x=>
     rw [ho] at hz
     simp only at hz ⊢
     obtain ⟨_,_,⟨cs,e,g1,g2⟩,g3,g4⟩:=hB.at_ j x ho (E3 hz)
     refine ⟨cs,e,by rw [hβj j i hj];exact g1,?_⟩
     exact AV.FQ (fun n hn=>(MP n (g3 n hn)).1) (AV.afg I1 g4 g2)
   ·have ho:=hτ.old (.b i) (fun k hk e=>hm (by cases e;exact hk))
    rw [ho] at hi
    have hl:=ey hi hz
    obtain ⟨cs,e,g1,g2⟩:=hh.boxes i av hi hz
    refine ⟨cs,e,?_,AV.JR zT (AV.YC (fun k hk=>hβo k (hh.named (.b i) av hi k hk)) g2)⟩
    rw [hβlive i hl,ajb i hl (fun h=>hm (List.mem_append_left _ h))]
    exact g1
  apart:=fun i hi=>by
   rcases TV i hi with ⟨_,_,hl⟩ |⟨j,av,hj,ho,hz⟩
   ·rw [hβlive i hl]
    obtain ⟨⟨n,hn⟩,g⟩:=hh.apart i hl
    exact ⟨⟨n,zT _ _ hn⟩,g⟩
   ·rw [hβj j i hj]
    obtain ⟨⟨n,hn⟩,vF,_⟩:=hB.at_ j av ho hz
    refine ⟨⟨n,I1 _ _ hn tv⟩,?_⟩
    by_cases bM:j < ids.length
    ·rw [List.getElem?_append_left bM] at hj
     have hl:=sx i (List.mem_of_getElem? hj)
     have e:β' j=β i:=by rw [hB.same j bM,h2 j i hj]
     rw [e]
     exact (hh.apart i hl).2
    ·rw [List.getElem?_append_right (by omega)] at hj
     have hr:=fQ.1 (List.mem_of_getElem? hj)
     refine ⟨fun h=>by omega,fun _ h3=>?_,?_⟩
     ·rcases vF (by omega) with h4 |⟨h4,_⟩
      ·exact Nat.le_trans hh.gG h4
      ·have:=hmv h4;omega
     ·rcases vF (by omega) with h4 |⟨_,j',h4,h5⟩
      ·exact .inl (Nat.le_trans hh.gG h4)
      ·rw [h5,h2 j' _ (List.getElem?_eq_getElem h4)]
       exact (hh.apart _ (sx _ (List.getElem_mem h4))).2.2.2
  handed:=fun i b hb hi=>by
   have bM:i < c.H.length:=(List.getElem?_eq_some_iff.1 hb).1
   have ak7:=hh.D8
   have hl:live τ i:=by
    rcases TV i hi with ⟨_,_,hl⟩ |⟨j,av,hj,_,_⟩
    ·exact hl
    ·rcases List.mem_append.1 (List.mem_of_getElem? hj) with h |h
     ·exact sx i h
     ·have:=fQ.1 h;omega
   rw [hβlive i hl]
   exact hh.handed i b hb hl
  inj:=fun i i' hi CS e=>by
   have adp:∀k,live τ k→β k < w.heap.size:=fun k hk=>hh.lt hk
   rcases TV i hi with ⟨n1,_,hl⟩ |⟨j,av,hj,ho,hz⟩
   ·rcases TV i' CS with ⟨_,_,hl'⟩ |⟨j',av',CR,ho',hz'⟩
    ·rw [hβlive i hl,hβlive i' hl'] at e
     exact hh.inj i i' hl hl' e
    ·rw [hβlive i hl,hβj j' i' CR] at e
     by_cases bM:j' < ids.length
     ·rw [List.getElem?_append_left bM] at CR
      rw [hB.same j' bM,h2 j' i' CR] at e
      exact hh.inj i i' hl (sx i' (List.mem_of_getElem? CR)) e
     ·rcases (hB.at_ j' av' ho' hz').2.1 (by omega) with h4 |⟨_,j2,h4,h5⟩
      ·have:=adp i hl
       omega
      ·rw [h5,h2 j2 _ (List.getElem?_eq_getElem h4)] at e
       exact absurd (hh.inj i _ hl (sx _ (List.getElem_mem h4)) e ▸ List.getElem_mem h4) n1
   ·rcases TV i' CS with ⟨n1,_,hl'⟩ |⟨j',av',CR,ho',hz'⟩
    ·rw [hβj j i hj,hβlive i' hl'] at e
     by_cases bM:j < ids.length
     ·rw [List.getElem?_append_left bM] at hj
      rw [hB.same j bM,h2 j i hj] at e
      exact hh.inj i i' (sx i (List.mem_of_getElem? hj)) hl' e
     ·rcases (hB.at_ j av ho hz).2.1 (by omega) with h4 |⟨_,j2,h4,h5⟩
      ·have:=adp i' hl'
       omega
      ·rw [h5,h2 j2 _ (List.getElem?_eq_getElem h4)] at e
       exact absurd (hh.inj i' _ hl' (sx _ (List.getElem_mem h4)) e.symm ▸ List.getElem_mem h4) n1
    ·rw [hβj j i hj,hβj j' i' CR] at e
     have:=hB.inj j j' av av' ho hz ho' hz' e
     subst this
     rw [hj] at CR
     cases CR
     rfl
  named:=fun r av hr i hi=>by
   cases r with
   |s n=>
    rw [hτ.old (.s n) (fun k _ e=>by cases e)] at hr
    exact age i (hh.named (.s n) av hr i hi)
   |b n=>
    by_cases hm:n∈ids++cy base nf
    ·obtain ⟨j,hj⟩:=List.getElem?_of_mem hm
     rw [hτ.set j n hj] at hr
     cases hr
     obtain ⟨m,hm',rfl⟩:=AV.fY hi
     unfold atA at hm'
     cases ho:os[j]? with
     |none=>rw [ho] at hm';simp [AV.boxes] at hm'
     |some x=>
      rw [ho] at hm'
      have hz:x≠.zz:=fun e=>by subst e;simp [AV.boxes] at hm'
      exact (MP m ((hB.at_ j x ho hz).2.2.2.1 m hm')).2
    ·rw [hτ.old (.b n) (fun k hk e=>hm (by cases e;exact hk))] at hr
     exact age i (hh.named (.b n) av hr i hi)
  typed:=fun b k hb=>by
   unfold AF at hb
   by_cases bM:b < w.heap.size
   ·rw [if_pos bM] at hb
    rcases vx (β:=β) (τ:=τ) (ids:=ids) hh.typed hb with h |⟨cs,e,fr,h⟩
    ·exact hA.typed b k (by rw [hA.new b bM];exact h)
    ·have g1:w.heap[b]?=some (.cells cs e fr):=zG hh.typed _ _ h
     have g2:w'.heap[b]?=some (.cells cs e fr):=hA.typed b (.ln cs e fr) (by rw [hA.new _ bM];exact h)
     exact BK.sw (hh.typed b k hb) (by rw [g1,g2])
   ·rw [if_neg bM] at hb
    exact hA.typed b k hb
  old:=fun b hb=>by
   unfold AF
   rw [if_pos (Nat.lt_of_lt_of_le hb hh.gG)]
   exact hh.old b hb
  frame:=fun b hb hH hq=>by
   have bM:b < w.heap.size:=Nat.lt_of_lt_of_le hb hh.gG
   rw [←hh.frame b hb hH hq]
   have ho:=hh.old b hb
   cases hT:T b with
   |none=>
    refine hA.frame b bM (fun j hj e=>?_) (by rw [W8 hT];trivial)
    have hjl:ids[j]?=some ids[j]:=List.getElem?_eq_getElem hj
    rw [h2 j _ hjl] at e
    obtain ⟨n,hn⟩:=(hh.apart _ (sx _ (List.mem_of_getElem? hjl))).1
    rw [←e,hT] at hn
    cases hn
   |some k=>
    rw [hT] at ho
    rcases vx (β:=β) (τ:=τ) (ids:=ids) hh.typed hT with h |⟨cs,e,fr,h⟩
    ·refine hA.frame b bM (fun j hj e=>?_) ?_
     ·have hjl:ids[j]?=some ids[j]:=List.getElem?_eq_getElem hj
      rw [h2 j _ hjl] at e
      have hl:=sx _ (List.mem_of_getElem? hjl)
      rcases (hh.apart _ hl).2.2.2 with g1 |g1
      ·omega
      ·exact hH (e ▸ g1)
     ·rw [h]
      rw [←ho] at hq
      cases k<;>first |trivial |exact hq
    ·have g1:w.heap[b]?=some (.cells cs e fr):=zG hh.typed _ _ h
     have g2:w'.heap[b]?=some (.cells cs e fr):=hA.typed b (.ln cs e fr) (by rw [hA.new _ bM];exact h)
     rw [g1,g2]
  gG:=Nat.le_trans hh.gG hA.gG
  os:=hA.os.trans hh.os
  tape:=hA.tape.trans hh.tape
  output:=hA.output.trans hh.output
  qF:=hh.qF.mono zT },I1,MP⟩
end
end GL
end Go.Proofs.YtbfgjadbfjkcdaaGreatDoor
