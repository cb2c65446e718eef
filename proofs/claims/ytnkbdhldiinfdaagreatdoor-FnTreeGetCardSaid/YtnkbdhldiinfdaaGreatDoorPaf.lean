/- A drawn law returns true for every code (its row lists package variables, tied by the card): part 6. -/
import Derived.Laws.Tables
import Derived.Test.YtnkbdhldiinfdaaGreatDoorPae
set_option maxHeartbeats 20000000
set_option maxRecDepth 100000
set_option linter.all false
namespace Go.Proofs.YtnkbdhldiinfdaaGreatDoor
namespace GL
section
variable {P:Program}{N:Nat}{τ:St}
variable {d:Nat}{x y z:Operand}{t t' ty:TypeId}{pos:String}{af:Array Edge}{g:Option (Nat×Bool)}
theorem DW {m:Int}(h0:0≤m) (h1:m≤imax):(BitVec.ofInt 64 m).toNat=m.toNat:=by
 rw [BitVec.toNat_ofInt]
 congr 1
 exact Int.emod_eq_of_lt h0 (by simp only [imax] at h1;omega)
theorem abQ {op:BinOp}{m n:Int}{r:AV}(hr:(iop op m n).vF r) (w:World) (t:TypeId):∃v,r= .s v∧(∃u,v= .v u∨∃b,v= .q b∧u= .bool b)∧∃val,(binOp op t (.int .i64 m) (.int .i64 n)).run P w= .ok val w∧∀T β,v.rel T β val:=by
 cases op<;>simp only [iop] at hr<;>(try (exact hr.elim))
 case add=>
  obtain⟨hp,rfl⟩:=hr
  refine⟨_,rfl,⟨_,.inl rfl⟩,.int .i64 (m+n),?_,fun _ _=>rfl⟩
  have:=oQ hp.1 hp.2
  simp [binOp,Op.intArith,this]
 case sub=>
  obtain⟨hp,rfl⟩:=hr
  refine⟨_,rfl,⟨_,.inl rfl⟩,.int .i64 (m-n),?_,fun _ _=>rfl⟩
  have:=oQ hp.1 hp.2
  simp [binOp,Op.intArith,this]
 case mul=>
  obtain⟨hp,rfl⟩:=hr
  refine⟨_,rfl,⟨_,.inl rfl⟩,.int .i64 (m*n),?_,fun _ _=>rfl⟩
  have:=oQ hp.1 hp.2
  simp [binOp,Op.intArith,this]
 case quo=>
  obtain⟨⟨h1,h2,h3⟩,rfl⟩:=hr
  refine⟨_,rfl,⟨_,.inl rfl⟩,.int .i64 (m / n),?_,fun _ _=>rfl⟩
  have hd0:0≤m / n:=Int.ediv_nonneg h1 (by omega)
  have hd1:m / n≤m:=Int.ediv_le_self n h1
  have:=oQ (n:=m / n) (by simp only [gK];omega) (by omega)
  have ht:m.tdiv n=m / n:=Int.tdiv_eq_ediv_of_nonneg h1
  have hn:¬n=0:=by omega
  simp [binOp,Op.intDiv,hn,ht,this]
 case rem=>
  obtain⟨⟨h1,h2⟩,rfl⟩:=hr
  refine⟨_,rfl,⟨_,.inl rfl⟩,.int .i64 (m % n),?_,fun _ _=>rfl⟩
  have ht:m.tmod n=m % n:=Int.tmod_eq_emod_of_nonneg h1
  have hn:¬n=0:=by omega
  simp [binOp,Op.intDiv,hn,ht]
 case xor=>
  obtain⟨⟨h1,h2,h3,h4⟩,rfl⟩:=hr
  refine⟨_,rfl,⟨_,.inl rfl⟩,.int .i64 ((m.toNat ^^^ n.toNat:Nat):Int),?_,fun _ _=>rfl⟩
  have hx:m.toNat ^^^ n.toNat<2 ^ 63:=Nat.xor_lt_two_pow (by simp only [imax] at h3;omega) (by simp only [imax] at h4;omega)
  have hw:IntKind.i64.wrap ((m.toNat ^^^ n.toNat:Nat):Int)=((m.toNat ^^^ n.toNat:Nat):Int):=oQ (by simp only [gK];omega) (by simp only [imax];omega)
  have hb:(BitVec.ofInt 64 m ^^^ BitVec.ofInt 64 n).toNat=m.toNat ^^^ n.toNat:=by rw [BitVec.toNat_xor,DW h1 h3,DW h2 h4]
  simp only [binOp,Op.intBits]
  simp only [ne_eq,not_true_eq_false,if_false,Sem.run_pure]
  have hb':(BitVec.ofInt IntKind.i64.bits m ^^^ BitVec.ofInt IntKind.i64.bits n).toNat=m.toNat ^^^ n.toNat:=hb
  rw [hb',hw]
 all_goals
  cases hr
  refine⟨_,rfl,⟨_,.inr ⟨_,rfl,rfl⟩⟩,_,?_,fun _ _=>rfl⟩
  simp [binOp,Op.intCmp]
  try rfl
theorem aaE {op:BinOp}{m n:Int}{r:AV}(hr:(uop op m n).vF r) (w:World) (t:TypeId):∃v,r= .s v∧(∃u,v= .v u∨∃b,v= .q b∧u= .bool b)∧∃val,(binOp op t (.int .u8 m) (.int .u8 n)).run P w= .ok val w∧∀T β,v.rel T β val:=by
 cases op<;>simp only [uop] at hr<;>(try (exact hr.elim))
 case add=>
  obtain⟨hp,rfl⟩:=hr
  refine⟨_,rfl,⟨_,.inl rfl⟩,.int .u8 (m+n),?_,fun _ _=>rfl⟩
  have:=wrap_u8 hp.1 hp.2
  simp [binOp,Op.intArith,this]
 case sub=>
  obtain⟨hp,rfl⟩:=hr
  refine⟨_,rfl,⟨_,.inl rfl⟩,.int .u8 (m-n),?_,fun _ _=>rfl⟩
  have:=wrap_u8 hp.1 hp.2
  simp [binOp,Op.intArith,this]
 case mul=>
  obtain⟨hp,rfl⟩:=hr
  refine⟨_,rfl,⟨_,.inl rfl⟩,.int .u8 (m*n),?_,fun _ _=>rfl⟩
  have:=wrap_u8 hp.1 hp.2
  simp [binOp,Op.intArith,this]
 all_goals
  cases hr
  refine⟨_,rfl,⟨_,.inr ⟨_,rfl,rfl⟩⟩,_,?_,fun _ _=>rfl⟩
  simp [binOp,Op.intCmp]
  try rfl
theorem aaI {op:BinOp}{m n:ByteArray}{r:AV}(hr:(sop op m n).vF r) (w:World) (t:TypeId):∃v,r= .s v∧(∃u,v= .v u∨∃b,v= .q b∧u= .bool b)∧∃val,(binOp op t (.string m) (.string n)).run P w= .ok val w∧∀T β,v.rel T β val:=by
 cases op<;>simp only [sop] at hr<;>(try (exact hr.elim))
 case add=>
  obtain⟨hp,rfl⟩:=hr
  refine⟨_,rfl,⟨_,.inl rfl⟩,.string (m++n),?_,fun _ _=>rfl⟩
  have:=run_string_add_sum (P:=P) (w:=w) m n (by have h:=hp;simp only [imax] at h;omega)
  simp [binOp,this]
 case eql=>
  cases hr
  refine⟨_,rfl,⟨_,.inr ⟨_,rfl,rfl⟩⟩,_,?_,fun _ _=>rfl⟩
  simp [binOp,Op.stringOp,bytes_beq]
 case neq=>
  cases hr
  refine⟨_,rfl,⟨_,.inr ⟨_,rfl,rfl⟩⟩,_,?_,fun _ _=>rfl⟩
  simp only [binOp,Op.stringOp,bytes_beq]
  simp
 all_goals
  cases hr
  refine⟨_,rfl,⟨_,.inr ⟨_,rfl,rfl⟩⟩,_,?_,fun _ _=>rfl⟩
  simp [binOp,Op.stringOp]
  try rfl
theorem EL {op:BinOp}{c:Ctx}{T:bb}{β:Nat→Nat}{a:Act}{w:World}(hh:Holds N c T β τ a w) (v u:AV) (hv:v.rel T β (a.eval x)) (hu:u.rel T β (a.eval y)) (r:AV) (hr:(afl op v u).vF r):
  (∀i∈r.boxes,i∈v.boxes∨i∈u.boxes)∧∃val,(execOp a.eval ⟨some d,.binOp op t x y t',ty,pos,af,g⟩).run P w= .ok (.value val) w∧r.rel T β val:=by
  have fin:∀(v1 v2:Value),a.eval x=v1→a.eval y=v2→(eqGuard op t x y v1 v2).run P w= .ok () w→(∃v',r= .s v'∧(∃u,v'= .v u∨∃b,v'= .q b∧u= .bool b)∧∃val,(binOp op t v1 v2).run P w= .ok val w∧∀T β,v'.rel T β val)→
    (∀i∈r.boxes,i∈v.boxes∨i∈u.boxes)∧∃val,(execOp a.eval ⟨some d,.binOp op t x y t',ty,pos,af,g⟩).run P w= .ok (.value val) w∧r.rel T β val:=by
   rintro v1 v2 e1 e2 hg ⟨v',rfl,hu,val,fk,c6⟩
   refine⟨fun i hi=>?_,val,?_,c6 T β⟩
   ·obtain⟨u,rfl |⟨b,rfl,_⟩⟩:=hu<;>simp [AV.boxes,A0.boxes,SV.boxes] at hi
   ·simp [execOp,e1,e2,hg,fk]
  unfold afl at hr
  split at hr
  ·exact fin _ _ hv hu (by cases op<;>simp [eqGuard]) (abQ hr w t)
  ·exact fin _ _ hv hu (by cases op<;>simp [eqGuard]) (aaE hr w t)
  ·exact fin _ _ hv hu (by cases op<;>simp [eqGuard]) (aaI hr w t)
  ·exact hr.elim
theorem aj3 {op:BinOp}(hd:d<N):fv P N ⟨some d,.binOp op t x y t',ty,pos,af,g⟩ (bY x fun v=>bY y fun u=>.ret ((afl op v u).rs d)):=
 fv.DS rfl hd fun c T β τ a w hh v u hv hu r hr=>EL hh v u hv hu r hr
def ah7 (wr:Bool) (op:BinOp) (x y:AV):V1:=
 match wr with
 |false=>afl op x y
 |true=>match op,x,y with
  |.add,.o (.s (.v (.int .i64 m))),.o (.s (.v (.int .i64 n)))=>.go (.int (IntKind.i64.wrap (m+n)))
  |.sub,.o (.s (.v (.int .i64 m))),.o (.s (.v (.int .i64 n)))=>.go (.int (IntKind.i64.wrap (m-n)))
  |_,_,_=>afl op x y
theorem ail {wr:Bool}{op:BinOp}(hd:d<N):fv P N ⟨some d,.binOp op t x y t',ty,pos,af,g⟩ (bY x fun v=>bY y fun u=>.ret ((ah7 wr op v u).rs d)):=by
 cases wr with
 |false=>exact aj3 hd
 |true=>
  refine fv.DS rfl hd fun c T β τ a w hh v u hv hu r hr=>?_
  unfold ah7 at hr
  simp only at hr
  split at hr
  ·cases hr
   refine⟨adv _ _ _,.int .i64 _,?_,rfl⟩
   have e1:a.eval x=_:=hv
   have e2:a.eval y=_:=hu
   simp [execOp,e1,e2,eqGuard,binOp,Op.intArith]
  ·cases hr
   refine⟨adv _ _ _,.int .i64 _,?_,rfl⟩
   have e1:a.eval x=_:=hv
   have e2:a.eval y=_:=hu
   simp [execOp,e1,e2,eqGuard,binOp,Op.intArith]
  ·exact EL hh v u hv hu r hr
def ah8 (op:BinOp) (x y:AV):V1:=
 match asB x,asB y with
 |some m,some n=>match op with
  |.eql=>.go (.q (m==n))
  |.neq=>.go (.q (m !=n))
  |_=>.no
 |_,_=>.no
theorem aj4 {op:BinOp}(ht:P.underlying t=some .bool) (hd:d<N):fv P N ⟨some d,.binOp op t x y t',ty,pos,af,g⟩ (bY x fun v=>bY y fun u=>.ret ((ah8 op v u).rs d)):=
 fv.DS rfl hd fun c T β τ a w hh v u hv hu r hr=>by
  unfold ah8 at hr
  split at hr
  ·rename_i m n h1 h2
   have e1:=AL h1 hv
   have e2:=AL h2 hu
   split at hr
   ·cases hr
    refine⟨ZF _ _ _,.bool (m==n),?_,rfl⟩
    have:=run_eql_bool (P:=P) w t m n ht
    simp [execOp,e1,e2,eqGuard,this]
   ·cases hr
    refine⟨ZF _ _ _,.bool (m !=n),?_,rfl⟩
    have:=run_neq_bool (P:=P) w t m n ht
    simp [execOp,e1,e2,eqGuard,this]
    cases m<;>cases n<;>rfl
   ·exact hr.elim
  ·exact hr.elim
def FldsI (P:Program) (I:TypeId→Nat→Prop):List (String×TypeId×Nat)→Nat→Nat→Prop
 |[],k,n=>k=n
 | f :: fs, k, n => f.1 ≠ "_" ∧ f.2.2 = k ∧ ((P.underlying f.2.1 = some (.int .i64) ∧ Sh P f.2.1 = some (false, 1) ∧ FldsI P I fs (k + 1) n) ∨ ∃ m, Sh P f.2.1 = some (true, m) ∧ I f.2.1 m ∧ FldsI P I fs (k + m) n)
def IntsD (P:Program):Nat→TypeId→Nat→Prop
 |0,_,_=>False
 |d+1,t,n=>P.underlying t=some (.struct (P.fieldsOf t))∧P.stoodInHeld t=false∧∃L,(P.fieldsOf t).toList.map (fun f=>(f.name,f.type,f.offset))=L∧FldsI P (IntsD P d) L 0 n
theorem T7 {xs:Array Value}{l:List Int}(hx:xs.toList=l.map (Value.int .i64)) (k m:Nat):(xs.extract k (k+m)).toList=((l.drop k).take m).map (Value.int .i64):=by
 rw [Array.toList_extract,hx,List.extract_eq_take_drop,List.map_take,List.map_drop,ZG4]
theorem YV {P:Program}:∀{d:Nat}{t:TypeId}{n:Nat},IntsD P d t n→∀(w:World) (xs ys:Array Value) (l m:List Int),xs.toList=l.map (Value.int .i64)→ys.toList=m.map (Value.int .i64)→l.length=n→m.length=n→∀dd,d<dd→
  (Op.equalIn dd t (.agg xs) (.agg ys)).run P w= .ok (decide (l=m)) w
 |d+1,t,n,⟨hu,hh,L,hL,hF⟩,w,xs,ys,l,m,hx,hy,hl,hm,dd,hd=>by
  obtain⟨e,rfl⟩:∃e,dd=e+2:=⟨dd-2,by omega⟩
  rw [run_equalIn_struct (P:=P) w (e+1) t xs ys hu hh]
  have key:∀(fs:List Field) (L:List (String×TypeId×Nat)) (k:Nat),fs.map (fun f=>(f.name,f.type,f.offset))=L→FldsI P (IntsD P d) L k n→k≤n→(Op.eqFields (e+1) xs ys fs).run P w= .ok (decide (l.drop k=m.drop k)) w:=by
   intro fs
   induction fs with
   |nil=>
    intro L k hL hF hk
    cases hL
    have hk':k=n:=hF
    rw [List.drop_of_length_le (by omega),List.drop_of_length_le (by omega)]
    simp [Op.eqFields]
   |cons f fs ih=>
    intro L k hL hF hk
    cases hL
    obtain⟨h1,h2,hF⟩:=hF
    have h1 : f.name ≠ "_" := h1
    have h2:f.offset=k:=h2
    rcases hF with ⟨h3,h4,hF⟩ |⟨j,h4,h3,hF⟩
    ·have hkn:k+1≤n:=by
      rcases Nat.lt_or_ge n (k+1) with h |h
      ·exact absurd (ih _ (k+1) rfl hF) (fun _=>by
        have:∀(L:List (String×TypeId×Nat)) (k:Nat),FldsI P (IntsD P d) L k n→k≤n:=by
         intro L
         induction L with
         |nil=>intro k h;exact ZA8 h
         |cons g L ih=>
          intro k h
          rcases h.2.2 with h |⟨j,_,_,h⟩
          ·have:=ih _ h.2.2;omega
          ·have:=ih _ h;omega
        have:=this _ _ hF;omega)
      ·exact h
     have hkl:k<l.length:=by omega
     have hkm:k<m.length:=by omega
     have p1:(part f.type xs f.offset).run P w= .ok (.int .i64 l[k]) w:=by
      have:xs[f.offset]?=some (.int .i64 l[k]):=by
       rw [h2,←Array.getElem?_toList,hx];simp [hkl]
      simp [part,(jJ h4 w).1,this]
     have p2:(part f.type ys f.offset).run P w= .ok (.int .i64 m[k]) w:=by
      have:ys[f.offset]?=some (.int .i64 m[k]):=by
       rw [h2,←Array.getElem?_toList,hy];simp [hkm]
      simp [part,(jJ h4 w).1,this]
     have p3:=run_equalIn_int (P:=P) w e f.type .i64 .i64 l[k] m[k] h3
     have p4:=ih _ (k+1) rfl hF hkn
     have e1:l.drop k=l[k]::l.drop (k+1):=List.drop_eq_getElem_cons hkl
     have e2:m.drop k=m[k]::m.drop (k+1):=List.drop_eq_getElem_cons hkm
     have hg:decide (l.drop k=m.drop k)=((l[k]==m[k])&&decide (l.drop (k+1)=m.drop (k+1))):=by
      rw [Bool.eq_iff_iff]
      simp only [decide_eq_true_eq,ZA9,beq_iff_eq]
      rw [e1,e2]
      exact List.cons_eq_cons
     rw [hg]
     simp only [Op.eqFields,h1,ne_eq,not_false_eq_true,if_true,Sem.run_bind,p1,p2,p3,Result.andThen_ok]
     cases l[k]==m[k] with
     |true=>simp [p4]
     |false=>simp
    ·have hkn:k+j≤n:=by
      have:∀(L:List (String×TypeId×Nat)) (k:Nat),FldsI P (IntsD P d) L k n→k≤n:=by
       intro L
       induction L with
       |nil=>intro k h;exact ZA8 h
       |cons g L ih=>
        intro k h
        rcases h.2.2 with h |⟨j,_,_,h⟩
        ·have:=ih _ h.2.2;omega
        ·have:=ih _ h;omega
      exact this _ _ hF
     have p1:(part f.type xs f.offset).run P w= .ok (.agg (xs.extract k (k+j))) w:=by
      simp [part,(jJ h4 w).1,(jJ h4 w).2,h2]
     have p2:(part f.type ys f.offset).run P w= .ok (.agg (ys.extract k (k+j))) w:=by
      simp [part,(jJ h4 w).1,(jJ h4 w).2,h2]
     have p3:=YV h3 w _ _ _ _ (T7 hx k j) (T7 hy k j) (by rw [ZB9,ZC8];omega) (by rw [ZB9,ZC8];omega) (e+1) (by omega)
     have p4:=ih _ (k+j) rfl hF hkn
     have hg:decide (l.drop k=m.drop k)=(decide ((l.drop k).take j=(m.drop k).take j)&&decide (l.drop (k+j)=m.drop (k+j))):=by
      rw [Bool.eq_iff_iff]
      simp only [decide_eq_true_eq,ZA9]
      constructor
      ·intro h
       rw [←ZF9,←ZF9,h];exact⟨rfl,rfl⟩
      ·rintro⟨h,h'⟩
       rw [←ZG1 j (l.drop k),←ZG1 j (m.drop k),h,ZF9,ZF9,h']
     rw [hg]
     simp only [Op.eqFields,h1,ne_eq,not_false_eq_true,if_true,Sem.run_bind,p1,p2,p3,Result.andThen_ok]
     cases decide ((l.drop k).take j=(m.drop k).take j) with
     |true=>simp [p4]
     |false=>simp
  have:=key (P.fieldsOf t).toList L 0 hL hF (ZA7 _)
  simpa using this
structure aj7 (P:Program) (t:TypeId) (n:Nat):Prop where
 ints:∃d,d≤100∧IntsD P d t n
 guard:P.eqGuardType P.depth t=false
def ru:List SV→Bool
 |[]=>true
 |.v (.int .i64 _)::l=>ru l
 |_::_=>false
theorem y9:∀{l:List SV},ru l=true→∀x∈l,∃n,x= .v (.int .i64 n)
 |[],_,x,h=>by cases h
 |y::l,h,x,hx=>by
  unfold ru at h
  split at h
  ·rename_i heq;cases heq
  ·rename_i n l' heq
   cases heq
   rcases ZB8.1 hx with rfl |hx
   ·exact⟨n,rfl⟩
   ·exact y9 h x hx
  ·cases h
theorem T9 {T:bb}{β:Nat→Nat}:∀{l m:List SV}{xs ys:List Value}{b:Bool},eqL l m=some b→ru l=true→dN T β l xs→dN T β m ys→
  ∃p q:List Int,xs=p.map (Value.int .i64)∧ys=q.map (Value.int .i64)∧p.length=l.length∧q.length=l.length∧b=decide (p=q)
 |[],[],[],[],b,h,_,_,_=>by cases h;exact⟨[],[],rfl,rfl,rfl,rfl,by simp⟩
 |[],[],_::_,_,_,_,_,h,_=>h.elim
 |[],[],[],_::_,_,_,_,_,h=>h.elim
 |[],_::_,_,_,_,h,_,_,_=>by cases h
 |[x],[],_,_,_,h,_,_,_=>by cases h
 |x::x'::l,[],_,_,_,h,_,_,_=>by cases h
 |x::l,y::m,[],_,_,_,_,h,_=>h.elim
 |x::l,y::m,_::_,[],_,_,_,_,h=>h.elim
 |[x],[y],[v],[u],b,h,ha,h1,h2=>by
  obtain⟨n,rfl⟩:=y9 ha x (by simp)
  have h':eqC (.v (.int .i64 n)) y=some b:=h
  unfold eqC at h'
  split at h'
  ·rename_i k k' e1
   cases e1;cases h'
   have e1:v= .int .i64 n:=h1.1
   have e2:u= .int .i64 k':=h2.1
   exact⟨[n],[k'],by simp [e1],by simp [e2],rfl,rfl,by simp⟩
  ·rename_i e1;cases e1
  ·cases h'
 |[x],[y],_::_::_,_,_,_,_,h,_=>h.2.elim
 |[x],[y],[_],_::_::_,_,_,_,_,h=>h.2.elim
 |[x],y::y'::m,_,_,b,h,_,_,_=>by
  simp only [eqL] at h
  split at h
  ·rename_i _ q _ hq;cases hq
  ·cases h
 |x::x'::l,[y],_,_,b,h,_,_,_=>by
  simp only [eqL] at h
  split at h
  ·rename_i _ q _ hq;cases l<;>cases hq
  ·cases h
 |x::x'::l,y::y'::m,v::xs,u::ys,b,h,ha,h1,h2=>by
  obtain⟨n,rfl⟩:=y9 ha x (by simp)
  simp only [eqL] at h
  split at h
  ·rename_i p0 q0 hp hq
   cases h
   have ha':ru (x'::l)=true:=by simpa [ru] using ha
   obtain⟨p,q,e1,e2,l1,l2,e3⟩:=T9 hq ha' h1.2 h2.2
   unfold eqC at hp
   split at hp
   ·rename_i k k' e4
    cases e4;cases hp
    have f1:v= .int .i64 n:=h1.1
    have f2:u= .int .i64 k':=h2.1
    refine⟨n::p,k'::q,by simp [f1,e1],by simp [f2,e2],by simp [l1],by simp [l2],?_⟩
    rw [e3]
    by_cases hx:n=k'<;>by_cases hy:p=q<;>simp [hx,hy]
   ·rename_i e4;cases e4
   ·cases hp
  ·cases h
def ahh (n:Nat) (op:BinOp) (x y:AV):V1:=
 match x,y with
 |.o (.a l),.o (.a m)=>bif ru l&&Nat.beq l.length n then (match eqL l m with
  |some b=>(match op with
   |.eql=>.go (.q b)
   |.neq=>.go (.q (!b))
   |_=>.no)
  |none=>.no) else .no
 |_,_=>.no
theorem ajU {n:Nat}{op:BinOp}(hI:aj7 P t n) (hd:d<N):fv P N ⟨some d,.binOp op t x y t',ty,pos,af,g⟩ (bY x fun v=>bY y fun u=>.ret ((ahh n op v u).rs d)):=
 fv.DS rfl hd fun c T β τ a w hh v u hv hu r hr=>by
  unfold ahh at hr
  split at hr
  ·rename_i l m
   cases hb:ru l&&Nat.beq l.length n with
   |false=>rw [hb] at hr;exact hr.elim
   |true=>
    rw [hb] at hr
    simp only [ZA9] at hb
    have hl:l.length=n:=by simpa using hb.2
    simp only [cond_true] at hr
    split at hr
    ·rename_i b he
     obtain⟨xs,e1,h1⟩:=hv
     obtain⟨ys,e2,h2⟩:=hu
     obtain⟨p,q,f1,f2,l1,l2,rfl⟩:=T9 he hb.1 h1 h2
     have hg:=run_eqGuard_agg (P:=P) w op t x y xs ys hI.guard
     obtain⟨dp,hdp,hD⟩:=hI.ints
     have hq:=YV hD w xs ys p q f1 f2 (by omega) (by omega) 10000 (by omega)
     split at hr
     ·cases hr
      refine⟨ZF _ _ _,.bool (decide (p=q)),?_,rfl⟩
      have:=run_eql_struct (P:=P) w t xs ys
      rw [hq] at this
      simp [execOp,e1,e2,hg,this]
     ·cases hr
      refine⟨ZF _ _ _,.bool (!decide (p=q)),?_,rfl⟩
      have:=run_neq_struct (P:=P) w t xs ys
      rw [hq] at this
      simp [execOp,e1,e2,hg,this]
     ·exact hr.elim
    ·exact hr.elim
  ·exact hr.elim
def ahy (x:AV):V1:=
 match asB x with
 |some b=>.go (.q (!b))
 |none=>.no
theorem ajV (hd:d<N):fv P N ⟨some d,.unOp .not t x,ty,pos,af,g⟩ (bY x fun v=>.ret ((ahy v).rs d)):=
 fv.uu rfl hd fun c T β τ a w hh v hv r hr=>by
  unfold ahy at hr
  split at hr
  ·rename_i b hb
   cases hr
   have e:=AL hb hv
   exact⟨adu _ _,.bool (!b),by simp [execOp,e,Op.unary],rfl⟩
  ·exact hr.elim
def ahD:AV→V1
 |.o (.s (.v (.int .i64 n)))=>.mZ (gK<n∧n≤imax) (.int (-n))
 |_=>.no
theorem ajX (hd:d<N):fv P N ⟨some d,.unOp .neg t x,ty,pos,af,g⟩ (bY x fun v=>.ret ((ahD v).rs d)):=
 fv.uu rfl hd fun c T β τ a w hh v hv r hr=>by
  unfold ahD at hr
  split at hr
  ·rename_i n
   obtain⟨h1,rfl⟩:=hr
   have e:a.eval x= .int .i64 n:=hv
   refine⟨nob _ _,.int .i64 (-n),?_,rfl⟩
   have:=oQ (n:= -n) (by have:=h1.2;simp only [gK,imax] at this ⊢;omega) (by have:=h1.1;simp only [gK,imax] at this ⊢;omega)
   simp [execOp,e,Op.unary,Op.intArith,this]
  ·exact hr.elim
end
end GL
namespace GL
section
variable {P:Program}{N:Nat}{τ:St}
variable {d:Nat}{x y z:Operand}{t u ty:TypeId}{pos:String}{af:Array Edge}{g:Option (Nat×Bool)}
def ae2 (k:IntKind):AV→V1
 |.o (.s (.v (.int _ n)))=>match k with
  |.i64=>.mZ (gK≤n∧n≤imax) (.int n)
  |.u8=>.mZ (0≤n∧n≤255) (.byte n)
  |_=>.no
 |_=>.no
theorem aij (k:IntKind) (ht:(P.underlying t).isSome=true) (hu:P.underlying u=some (.int k)) (hd:d<N):fv P N ⟨some d,.convert t u x,ty,pos,af,g⟩ (bY x fun v=>.ret ((ae2 k v).rs d)):=
 fv.uu rfl hd fun c T β τ a w hh v hv r hr=>by
  unfold ae2 at hr
  split at hr
  ·rename_i k' n
   obtain⟨dd,hdd⟩:=Option.isSome_iff_exists.1 ht
   have e:a.eval x= .int k' n:=hv
   split at hr
   ·obtain⟨hp,rfl⟩:=hr
    have hw:=oQ hp.1 hp.2
    exact⟨nob _ _,.int .i64 n,by simp [execOp,e,convert,run_underlying hdd,run_underlying hu,Conv.intToInt,hw],rfl⟩
   ·obtain⟨hp,rfl⟩:=hr
    have hw:=wrap_u8 hp.1 hp.2
    exact⟨nob _ _,.int .u8 n,by simp [execOp,e,convert,run_underlying hdd,run_underlying hu,Conv.intToInt,hw],rfl⟩
   ·exact hr.elim
  ·exact hr.elim
def XT (off:Nat):AV→V1
 |.o (.s (.bp i o))=>.go (.s (.bp i (o+off)))
 |.o (.s (.xp i sz k j))=>bif Nat.blt (j+off) sz then .go (.s (.xp i sz k (j+off))) else .no
 |.o (.s (.ep ek j))=>bif Nat.blt (j+off) ek.length then .go (.s (.ep ek (j+off))) else .no
 |.o (.s (.vp ek x j))=>bif Nat.blt (j+off) ek.length then .go (.s (.vp ek x (j+off))) else .no
 |.o (.s (.vs l j))=>.go (.s (.vs l (j+off)))
 |_=>.no
def kn (P:Program) (t:TypeId) (f:Nat):Option (Nat×Bool×Nat):=
 match P.underlying t with
 |some (.struct fs)=>match fs[f]? with
  |some fd=>match Sh P fd.type with
   |some (b,n)=>if n=0 then none else some (fd.offset,b,n)
   |none=>none
  |none=>none
 |_=>none
theorem zX {f off n:Nat}{b:Bool}(h:kn P t f=some (off,b,n)):∃fs fd,P.underlying t=some (.struct fs)∧fs[f]?=some fd∧fd.offset=off∧Sh P fd.type=some (b,n)∧n≠0:=by
 unfold kn at h
 split at h
 ·rename_i fs hu
  split at h
  ·rename_i fd hf
   split at h
   ·rename_i b' n' hS
    split at h
    ·cases h
    ·rename_i hz;cases h;exact⟨fs,fd,hu,hf,rfl,hS,hz⟩
   ·cases h
  ·cases h
 ·cases h
theorem nF {f off n:Nat}{b:Bool}(h:kn P t f=some (off,b,n)) (ad:Addr) (w:World):(Instr.fieldAt t (.pointer (some ad)) f).run P w= .ok (.pointer (some (ad.add off))) w:=by
 obtain⟨fs,fd,hu,hf,rfl,hS,hz⟩:=zX h
 have h2:=(jJ hS w).2
 simp [Instr.fieldAt,run_underlying hu,hf,Instr.sureAddr,fieldPlace,h2,hz]
theorem mc {m n:Nat}:Nat.blt m n=true↔m<n:=by simp [Nat.blt_eq]
theorem agp {off n:Nat}{b:Bool}{f:Nat}(h:kn P t f=some (off,b,n)) (hd:d<N):fv P N ⟨some d,.fieldAddr t x f,ty,pos,af,g⟩ (bY x fun v=>.ret ((XT off v).rs d)):=
 fv.uu rfl hd fun c T β τ a w hh v hv r hr=>by
  unfold XT at hr
  split at hr
  ·rename_i i o
   cases hr
   have e:a.eval x= .pointer (some ⟨β i,o,none⟩):=hv
   refine⟨fun k hk=>hk,.pointer (some ⟨β i,o+off,none⟩),?_,rfl⟩
   have:=nF (P:=P) h ⟨β i,o,none⟩ w
   rw [ga] at this
   simp [execOp,e,this]
  ·rename_i i sz k j
   cases hb:Nat.blt (j+off) sz with
   |false=>rw [hb] at hr;exact hr.elim
   |true=>
    rw [hb] at hr;cases hr
    obtain⟨e,_⟩:=hv
    refine⟨fun k hk=>hk,.pointer (some ⟨β i,k*sz+(j+off),none⟩),?_,rfl,mc.1 hb⟩
    have:=nF (P:=P) h ⟨β i,k*sz+j,none⟩ w
    rw [ga] at this
    simp [execOp,e,this,ZF7]
  ·rename_i ek j
   cases hb:Nat.blt (j+off) ek.length with
   |false=>rw [hb] at hr;exact hr.elim
   |true=>
    rw [hb] at hr;cases hr
    obtain⟨b,o,n,e,hT,ho,hj⟩:=hv
    refine⟨fun k hk=>hk,.pointer (some ⟨b,o*ek.length+(j+off),none⟩),?_,b,o,n,rfl,hT,ho,mc.1 hb⟩
    have:=nF (P:=P) h ⟨b,o*ek.length+j,none⟩ w
    rw [ga] at this
    simp [execOp,e,this,ZF7]
  ·rename_i ek rec j
   cases hb:Nat.blt (j+off) ek.length with
   |false=>rw [hb] at hr;exact hr.elim
   |true=>
    rw [hb] at hr;cases hr
    obtain⟨b,o,cs,e,hj,hT⟩:=hv
    refine⟨fun k hk=>hk,.pointer (some ⟨b,o+(j+off),none⟩),?_,b,o,cs,rfl,mc.1 hb,hT⟩
    have:=nF (P:=P) h ⟨b,o+j,none⟩ w
    rw [ga] at this
    simp [execOp,e,this,ZF7]
  ·rename_i l j
   cases hr
   obtain⟨b,cs,e,h2⟩:=hv
   refine⟨fun k hk=>hk,.pointer (some ⟨b,j+off,none⟩),?_,b,cs,rfl,h2⟩
   have:=nF (P:=P) h ⟨b,j,none⟩ w
   rw [ga] at this
   simp [execOp,e,this]
  ·exact hr.elim
def XK (off:Nat) (b:Bool) (n:Nat):AV→V1
 |.o (.a l)=>match b with
  |true=>bif Nat.ble (off+n) l.length then .go (.a ((l.drop off).take n)) else .no
  |false=>match l[off]? with
   |some y=>.go (.s y)
   |none=>.no
 |_=>.no
theorem nj {i o n:Nat}{l:List SV}(h:i∈cc ((l.drop o).take n)):i∈cc l:=by
 rw [gJ] at h ⊢
 obtain⟨x,hx,hi⟩:=h
 exact⟨x,ZF2 (ZE6 hx),hi⟩
theorem ago {off n:Nat}{b:Bool}{f:Nat}(h:kn P t f=some (off,b,n)) (hd:d<N):fv P N ⟨some d,.field t x f,ty,pos,af,g⟩ (bY x fun v=>.ret ((XK off b n v).rs d)):=
 fv.uu rfl hd fun c T β τ a w hh v hv r hr=>by
  obtain⟨fs,fd,hu,hf,rfl,hS,hz⟩:=zX h
  obtain⟨h1,h2⟩:=jJ hS w
  unfold XK at hr
  split at hr
  ·rename_i l
   obtain⟨cs,e,hl⟩:=hv
   have hlen:=jj hl
   split at hr
   ·cases hb:Nat.ble (fd.offset+n) l.length with
    |false=>rw [hb] at hr;exact hr.elim
    |true=>
     rw [hb] at hr;cases hr
     refine⟨fun i hi=>nj hi,.agg (cs.extract fd.offset (fd.offset+n)),?_,_,rfl,?_⟩
     ·simp [execOp,e,Instr.field,run_underlying hu,hf,asAgg,part,h1,h2]
     ·have:=wz n (wA fd.offset hl)
      simpa [Array.toList_extract,List.extract_eq_take_drop] using this
   ·split at hr
    ·rename_i y hy
     cases hr
     obtain⟨v,hv,hr⟩:=qU hl hy
     refine⟨fun i hi=>gJ.2 ⟨y,ZB6 hy,hi⟩,v,?_,hr⟩
     have hv':cs[fd.offset]?=some v:=by simpa using hv
     simp [execOp,e,Instr.field,run_underlying hu,hf,asAgg,part,h1,hv']
    ·exact hr.elim
  ·exact hr.elim
def JK (i:Nat):AV→V1
 |.t l=>match l[i]? with
  |some y=>.go (.o y)
  |none=>.no
 |_=>.no
theorem acd {i:Nat}(hd:d<N):fv P N ⟨some d,.extract x i,ty,pos,af,g⟩ (bY x fun v=>.ret ((JK i v).rs d)):=
 fv.uu rfl hd fun c T β τ a w hh v hv r hr=>by
  unfold JK at hr
  split at hr
  ·rename_i l
   split at hr
   ·rename_i z hz
    cases hr
    obtain⟨vs,e,c6⟩:=hv
    obtain⟨v,hvi,hr⟩:=YZ c6 hz
    refine⟨fun k hk=>HY.2 ⟨z,ZB6 hz,hk⟩,v,?_,hr⟩
    have akO:vs[i]?=some v:=by simpa using hvi
    simp [execOp,e,Instr.extract,akO]
   ·exact hr.elim
  ·exact hr.elim
def rL (P:Program) (t:TypeId):Option Nat:=
 match P.underlying t with
 |some (.slice e)=>(P.info? e).map (·.size)
 |_=>none
theorem tU {n:Nat}(h:rL P t=some n):∃e,P.underlying t=some (.slice e)∧∀w,(sizeOf e).run P w= .ok n w:=by
 unfold rL at h
 split at h
 ·rename_i e he
  obtain⟨i,hi,rfl⟩:=Option.map_eq_some_iff.1 h
  exact⟨e,he,fun w=>by simp [sizeOf,typeInfo,hi]⟩
 ·cases h
def CP.zero:(c:CP)→c.Ty
 |.i64=>(0:Int)
 |.row=>(0:Int)
 |.u8=>(0:Int)
 |.str _=>ByteArray.empty
 |.bool=>false
def EK.zero:(ek:List CP)→EK.Ty ek
 |[]=>()
 |[c]=>c.zero
 |c::d::l=>(c.zero,EK.zero (d::l))
def nth (ek:EK) (l:List (EK.Ty ek)) (k:Nat):EK.Ty ek:=match l[k]? with
 |some x=>x
 |none=>EK.zero ek
theorem oD {ek:EK}{l:List (EK.Ty ek)}{k:Nat}(h:k<l.length):l[k]?=some (nth ek l k):=by
 unfold nth
 rw [ZB1 h]
def agv:Nat→Nat→Nat
 |0,k=>k
 |o+1,k=>o+1+k
theorem agu (o k:Nat):agv o k=o+k:=by cases o<;>simp [agv]
def PL (sz:Nat) (x y:AV):V1:=
 match x,y with
 |.o (.s (.sl ek len)),.o (.s (.v (.int .i64 n)))=>bif Nat.beq ek.length sz&&Nat.blt 0 sz then .mZ (0≤n∧n<len) (.s (.ep ek 0)) else .no
 |.o (.s (.vw ek l)),.o (.s (.v (.int .i64 n)))=>bif Nat.beq ek.length sz&&Nat.blt 0 sz then .mZ (0≤n∧n<l.length) (.s (.vp ek (nth ek l n.toNat) 0)) else .no
 |.o (.s (.vz ek l)),.o (.s (.v (.int .i64 n)))=>bif Nat.beq ek.length sz&&Nat.blt 0 sz then .mZ (0≤n∧n<l.length) (.s (.vp ek (nth ek l n.toNat) 0)) else .no
 |.o (.s (.xs i sz' o m)),.o (.s (.v (.int .i64 n)))=>bif Nat.beq sz' sz&&Nat.blt 0 sz then .mZ (0≤n∧n<m) (.s (.xp i sz' (agv o n.toNat) 0)) else .no
 |_,_=>.no
theorem qS {e:TypeId}{sz:Nat}(he:P.underlying t=some (.slice e)) (dj:∀w,(sizeOf e).run P w= .ok sz w) {b o len cap:Nat}{n:Int}(h0:0≤n) (h1:n<len) (w:World):
  (Instr.indexAt t (.slice (some ⟨b,o,none⟩) len cap) (.int .i64 n)).run P w= .ok (.pointer (some ⟨b,o+n.toNat*sz,none⟩)) w:=by
 simp [Instr.indexAt,asIntOf,run_underlying he,h0,h1,dj,ga]
theorem E3 {cs:Array Value}{o:Nat}{ek:EK}{l:List (EK.Ty ek)}(h:win cs o (flat ek l)) {k:Nat}(hk:k<l.length):win cs (o+k*ek.length) (EK.cells ek (nth ek l k)):=by
 intro j v hj
 have bU:j<ek.length:=by
  have:=(ZC0.1 hj).1
  rwa [EK.bK] at this
 rw [←TY ek l k j _ (oD hk) bU] at hj
 rw [ZF7]
 exact h _ _ hj
theorem aaw {sz:Nat}(h:rL P t=some sz) (hd:d<N):fv P N ⟨some d,.indexAddr t x y,ty,pos,af,g⟩ (bY x fun v=>bY y fun u=>.ret ((PL sz v u).rs d)):=
 fv.DS rfl hd fun c T β τ a w hh v u hv hu r hr=>by
  obtain⟨e,he,dj⟩:=tU h
  unfold PL at hr
  split at hr
  ·rename_i ek len n
   cases hb:Nat.beq ek.length sz&&Nat.blt 0 sz with
   |false=>rw [hb] at hr;exact hr.elim
   |true=>
    rw [hb] at hr
    obtain⟨⟨h0,h1⟩,rfl⟩:=hr
    simp only [ZA9] at hb
    have hs:ek.length=sz:=by simpa using hb.1
    have oU:=mc.1 hb.2
    have e2:a.eval y= .int .i64 n:=hu
    rcases hv with ⟨hl,_⟩ |⟨b,o,cap,m,e1,hlc,hT,hle⟩
    ·subst hl;omega
    ·refine⟨fun k hk=>by simp [AV.boxes,A0.boxes,SV.boxes] at hk,.pointer (some ⟨b,o*ek.length+n.toNat*sz,none⟩),?_,b,o+n.toNat,m,?_,hT,by omega,by omega⟩
     ·have:=qS (P:=P) he dj (b:=b) (o:=o*ek.length) (len:=len) (cap:=cap) h0 h1 w
      simp [execOp,e1,e2,this]
     ·rw [←hs,ZE3,Nat.add_zero]
  ·rename_i ek l n
   cases hb:Nat.beq ek.length sz&&Nat.blt 0 sz with
   |false=>rw [hb] at hr;exact hr.elim
   |true=>
    rw [hb] at hr
    obtain⟨⟨h0,h1⟩,rfl⟩:=hr
    simp only [ZA9] at hb
    have hs:ek.length=sz:=by simpa using hb.1
    have oU:=mc.1 hb.2
    have e2:a.eval y= .int .i64 n:=hu
    rcases hv with ⟨hl,_⟩ |⟨b,o,cap,cs,te,fr,e1,hlc,hT,hw⟩
    ·subst hl;simp at h1;omega
    ·refine⟨fun k hk=>by simp [AV.boxes,A0.boxes,SV.boxes] at hk,.pointer (some ⟨b,o+n.toNat*sz,none⟩),?_,b,o+n.toNat*sz,cs,rfl,by omega,.inl ⟨te,fr,hT⟩,?_⟩
     ·have:=qS (P:=P) he dj (b:=b) (o:=o) (len:=l.length) (cap:=cap) h0 h1 w
      simp [execOp,e1,e2,this]
     ·rw [←hs];exact E3 hw (by omega)
  ·rename_i ek l n
   cases hb:Nat.beq ek.length sz&&Nat.blt 0 sz with
   |false=>rw [hb] at hr;exact hr.elim
   |true=>
    rw [hb] at hr
    obtain⟨⟨h0,h1⟩,rfl⟩:=hr
    simp only [ZA9] at hb
    have hs:ek.length=sz:=by simpa using hb.1
    have oU:=mc.1 hb.2
    have e2:a.eval y= .int .i64 n:=hu
    rcases hv with ⟨hl,_⟩ |⟨b,o,cap,cs,e1,hlc,hT,hw⟩
    ·subst hl;simp at h1;omega
    ·refine⟨fun k hk=>by simp [AV.boxes,A0.boxes,SV.boxes] at hk,.pointer (some ⟨b,o+n.toNat*sz,none⟩),?_,b,o+n.toNat*sz,cs,rfl,by omega,hT,?_⟩
     ·have:=qS (P:=P) he dj (b:=b) (o:=o) (len:=l.length) (cap:=cap) h0 h1 w
      simp [execOp,e1,e2,this]
     ·rw [←hs];exact E3 hw (by omega)
  ·rename_i i sz' o m n
   cases hb:Nat.beq sz' sz&&Nat.blt 0 sz with
   |false=>rw [hb] at hr;exact hr.elim
   |true=>
    rw [hb] at hr
    obtain⟨⟨h0,h1⟩,rfl⟩:=hr
    simp only [ZA9] at hb
    have hs:sz'=sz:=by simpa using hb.1
    have oU:=mc.1 hb.2
    have e2:a.eval y= .int .i64 n:=hu
    rcases hv with ⟨hl,_⟩ |⟨cap,k,e1,hlc,hT,hle⟩
    ·subst hl;omega
    ·rw [agu]
     refine⟨fun k hk=>.inl hk,.pointer (some ⟨β i,o*sz'+n.toNat*sz,none⟩),?_,?_,by omega⟩
     ·have:=qS (P:=P) he dj (b:=β i) (o:=o*sz') (len:=m) (cap:=cap) h0 h1 w
      simp [execOp,e1,e2,this]
     ·rw [hs,ZE3,Nat.add_zero]
  ·exact hr.elim
def bL (s:ByteArray) (k:Nat):Int:=match s[k]? with
 |some b=>b.toNat
 |none=>0
theorem xf (s:ByteArray) (k:Nat):0≤bL s k∧bL s k≤255:=by
 unfold bL
 split
 ·rename_i b _;have:=b.toNat_lt;omega
 ·omega
def XE (x y:AV):V1:=
 match x,y with
 |.o (.s (.v (.string s))),.o (.s (.v (.int .i64 n)))=>.mZ (0≤n∧n<s.size) (.byte (bL s n.toNat))
 |_,_=>.no
theorem agn (h:P.underlying t=some .string) (hd:d<N):fv P N ⟨some d,.index t x y,ty,pos,af,g⟩ (bY x fun v=>bY y fun u=>.ret ((XE v u).rs d)):=
 fv.DS rfl hd fun c T β τ a w hh v u hv hu r hr=>by
  unfold XE at hr
  split at hr
  ·rename_i s n
   obtain⟨⟨h0,h1⟩,rfl⟩:=hr
   have e1:a.eval x= .string s:=hv
   have e2:a.eval y= .int .i64 n:=hu
   have bU:n.toNat<s.size:=by omega
   have hs:s[n.toNat]?=some s[n.toNat]:=by simp [bU]
   refine⟨adv _ _ _,.int .u8 (bL s n.toNat),?_,rfl⟩
   have hb:bL s n.toNat=s[n.toNat].toNat:=by unfold bL;rw [hs]
   rw [hb]
   simp [execOp,e1,e2,Instr.index,asIntOf,run_underlying h,h0,hs]
  ·exact hr.elim
def S3 (strs:Bool):AV→V1
 |.o (.s (.v (.string s)))=>match strs with
  |true=>.go (.int (s.size:Int))
  |false=>.no
 |.o (.s (.sl _ n))=>match strs with
  |false=>.go (.int (n:Int))
  |true=>.no
 |.o (.s (.vw _ l))=>match strs with
  |false=>.go (.int (l.length:Int))
  |true=>.no
 |.o (.s (.vz _ l))=>match strs with
  |false=>.go (.int (l.length:Int))
  |true=>.no
 |.o (.s (.xs _ _ _ m))=>match strs with
  |false=>.go (.int (m:Int))
  |true=>.no
 |.o (.s (.v (.slice none 0 0)))=>match strs with
  |false=>.go (.int 0)
  |true=>.no
 |_=>.no
theorem aif (ht:P.underlying t=some .string) (hd:d<N):fv P N ⟨some d,.call ⟨.builtin .len,#[x],#[t]⟩,ty,pos,af,g⟩ (bY x fun v=>.ret ((S3 true v).rs d)):=
 fv.uu rfl hd fun c T β τ a w hh v hv r hr=>by
  unfold S3 at hr
  split at hr
  ·rename_i s
   cases hr
   have e:a.eval x= .string s:=hv
   exact⟨nob _ _,.int .i64 s.size,by simp [execOp,resolve,invoke,builtin,Builtin.len_,e,run_underlying ht,goInt],rfl⟩
  all_goals exact hr.elim
theorem X9 {n:Nat}(ht:rL P t=some n) (hd:d<N):fv P N ⟨some d,.call ⟨.builtin .len,#[x],#[t]⟩,ty,pos,af,g⟩ (bY x fun v=>.ret ((S3 false v).rs d)):=
 fv.uu rfl hd fun c T β τ a w hh v hv r hr=>by
  obtain⟨e,he,_⟩:=tU ht
  have fin:∀(p:Option Addr) (len cap:Nat),a.eval x= .slice p len cap→(execOp a.eval ⟨some d,.call ⟨.builtin .len,#[x],#[t]⟩,ty,pos,af,g⟩).run P w= .ok (.value (.int .i64 len)) w:=fun p len cap e1=>by
   simp [execOp,resolve,invoke,builtin,Builtin.len_,e1,run_underlying he,goInt]
  unfold S3 at hr
  split at hr
  ·exact hr.elim
  ·rename_i ek len
   cases hr
   rcases hv with ⟨hl,p,e1⟩ |⟨b,o,cap,m,e1,_⟩
   ·subst hl;exact⟨nob _ _,_,fin _ _ _ e1,rfl⟩
   ·exact⟨nob _ _,_,fin _ _ _ e1,rfl⟩
  ·rename_i ek l
   cases hr
   rcases hv with ⟨hl,p,cap,e1⟩ |⟨b,o,cap,cs,te,fr,e1,_⟩
   ·subst hl;exact⟨nob _ _,_,fin _ _ _ e1,rfl⟩
   ·exact⟨nob _ _,_,fin _ _ _ e1,rfl⟩
  ·rename_i ek l
   cases hr
   rcases hv with ⟨hl,p,cap,e1⟩ |⟨b,o,cap,cs,e1,_⟩
   ·subst hl;exact⟨nob _ _,_,fin _ _ _ e1,rfl⟩
   ·exact⟨nob _ _,_,fin _ _ _ e1,rfl⟩
  ·rename_i i sz o m
   cases hr
   rcases hv with ⟨hl,p,e1⟩ |⟨cap,n,e1,_⟩
   ·subst hl;exact⟨nob _ _,_,fin _ _ _ e1,rfl⟩
   ·exact⟨nob _ _,_,fin _ _ _ e1,rfl⟩
  ·cases hr
   exact⟨nob _ _,_,fin none 0 0 hv,rfl⟩
  ·exact hr.elim
def mmV (isMax:Bool) (x y:AV):V1:=
 match x,y with
 |.o (.s (.v (.int .i64 m))),.o (.s (.v (.int .i64 n)))=>match isMax with
  |true=>.go (.int (max m n))
  |false=>.go (.int (min m n))
 |_,_=>.no
theorem aj0 {ts:Array TypeId}(hd:d<N):fv P N ⟨some d,.call ⟨.builtin .max,#[x,y],ts⟩,ty,pos,af,g⟩ (bY x fun v=>bY y fun u=>.ret ((mmV true v u).rs d)):=
 fv.DS rfl hd fun c T β τ a w hh v u hv hu r hr=>by
  unfold mmV at hr
  split at hr
  ·rename_i m n
   cases hr
   have e1:a.eval x= .int .i64 m:=hv
   have e2:a.eval y= .int .i64 n:=hu
   refine⟨adv _ _ _,.int .i64 (max m n),?_,rfl⟩
   have:=run_max_int2 (P:=P) w ts ty .i64 .i64 m n
   have hm:(if m<n then n else m)=max m n:=by split<;>omega
   simp [execOp,resolve,invoke,builtin,e1,e2,this,hm]
  ·exact hr.elim
theorem ajZ {ts:Array TypeId}(hd:d<N):fv P N ⟨some d,.call ⟨.builtin .min,#[x,y],ts⟩,ty,pos,af,g⟩ (bY x fun v=>bY y fun u=>.ret ((mmV false v u).rs d)):=
 fv.DS rfl hd fun c T β τ a w hh v u hv hu r hr=>by
  unfold mmV at hr
  split at hr
  ·rename_i m n
   cases hr
   have e1:a.eval x= .int .i64 m:=hv
   have e2:a.eval y= .int .i64 n:=hu
   refine⟨adv _ _ _,.int .i64 (min m n),?_,rfl⟩
   have:=run_min_int2 (P:=P) w ts ty .i64 .i64 m n
   have hm:(if n<m then n else m)=min m n:=by split<;>omega
   simp [execOp,resolve,invoke,builtin,e1,e2,this,hm]
  ·exact hr.elim
end
end GL
end Go.Proofs.YtnkbdhldiinfdaaGreatDoor
