/- FnTreeOk returns true for every code (its row lists package variables, tied by the card): part 7. -/
import Derived.Laws.Append
import Derived.Laws.BytesString
import Derived.Laws.MakeOwn
import Derived.Test.YtbfgjadbfjkcdaaGreatDoorPaf
set_option maxHeartbeats 20000000
set_option linter.all false
namespace Go.Proofs.YtbfgjadbfjkcdaaGreatDoor
namespace GL
def spl (cs:Array Value) (k:Nat):List Value→Array Value
 |[]=>cs
 |v::vs=>spl (cs.setIfInBounds k v) (k+1) vs
def aaY (l:List SV) (k:Nat):List SV→List SV
 |[]=>l
 |x::m=>aaY (l.set k x) (k+1) m
theorem nL:∀(vs:List Value) (cs:Array Value) (k:Nat),(spl cs k vs).size=cs.size
 |[],_,_=>rfl
 |_::vs,cs,k=>by simp [spl,nL vs]
theorem DW:∀(m l:List SV) (k:Nat),(aaY l k m).length=l.length
 |[],_,_=>rfl
 |_::m,l,k=>by simp [aaY,DW m]
theorem mJ:∀(vs:List Value) (cs:Array Value) (k:Nat),k+vs.length≤cs.size→(spl cs k vs).toList=cs.toList.take k++vs++cs.toList.drop (k+vs.length)
 |[],cs,k,_=>by simp [spl]
 |v::vs,cs,k,h=>by
  simp only [ZA1] at h
  rw [spl,mJ vs _ (k+1) (by simp;omega),Array.toList_setIfInBounds]
  have hk:k<cs.toList.length:=by simp;omega
  rw [List.take_set,List.take_succ_eq_append_getElem hk,List.set_append_right _ _ (by simp;omega)]
  have h1:k-(cs.toList.take k).length=0:=by simp;omega
  rw [h1]
  have h2:(cs.toList.set k v).drop (k+1+vs.length)=cs.toList.drop (k+(v::vs).length):=by
   rw [List.drop_set_of_lt (by omega)]
   simp only [ZA1]
   congr 1;omega
  rw [h2]
  simp
section
variable {T:bc}{β:Nat→Nat}
theorem RU:∀{l:List SV}{cs:List Value}(k:Nat) {x:SV}{v:Value},dO T β l cs→x.rel T β v→dO T β (l.set k x) (cs.set k v)
 |[],[],_,_,_,_,_=>trivial
 |_::_,[],_,_,_,h,_=>h.elim
 |[],_::_,_,_,_,h,_=>h.elim
 |_::l,_::cs,0,x,v,h,hx=>⟨hx,h.2⟩
 |_::l,_::cs,k+1,x,v,h,hx=>⟨h.1,RU k h.2 hx⟩
theorem LX:∀{m:List SV}{vs:List Value}(l:List SV) (cs:Array Value) (k:Nat),dO T β m vs→dO T β l cs.toList→dO T β (aaY l k m) (spl cs k vs).toList
 |[],[],_,_,_,_,h=>h
 |_::_,[],_,_,_,h,_=>h.elim
 |[],_::_,_,_,_,h,_=>h.elim
 |x::m,v::vs,l,cs,k,hm,h=>by
  refine LX (l.set k x) (cs.setIfInBounds k v) (k+1) hm.2 ?_
  rw [Array.toList_setIfInBounds]
  exact RU k h hm.1
theorem GU {i:Nat}:∀(m l:List SV) (k:Nat),i∈cg (aaY l k m)→i∈cg l∨i∈cg m
 |[],_,_,h=>.inl h
 |x::m,l,k,h=>by
  rcases GU m (l.set k x) (k+1) h with h1 |h1
  ·rw [gN] at h1
   obtain⟨y,hy,hi⟩:=h1
   rcases List.mem_or_eq_of_mem_set hy with h2 |h2
   ·exact .inl (gN.2 ⟨y,h2,hi⟩)
   ·exact .inr (gN.2 ⟨x,by simp,by rw [←h2];exact hi⟩)
  ·right
   rw [gN] at h1 ⊢
   obtain⟨y,hy,hi⟩:=h1
   exact⟨y,by simp [hy],hi⟩
def xt:List SV→Nat→List SV→List SV
 |[],_,_=>[]
 |x::l,0,[]=>x::l
 |_::l,0,y::m=>y::xt l 0 m
 |x::l,k+1,m=>x::xt l k m
theorem Q3:∀(l:List SV) (k:Nat),xt l k []=l
 |[],0=>rfl
 |[],_+1=>rfl
 |_::_,0=>rfl
 |x::l,k+1=>by show x::xt l k []=x::l;rw [Q3 l k]
theorem LN:∀(k:Nat) (m:List SV),xt [] k m=[]
 |0,[]=>rfl
 |0,_::_=>rfl
 |_+1,_=>rfl
theorem LO (y:SV) (m:List SV):∀(l:List SV) (k:Nat),xt l k (y::m)=xt (l.set k y) (k+1) m
 |[],k=>by rw [List.set_nil,LN,LN]
 |_::_,0=>rfl
 |x::l,k+1=>by show x::xt l k (y::m)=x::xt (l.set k y) (k+1) m;rw [LO y m l k]
theorem FG:∀(m l:List SV) (k:Nat),xt l k m=aaY l k m
 |[],l,k=>Q3 l k
 |y::m,l,k=>by rw [LO,FG m];rfl
theorem agX (m l:List SV) (k:Nat):(xt l k m).length=l.length:=by rw [FG];exact DW m l k
theorem RT {m:List SV}{vs:List Value}(l:List SV) (cs:Array Value) (k:Nat) (h1:dO T β m vs) (h2:dO T β l cs.toList):dO T β (xt l k m) (spl cs k vs).toList:=by rw [FG];exact LX l cs k h1 h2
theorem GS {i:Nat}(m l:List SV) (k:Nat) (h:i∈cg (xt l k m)):i∈cg l∨i∈cg m:=by rw [FG] at h;exact GU m l k h
end
theorem aci {w:World}{b:Nat}{cs:Array Value}{e:TypeId}{fr:Nat×Nat}(h:w.heap[b]?=some (.cells cs e fr)) (o:Nat):w.frozen? ⟨b,o,none⟩=(decide (fr.1≤o)&&decide (o<fr.2)):=by
 simp [World.frozen?,h]
theorem OD {w:World}{b:Nat}{cs:Array Value}{e:TypeId}{fr:Nat×Nat}(h:w.heap[b]?=some (.cells cs e fr)) (o:Nat) (v:Value):QK w b (.cells (cs.setIfInBounds o v) e fr) (w.setCell ⟨b,o,none⟩ v) where
 at_:=by simp [World.setCell,Array.getElem?_modify,h]
 other:=fun k hk=>by simp only [World.setCell,Array.getElem?_modify];rw [if_neg (by omega)]
 size:=by simp [World.setCell]
 os:=rfl
 tape:=rfl
 output:=rfl
section
variable {P:Program}{N:Nat}{τ:St}
variable {d:Nat}{x y z:Operand}{t u ty:TypeId}{pos:String}{af:Array Edge}{g:Option (Nat×Bool)}
theorem pI {b off:Nat}{e:TypeId}{fr:Nat×Nat}:∀(vs:List Value) (i:Nat) (cs:Array Value) (w:World),w.heap[b]?=some (.cells cs e fr)→off+i+vs.length≤cs.size→free fr cs.size→(∀v∈vs,one v=true)→
  ∃w',(storeCells ⟨b,off,none⟩ vs i).run P w= .ok () w'∧QK w b (.cells (spl cs (off+i) vs) e fr) w'
 |[],i,cs,w,h,_,_,_=>⟨w,by simp [storeCells],⟨h,fun _ _=>rfl,rfl,rfl,rfl,rfl⟩⟩
 |v::vs,i,cs,w,h,hle,kg,T2=>by
  simp only [ZA1] at hle
  have hc:w.cell? ⟨b,off+i,none⟩=some (cs[off+i]'(by omega)):=by rw [rC h];exact ZG0 (by omega)
  have hf:w.frozen? ⟨b,off+i,none⟩=false:=by rw [aci h];exact agu kg _ (by omega)
  have hs:(store ((⟨b,off,none⟩:Addr).add i) v).run P w= .ok () (w.setCell ⟨b,off+i,none⟩ v):=by
   rw [ga,run_store P w _ v .plain (T2 v (by simp)),hc]
   simp [hf]
  have ho:=OD h (off+i) v
  obtain⟨w',hr,hw⟩:=pI (off:=off) vs (i+1) (cs.setIfInBounds (off+i) v) _ ho.at_ (by simp;omega) (by simpa using kg) (fun x hx=>T2 x (by simp [hx]))
  refine⟨w',?_,?_⟩
  ·simp only [storeCells,Sem.run_bind,hs,Result.andThen_ok]
   exact hr
  ·exact⟨hw.at_,fun k hk=>(hw.other k hk).trans (ho.other k hk),hw.size.trans ho.size,hw.os.trans ho.os,hw.tape.trans ho.tape,hw.output.trans ho.output⟩
theorem OE {gg:Bool}{n:Nat}(h:Sh P t=some (gg,n)) {b off:Nat}{e:TypeId}{fr:Nat×Nat}{cs:Array Value}{w:World}{v:Value}(hb:w.heap[b]?=some (.cells cs e fr)) (hn:v.cells.size=n) (hle:off+n≤cs.size) (kg:free fr cs.size) (T2:∀x∈v.cells.toList,one x=true):
  ∃w',(storeVar t ⟨b,off,none⟩ v).run P w= .ok () w'∧QK w b (.cells (spl cs off v.cells.toList) e fr) w':=by
 obtain⟨_,h2⟩:=qM h w
 obtain⟨w',hr,hw⟩:=pI (P:=P) (off:=off) v.cells.toList 0 cs w hb (by simp [hn];exact hle) kg T2
 refine⟨w',?_,by simpa using hw⟩
 simp [storeVar,h2,hn,hr]
def SV.one:SV→Bool
 |.v x=>GL.one x
 |_=>true
def mq:List SV→Bool
 |[]=>true
 |x::l=>x.one&&mq l
theorem SV.O6 {T:bc}{β:Nat→Nat}{x:SV}{v:Value}(h:x.one=true) (hr:x.rel T β v):GL.one v=true:=by
 cases x with
 |v x=>have:v=x:=hr;subst this;exact h
 |q b=>have:v=_:=hr;subst this;rfl
 |bp i o=>have:v=_:=hr;subst this;rfl
 |xp i sz k j=>obtain⟨rfl,_⟩:=hr;rfl
 |xs i sz o m=>rcases hr with ⟨_,p,rfl⟩ |⟨cap,n,rfl,_⟩<;>rfl
 |ep ek j=>obtain⟨b,o,n,rfl,_⟩:=hr;rfl
 |sl ek len=>rcases hr with ⟨_,p,rfl⟩ |⟨b,o,cap,n,rfl,_⟩<;>rfl
 |vw ek l=>rcases hr with ⟨_,p,cap,rfl⟩ |⟨b,o,cap,cs,e,fr,rfl,_⟩<;>rfl
 |vz ek l=>rcases hr with ⟨_,p,cap,rfl⟩ |⟨b,o,cap,cs,rfl,_⟩<;>rfl
 |vp ek x j=>obtain⟨b,o,cs,rfl,_⟩:=hr;rfl
 |vs l j=>obtain⟨b,cs,rfl,_⟩:=hr;rfl
 |er b=>
  cases b with
  |true=>have:v= .nilIface:=hr;subst this;rfl
  |false=>obtain⟨t,x,rfl⟩:=hr;rfl
 |e0=>obtain⟨p,rfl⟩:=hr;rfl
theorem RV {T:bc}{β:Nat→Nat}:∀{l:List SV}{cs:List Value},mq l=true→dO T β l cs→∀v∈cs,GL.one v=true
 |[],[],_,_,v,hv=>by cases hv
 |_::_,[],_,h,_,_=>h.elim
 |[],_::_,_,h,_,_=>h.elim
 |x::l,v::cs,h1,h2,y,hy=>by
  simp only [mq,ZB0] at h1
  rcases ZB9.1 hy with rfl |hy
  ·exact SV.O6 h1.1 h2.1
  ·exact RV h1.2 h2.2 y hy
theorem AJ {v:Value}(h:GL.one v=true):v.cells= #[v]:=by cases v<;>first|rfl|(simp [GL.one,Value.oneCell'] at h)
def EI:AV→Option (List SV)
 |.o (.a l)=>some l
 |.o (.s x)=>some [x]
 |_=>none
theorem xe {T:bc}{β:Nat→Nat}{x:AV}{l:List SV}(h:EI x=some l) (T2:mq l=true) {v:Value}(hr:x.rel T β v):dO T β l v.cells.toList∧∀y∈v.cells.toList,GL.one y=true:=by
 cases x with
 |t l=>cases h
 |rs ek l=>cases h
 |zz=>cases h
 |fn f l=>cases h
 |o x=>
  cases x with
  |s y=>
   cases h
   simp only [mq,Bool.and_true] at T2
   have h1:=SV.O6 T2 hr
   rw [AJ h1]
   exact⟨⟨hr,trivial⟩,by simpa using h1⟩
  |a l=>
   cases h
   obtain⟨cs,rfl,hl⟩:=hr
   exact⟨hl,RV T2 hl⟩
theorem vP {x:AV}{l:List SV}(h:EI x=some l) {i:Nat}(hi:i∈cg l):i∈x.boxes:=by
 cases x with
 |t l=>cases h
 |rs ek l=>cases h
 |zz=>cases h
 |fn f l=>cases h
 |o x=>
  cases x with
  |s y=>cases h;simpa [AV.boxes,A0.boxes,cg] using hi
  |a l=>cases h;exact hi
def CP.ofS:(c:CP)→SV→Option c.Ty
 |.i64,.v (.int .i64 n)=>some n
 |.row,.v (.int .i64 n)=>some n
 |.u8,.v (.int .u8 n)=>some n
 |.str _,.v (.string s)=>some s
 |.bool,.q b=>some b
 |.bool,.v (.bool b)=>some b
 |_,_=>none
def EK.ofS:(ek:List CP)→List SV→Option (EK.Ty ek)
 |[],[]=>some ()
 |[c],[x]=>c.ofS x
 |c::d::l,x::m=>match c.ofS x,EK.ofS (d::l) m with
  |some v,some r=>some (v,r)
  |_,_=>none
 |_,_=>none
theorem CP.FN {T:bc}{β:Nat→Nat}{c:CP}{x:SV}{r:c.Ty}(h:c.ofS x=some r) {v:Value}(hr:x.rel T β v):v=c.val r:=by
 unfold CP.ofS at h
 split at h<;>first|(cases h;exact hr)|cases h
theorem EK.wO {T:bc}{β:Nat→Nat}:∀(ek:List CP) {l:List SV}{r:EK.Ty ek},EK.ofS ek l=some r→∀{vs:List Value},dO T β l vs→vs=EK.cells ek r
 |[],[],_,_,[],_=>rfl
 |[],[],_,_,_::_,h=>h.elim
 |[],_::_,_,h,_,_=>by simp [EK.ofS] at h
 |[c],[],_,h,_,_=>by simp [EK.ofS] at h
 |[c],[x],r,h,[],h'=>h'.elim
 |[c],[x],r,h,[v],h'=>by
  have:=CP.FN (c:=c) h h'.1
  simp [EK.cells,this]
 |[c],[x],r,h,_::_::_,h'=>h'.2.elim
 |[c],_::_::_,r,h,_,_=>by simp [EK.ofS] at h
 |c::d::l,[],r,h,_,_=>by simp [EK.ofS] at h
 |c::d::l,x::m,r,h,[],h'=>h'.elim
 |c::d::l,x::m,r,h,v::vs,h'=>by
  simp only [EK.ofS] at h
  split at h
  ·rename_i r1 r2 h1 h2
   cases h
   rw [CP.FN h1 h'.1,EK.wO (d::l) h2 h'.2]
   rfl
  ·cases h
def EK.E3:(ek:List CP)→EK.Ty ek→Nat→SV→Option (EK.Ty ek)
 |[],_,_,_=>none
 |[c],_,0,v=>c.ofS v
 |[_],_,_+1,_=>none
 |c::_::_,x,0,v=>match c.ofS v with
  |some y=>some (y,x.2)
  |none=>none
 |_::d::l,x,j+1,v=>match EK.E3 (d::l) x.2 j v with
  |some y=>some (x.1,y)
  |none=>none
theorem EK.GW {T:bc}{β:Nat→Nat}:∀(ek:List CP) {x r:EK.Ty ek}{j:Nat}{s:SV},EK.E3 ek x j s=some r→∀{v:Value},s.rel T β v→EK.cells ek r=(EK.cells ek x).set j v
 |[],_,_,_,_,h,_,_=>by simp [EK.E3] at h
 |[c],x,r,0,s,h,v,hr=>by
  simp only [EK.E3] at h
  simp [EK.cells,CP.FN h hr]
 |[c],x,r,j+1,s,h,v,hr=>by simp [EK.E3] at h
 |c::d::l,x,r,0,s,h,v,hr=>by
  simp only [EK.E3] at h
  split at h
  ·rename_i y hy
   cases h
   simp [EK.cells,CP.FN hy hr]
  ·cases h
 |c::d::l,x,r,j+1,s,h,v,hr=>by
  simp only [EK.E3] at h
  split at h
  ·rename_i y hy
   cases h
   have:=EK.GW (d::l) hy hr
   simp [EK.cells,this]
  ·cases h
theorem UD (ek:EK):∀(l:List (EK.Ty ek)) (k:Nat) (r:EK.Ty ek),k<l.length→flat ek (l.set k r)=(flat ek l).take (k*ek.length)++EK.cells ek r++(flat ek l).drop (k*ek.length+ek.length)
 |[],_,_,h=>by simp at h
 |x::l,0,r,_=>by
  simp only [List.set_cons_zero,iU,ZG8,List.take_zero,ZC9,ZA7]
  congr 1
  rw [←EK.bM ek x];simp
 |x::l,k+1,r,h=>by
  simp only [List.set_cons_succ,iU]
  rw [UD ek l k r (by simpa using h)]
  have e1:(k+1)*ek.length=(EK.cells ek x).length+k*ek.length:=by rw [EK.bM,ZE3,Nat.one_mul,Nat.add_comm]
  have e2:(k+1)*ek.length+ek.length=(EK.cells ek x).length+(k*ek.length+ek.length):=by rw [e1,ZF8]
  rw [e2,e1,List.take_length_add_append,ZF7]
  simp [ZD2]
theorem VJ {l vs:List Value}{o j:Nat}(r:List Value) (v:Value) (hr:(l.drop o).take r.length=r) (hj:j<r.length) (ho:o+r.length≤l.length) (I8:vs=[v]):
  l.take (o+j)++vs++l.drop (o+j+vs.length)=l.take o++r.set j v++l.drop (o+r.length):=by
 subst I8
 have h1:l.take (o+j)=l.take o++r.take j:=by
  rw [List.take_add,←hr,List.take_take,Nat.min_eq_left (by omega)]
 have h2:l.drop (o+j+1)=r.drop (j+1)++l.drop (o+r.length):=by
  have:l.drop o=r++l.drop (o+r.length):=by
   rw [←List.take_append_drop r.length (l.drop o),hr,List.drop_drop]
  rw [ZF8,←List.drop_drop,this,List.drop_append_of_le_length (by omega)]
 rw [List.length_singleton,h1,h2,List.set_eq_take_append_cons_drop,if_pos hj]
 simp
def VF (n:Nat) (v u:AV):Q Rs:=
 match EI u with
 |none=>.ret .no
 |some m=>bif Nat.beq m.length n&&mq m then (match v with
  |.o (.s (.bp i o))=>sW i fun
   |.o (.a l)=>.ret (bif Nat.ble (o+n) l.length then .go [(.b i,.a (xt l o m))] else .no)
   |_=>.ret .no
  |.o (.s (.xp i sz k j))=>sW i fun
   |.rs ek l=>bif Nat.beq ek.length sz then (bif Nat.beq n sz&&Nat.beq j 0 then (match EK.ofS ek m with
    |some r=>.ret (.nk (k<l.length) [(.b i,.rs ek (l.set k r))])
    |none=>.ret .no) else match m with
     |[s]=>(match EK.E3 ek (nth ek l k) j s with
      |some r=>.ret (.nk (k<l.length) [(.b i,.rs ek (l.set k r))])
      |none=>.ret .no)
     |_=>.ret .no) else .ret .no
   |_=>.ret .no
  |.o (.s (.ep ek j))=>bif Nat.beq n ek.length&&Nat.beq j 0 then (match EK.ofS ek m with
   |some r=>.ret (.nk (EK.ok ek r) [])
   |none=>.ret .no) else .ret .no
  |_=>.ret .no) else .ret .no
theorem LQ {ek:EK}{l z:List (EK.Ty ek)}{cs:Array Value}(kh:cs.toList=flat ek (l++z)) {k:Nat}(hk:k<l.length) (r:EK.Ty ek) {vs:List Value}{j:Nat}(hle:k*ek.length+j+vs.length≤cs.size)
  (h:(j=0∧vs=EK.cells ek r)∨(∃v,vs=[v]∧j<ek.length∧EK.cells ek r=(EK.cells ek (nth ek l k)).set j v)):(spl cs (k*ek.length+j) vs).toList=flat ek (l.set k r++z):=by
 have hkz:k<(l++z).length:=by simp;omega
 have aeo:(l.set k r++z)=(l++z).set k r:=by rw [List.set_append_left _ _ hk]
 rw [aeo,UD ek (l++z) k r hkz,mJ _ _ _ hle,kh]
 rcases h with ⟨rfl,rfl⟩ |⟨v,rfl,hj,hr⟩
 ·rw [Nat.add_zero,EK.bM]
 ·have h1:((flat ek (l++z)).drop (k*ek.length)).take (EK.cells ek (nth ek l k)).length=EK.cells ek (nth ek l k):=by
   rw [EK.bM]
   exact aak ek (l++z) k _ (by rw [ZC2 hk];exact oK hk)
  have hlen:k*ek.length+(EK.cells ek (nth ek l k)).length≤(flat ek (l++z)).length:=by
   rw [EK.bM,cC]
   have:(k+1)*ek.length≤(l++z).length*ek.length:=ZG4 _ hkz
   rw [ZE3,Nat.one_mul] at this
   exact this
  rw [hr,VJ (EK.cells ek (nth ek l k)) v h1 (by rw [EK.bM];exact hj) hlen rfl,EK.bM]
theorem M6 {ek:EK}{l z:List (EK.Ty ek)}{cs:Array Value}(kh:cs.toList=flat ek (l++z)) {k:Nat}(hk:k<l.length):k*ek.length+ek.length≤cs.size:=by
 have h1:cs.size=(l++z).length*ek.length:=by rw [←ZE5,kh,cC]
 have:(k+1)*ek.length≤(l++z).length*ek.length:=ZG4 _ (by simp;omega)
 rw [ZE3,Nat.one_mul] at this
 omega
theorem ZC:∀(ek:List CP) {x r:EK.Ty ek}{j:Nat}{s:SV},EK.E3 ek x j s=some r→j<ek.length
 |[],_,_,_,_,h=>by simp [EK.E3] at h
 |[c],x,r,0,s,h=>by simp
 |[c],x,r,j+1,s,h=>by simp [EK.E3] at h
 |c::d::l,x,r,0,s,h=>by simp
 |c::d::l,x,r,j+1,s,h=>by
  simp only [EK.E3] at h
  split at h
  ·rename_i y hy
   have:=ZC (d::l) hy
   simp at this ⊢;omega
  ·cases h
theorem agG {gg:Bool}{n:Nat}(hS:Sh P t=some (gg,n)):fw P N ⟨none,.store t x y,ty,pos,af,g⟩ (cb x fun v=>cb y fun u=>VF n v u):=by
 intro c τ a w hr hp K Q' hK
 obtain⟨T,β,hh⟩:=hr
 rw [da] at hp hK
 cases hx:ev τ x with
 |none=>rw [hx] at hp;exact hp.elim
 |some v=>
  rw [hx] at hp hK
  simp only [da] at hp hK
  cases hy:ev τ y with
  |none=>rw [hy] at hp;exact hp.elim
  |some u=>
   rw [hy] at hp hK
   simp only at hp hK
   unfold VF at hp hK
   cases hm:EI u with
   |none=>rw [hm] at hp;exact hp.elim
   |some m=>
    rw [hm] at hp hK
    simp only at hp hK
    cases hc:Nat.beq m.length n&&mq m with
    |false=>rw [hc] at hp;exact hp.elim
    |true=>
     rw [hc] at hp hK
     simp only [cond_true] at hp hK
     simp only [ZB0] at hc
     have hmn:m.length=n:=by simpa using hc.1
     have hv:=eR hh hx
     obtain⟨c7,ajE⟩:=xe hm hc.2 (eR hh hy)
     have hml:=jl c7
     have dk:(a.eval y).cells.size=n:=by rw [←hmn,hml];simp
     have hst:∀{b o:Nat} {cs:Array Value} {e:TypeId} {fr:Nat×Nat},a.eval x= .pointer (some ⟨b,o,none⟩)→w.heap[b]?=some (.cells cs e fr)→o+n≤cs.size→free fr cs.size→
       ∃w',(execOp a.eval ⟨none,.store t x y,ty,pos,af,g⟩).run P w= .ok .skip w'∧QK w b (.cells (spl cs o (a.eval y).cells.toList) e fr) w':=by
      intro b o cs e fr e1 hb hle kg
      obtain⟨w',fm,hw⟩:=OE (P:=P) hS (off:=o) (v:=a.eval y) hb dk hle kg ajE
      exact⟨w',by simp [execOp,e1,Instr.storeAt,Instr.sureAddr,fm],hw⟩
     have fin:∀{w':World} {u:AX},(execOp a.eval ⟨none,.store t x y,ty,pos,af,g⟩).run P w= .ok .skip w'→K a w'→Oper.wp P ⟨none,.store t x y,ty,pos,af,g⟩ a w K Q':=by
      intro w' u fm hk
      unfold Oper.wp
      rw [fm]
      exact hk
     split at hp
     ·rename_i i o
      simp only [sW,Q.run] at hp hK
      have e:a.eval x= .pointer (some ⟨β i,o,none⟩):=hv
      cases hb:τ (.b i) with
      |none=>rw [hb] at hp;exact hp.elim
      |some av=>
       rw [hb] at hp hK
       simp only at hp hK
       split at hp
       ·rename_i l
        simp only [Q.run] at hp hK
        cases qv:Nat.ble (o+n) l.length with
        |false=>rw [qv] at hp;exact hp.elim
        |true=>
         rw [qv] at hp hK
         have hle:=aZ qv
         have hl:live τ i:=eF hb (by intro e;cases e)
         obtain⟨cs,te,kh,hrl⟩:=hh.boxes i _ hb (by intro e;cases e)
         have ajA:dO T β l cs.toList:=hrl
         have hlen:=jl ajA
         obtain⟨w',fm,hw⟩:=hst e kh (by simp at hlen;omega) (JG _)
         refine fin (u:=[]) fm (hK _ _ _ rfl ⟨T,β,?_⟩)
         refine hh.DR hl kh hw (nL _ _ _) (show dO T β _ _ from RT l cs o c7 ajA) fun j hj=>?_
         rcases GS m l o hj with h3 |h3
         ·exact hh.named (.b i) _ hb j h3
         ·exact ia hh hy j (vP hm h3)
       ·exact hp.elim
     ·rename_i i sz k j
      simp only [sW,Q.run] at hp hK
      obtain⟨e,hj⟩:=hv
      cases hb:τ (.b i) with
      |none=>rw [hb] at hp;exact hp.elim
      |some av=>
       rw [hb] at hp hK
       simp only at hp hK
       split at hp
       ·rename_i ek l
        simp only at hK
        have hl:live τ i:=eF hb (by intro e;cases e)
        obtain⟨cs,te,kh,fB,z,JD,hz⟩:=hh.boxes i _ hb (by intro e;cases e)
        cases hq:Nat.beq ek.length sz with
        |false=>rw [hq] at hp;exact hp.elim
        |true=>
         rw [hq] at hp hK
         have ak8:ek.length=sz:=by simpa using hq
         subst ak8
         simp only [cond_true] at hp hK
         have done:∀(r:EK.Ty ek),k<l.length→((j=0∧(a.eval y).cells.toList=EK.cells ek r)∨(∃v,(a.eval y).cells.toList=[v]∧j<ek.length∧EK.cells ek r=(EK.cells ek (nth ek l k)).set j v))→
           (∀a' w',Rel N c (τ.ap [(.b i,.rs ek (l.set k r))]) a' w'→K a' w')→Oper.wp P ⟨none,.store t x y,ty,pos,af,g⟩ a w K Q':=by
          intro r hk ajq hK
          have oi:=M6 JD hk
          have hn:j+n≤ek.length:=by
           have hcl:(a.eval y).cells.toList.length=n:=by simpa using dk
           rcases ajq with ⟨rfl,h⟩ |⟨v,h,C2,_⟩
           ·rw [h,EK.bM] at hcl;omega
           ·rw [h] at hcl;simp at hcl;omega
          obtain⟨w',fm,hw⟩:=hst e kh (by omega) (JG _)
          refine fin (u:=[]) fm (hK _ _ ⟨T,β,?_⟩)
          exact hh.DR hl kh hw (nL _ _ _) ⟨fB,z,LQ JD hk r (by rw [show (a.eval y).cells.toList.length=n by simpa using dk];omega) ajq,hz⟩ (by simp [AV.boxes])
         cases xL:Nat.beq n ek.length&&Nat.beq j 0 with
         |true=>
          rw [xL] at hp hK
          simp only [ZB0] at xL
          have hj0:j=0:=by simpa using xL.2
          simp only [cond_true] at hp hK
          split at hp
          ·rename_i r hr
           simp only [hr] at hK
           exact done r hp (.inl ⟨hj0,EK.wO ek hr c7⟩) fun a' w' h=>hK _ _ _ rfl h
          ·exact hp.elim
         |false=>
          rw [xL] at hp hK
          simp only [cond_false] at hp hK
          split at hp
          ·rename_i s
           split at hp
           ·rename_i r hr
            simp only [hr] at hK
            obtain⟨v0,hv0⟩:∃v0,(a.eval y).cells.toList=[v0]:=by
             cases hcl:(a.eval y).cells.toList with
             |nil=>rw [hcl] at hml;simp at hml
             |cons v0 rest=>
              cases rest with
              |nil=>exact⟨v0,rfl⟩
              |cons _ _=>rw [hcl] at hml;simp at hml
            rw [hv0] at c7
            exact done r hp (.inr ⟨v0,hv0,ZC ek hr,EK.GW ek hr c7.1⟩) fun a' w' h=>hK _ _ _ rfl h
           ·exact hp.elim
          ·exact hp.elim
       ·exact hp.elim
     ·rename_i ek j
      simp only at hK
      cases xL:Nat.beq n ek.length&&Nat.beq j 0 with
      |false=>rw [xL] at hp;exact hp.elim
      |true=>
       rw [xL] at hp hK
       simp only [ZB0] at xL
       have hj0:j=0:=by simpa using xL.2
       have hnk:n=ek.length:=by simpa using xL.1
       subst hj0
       simp only [cond_true] at hp hK
       split at hp
       ·rename_i r hr
        simp only [hr] at hK
        obtain⟨b,o,k,e,hT,ho,_⟩:=hv
        obtain⟨fB,cs,te,fr,l,kh,kg,mf⟩:=hh.typed b _ hT
        have JD:cs.toList=flat ek (l++[]):=by simpa using mf.2.2
        have hk:o<l.length:=by rw [mf.1];exact ho
        have oi:=M6 JD hk
        obtain⟨w',fm,hw⟩:=hst e kh (by omega) kg
        refine fin (u:=[]) fm (hK _ _ _ rfl ⟨T,β,?_⟩)
        have vL:=LQ JD hk r (j:=0) (vs:=(a.eval y).cells.toList) (by rw [show (a.eval y).cells.toList.length=n by simpa using dk];omega) (.inl ⟨rfl,EK.wO ek hr c7⟩)
        refine hh.uW hT hw (by rw [nL];exact kg) (l:=l.set o r) ⟨by simp [mf.1],fun q hq=>?_,by simpa using vL⟩
        rcases List.mem_or_eq_of_mem_set hq with h |h
        ·exact mf.2.1 q h
        ·rw [h];exact hp
       ·exact hp.elim
     ·exact hp.elim
def zeroOf (P:Program) (t:TypeId):Option (List Value):=
 match P.info? t with
 |some i=>match i.zero with
  |some z=>some z.cells.toList
  |none=>none
 |none=>none
theorem acR {zs:List Value}(h:zeroOf P t=some zs) (w:World):∃z,(zeroValue t).run P w= .ok z w∧z.cells.toList=zs:=by
 unfold zeroOf at h
 split at h
 ·rename_i i hi
  split at h
  ·rename_i z hz
   cases h
   exact⟨z,by simp [zeroValue,typeInfo,hi,hz],rfl⟩
  ·cases h
 ·cases h
def uM:List Value→List SV
 |[]=>[]
 |v::l=>.v v::uM l
theorem IA {T:bc}{β:Nat→Nat}:∀l:List Value,dO T β (uM l) l
 |[]=>trivial
 |v::l=>⟨rfl,IA l⟩
theorem yK:∀l:List Value,cg (uM l)=[]
 |[]=>rfl
 |v::l=>by simp [uM,cg,SV.boxes,yK l]
def YX (d:Nat) (l:List SV):Q Rs:=.ask (.b (1000+d)) fun
 |none=>.ret (.go [(.s d,.s (.bp (1000+d) 0)),(.b (1000+d),.a l)])
 |some _=>.ret .no
theorem agM {zs:List Value}(hz:zeroOf P t=some zs) (hd:d<N):fw P N ⟨some d,.alloc t,ty,pos,af,g⟩ (YX d (uM zs)):=by
 intro c τ a w hr hp K Q' hK
 obtain⟨T,β,hh⟩:=hr
 simp only [YX,Q.run] at hp hK
 cases hn:τ (.b (1000+d)) with
 |some v=>rw [hn] at hp;exact hp.elim
 |none=>
  rw [hn] at hp hK
  obtain⟨z,fm,hzs⟩:=acR (P:=P) hz w
  unfold Oper.wp
  have hex:(execOp a.eval ⟨some d,.alloc t,ty,pos,af,g⟩).run P w= .ok (.value (.pointer (some ⟨w.heap.size,0,none⟩))) { w with heap:=w.heap.push (.cells z.cells t (0,0)) }:=by
   simp [execOp,Instr.alloc,fm,newVar,newRow]
  rw [hex]
  have h1:=hh.tH (d:=1000+d) (by omega) hn (av:=.a (uM zs)) (cs:=z.cells) (e:=t) (w':= { w with heap:=w.heap.push (.cells z.cells t (0,0)) }) ⟨rfl,rfl,rfl,rfl⟩ (show dO _ _ _ _ by rw [hzs];exact IA _) (by simp [AV.boxes,A0.boxes,yK])
  exact hK _ _ _ rfl ⟨_,_,h1.put hd (av:=.s (.bp (1000+d) 0)) (by show _=_;unfold oy;rw [if_pos rfl]) (by simp [AV.boxes,A0.boxes,SV.boxes,ur])⟩
def aiq (d:Nat) (v:AV):Q Rs:=
 match EI v with
 |none=>.ret .no
 |some l=>.ask (.b (1000+d)) fun
  |none=>.ret (bif mq l then .go [(.s d,.s (.bp (1000+d) 0)),(.b (1000+d),.a l)] else .no)
  |some _=>.ret .no
theorem akl (hd:d<N):fw P N ⟨some d,.box t x,ty,pos,af,g⟩ (cb x fun v=>aiq d v):=by
 intro c τ a w hr hp K Q' hK
 obtain⟨T,β,hh⟩:=hr
 rw [da] at hp hK
 cases hx:ev τ x with
 |none=>rw [hx] at hp;exact hp.elim
 |some v=>
  rw [hx] at hp hK
  simp only [aiq] at hp hK
  cases hm:EI v with
  |none=>rw [hm] at hp;exact hp.elim
  |some l=>
   rw [hm] at hp hK
   simp only [Q.run] at hp hK
   cases hn:τ (.b (1000+d)) with
   |some v=>rw [hn] at hp;exact hp.elim
   |none=>
    rw [hn] at hp hK
    simp only [Q.run] at hp hK
    cases ho:mq l with
    |false=>rw [ho] at hp;exact hp.elim
    |true=>
     rw [ho] at hp hK
     obtain⟨c7,_⟩:=xe hm ho (eR hh hx)
     unfold Oper.wp
     have hex:(execOp a.eval ⟨some d,.box t x,ty,pos,af,g⟩).run P w= .ok (.value (.pointer (some ⟨w.heap.size,0,none⟩))) { w with heap:=w.heap.push (.cells (a.eval x).cells t (0,0)) }:=by
      simp [execOp,Instr.box,newVar,newRow]
     rw [hex]
     have h1:=hh.tH (d:=1000+d) (by omega) hn (av:=.a l) (cs:=(a.eval x).cells) (e:=t) (w':= { w with heap:=w.heap.push (.cells (a.eval x).cells t (0,0)) }) ⟨rfl,rfl,rfl,rfl⟩ (show dO _ _ _ _ from c7) (fun j hj=>ia hh hx j (vP hm hj))
     exact hK _ _ _ rfl ⟨_,_,h1.put hd (av:=.s (.bp (1000+d) 0)) (by show _=_;unfold oy;rw [if_pos rfl]) (by simp [AV.boxes,A0.boxes,SV.boxes,ur])⟩
end
end GL
namespace GL
section
variable {P:Program}{N:Nat}{τ:St}
variable {d:Nat}{x y z:Operand}{t u ty:TypeId}{pos:String}{af:Array Edge}{g:Option (Nat×Bool)}
def QG (l:List (Nat×Operand)) (k:List (Nat×AV)→Q Rs):Q Rs:=
 match l with
 |[]=>k []
 |p::l=>cb p.2 fun v=>QG l fun vs=>k ((p.1,v)::vs)
def evL (τ:St):List (Nat×Operand)→Option (List (Nat×AV))
 |[]=>some []
 |p::l=>match ev τ p.2 with
  |some v=>match evL τ l with
   |some vs=>some ((p.1,v)::vs)
   |none=>none
  |none=>none
theorem AQ (τ:St):∀(l:List (Nat×Operand)) (k:List (Nat×AV)→Q Rs),(QG l k).run τ=match evL τ l with
  |some v=>(k v).run τ
  |none=>.no
 |[],k=>rfl
 |p::l,k=>by
  simp only [QG,da,evL]
  cases ev τ p.2 with
  |none=>rfl
  |some v=>
   simp only [AQ τ l]
   cases evL τ l<;>rfl
theorem ack (vs:List Value):∀(off k:Nat) (cs:Array Value),(vs.zipIdx k).foldl (fun cs (p:Value×Nat)=>cs.setIfInBounds (off+p.2) p.1) cs=spl cs (off+k) vs:=by
 induction vs with
 |nil=>intro off k cs;rfl
 |cons v vs ih=>
  intro off k cs
  simp only [List.zipIdx_cons,List.foldl_cons,spl]
  rw [ih off (k+1)]
  rfl
theorem DA {place:Nat→Option (Nat×Nat)}{i off size:Nat}{v:Value}{rest:List (Nat×Value)}{cs:Array Value}(hp:place i=some (off,size)) (hs:v.cells.size=size) (hle:off+size≤cs.size):
  Instr.fill place cs ((i,v)::rest)=Instr.fill place (spl cs off v.cells.toList) rest:=by
 have ajN:v.cells.zipIdx.foldl (fun cs (p:Value×Nat)=>cs.setIfInBounds (off+p.2) p.1) cs=spl cs off v.cells.toList:=by
  rw [←Array.foldl_toList,Array.toList_zipIdx]
  exact ack _ _ 0 _
 have uD:¬(v.cells.size≠size∨off+v.cells.size>cs.size):=by omega
 simp only [Instr.fill,hp]
 rw [if_neg (by simpa using uD),ajN]
def afB (P:Program) (t:TypeId):Option (List (Nat×Nat)×List Value):=
 match P.info? t,P.underlying t with
 |some it,some (.struct fs)=>match it.zero,fs.toList.mapM (fun f=>(P.info? f.type).map fun i=>(f.offset,i.size)) with
  |some z,some places=>some (places,z.cells.toList)
  |_,_=>none
 |_,_=>none
def aal (places:List (Nat×Nat)) (l:List SV):List (Nat×AV)→Option (List SV)
 |[]=>some l
 |p::rest=>match places[p.1]?,EI p.2 with
  |some (off,size),some m=>bif (Nat.beq m.length size&&Nat.ble (off+size) l.length)&&mq m then aal places (xt l off m) rest else none
  |_,_=>none
theorem M9 {c:Ctx}{T:bc}{β:Nat→Nat}{a:Act}{w:World}(hh:Holds N c T β τ a w) {places:List (Nat×Nat)}:∀(parts:List (Nat×Operand)) (vs:List (Nat×AV)) (l l':List SV) (cs:Array Value),evL τ parts=some vs→aal places l vs=some l'→dO T β l cs.toList→(∀i∈cg l,τ (.b i)≠none)→
  ∃mr,Instr.fill (places.toArray[·]?) cs (parts.map fun p=>(p.1,a.eval p.2))=some mr∧dO T β l' mr.toList∧∀i∈cg l',τ (.b i)≠none
 |[],vs,l,l',cs,h1,h2,h3,h4=>by
  cases h1;cases h2
  exact⟨cs,rfl,h3,h4⟩
 |p::parts,vs,l,l',cs,h1,h2,h3,h4=>by
  simp only [evL] at h1
  split at h1
  ·rename_i v hv
   split at h1
   ·rename_i vs' I8
    cases h1
    simp only [aal] at h2
    split at h2
    ·rename_i off size m rY hm
     cases hc:(Nat.beq m.length size&&Nat.ble (off+size) l.length)&&mq m with
     |false=>rw [hc] at h2;cases h2
     |true=>
      rw [hc] at h2
      simp only [ZB0] at hc
      have hms:m.length=size:=by simpa using hc.1.1
      have hle:=aZ hc.1.2
      obtain⟨c7,_⟩:=xe hm hc.2 (eR hh hv)
      have hml:=jl c7
      have hll:=jl h3
      have dk:(a.eval p.2).cells.size=size:=by rw [←hms,hml];simp
      obtain⟨mr,g1,g2,g3⟩:=M9 hh parts vs' (xt l off m) l' (spl cs off (a.eval p.2).cells.toList) I8 h2 (RT l cs off c7 h3) (fun i hi=>by
       rcases GS m l off hi with h |h
       ·exact h4 i h
       ·exact ia hh hv i (vP hm h))
      refine⟨mr,?_,g2,g3⟩
      have ale:places.toArray[p.1]?=some (off,size):=by simpa using rY
      rw [ZE8,DA (place:=(places.toArray[·]?)) ale dk (by simp at hll;omega)]
      exact g1
    ·cases h2
   ·cases h1
  ·cases h1
def YR (places:List (Nat×Nat)) (zs:List Value) (vs:List (Nat×AV)):V1:=
 match aal places (uM zs) vs with
 |some l=>.go (.a l)
 |none=>.no
theorem agL {places:List (Nat×Nat)}{zs:List Value}{parts:Array (Nat×Operand)}(hb:afB P t=some (places,zs)) (hd:d<N):fw P N ⟨some d,.build t parts,ty,pos,af,g⟩ (QG parts.toList fun vs=>.ret ((YR places zs vs).rs d)):=by
 intro c τ a w hr hp K Q' hK
 obtain⟨T,β,hh⟩:=hr
 rw [AQ] at hp hK
 cases hx:evL τ parts.toList with
 |none=>rw [hx] at hp;exact hp.elim
 |some vs=>
  rw [hx] at hp hK
  refine V1.put hh hd hp rfl (fun r hr=>?_) hK
  unfold YR at hr
  split at hr
  ·rename_i l hl
   cases hr
   unfold afB at hb
   split at hb
   ·rename_i it fs hi hu
    split at hb
    ·rename_i z pl hz rY
     cases hb
     obtain⟨mr,h1,h2,h3⟩:=M9 hh parts.toList vs _ l z.cells hx hl (by rw [show z.cells.toList=z.cells.toList from rfl];exact IA _) (by rw [yK];simp)
     refine⟨h3,.agg mr,?_,mr,rfl,h2⟩
     have aie:P.built t (parts.map fun p=>(p.1,a.eval p.2)).toList=some mr:=by
      unfold Program.built
      rw [hi,hu]
      simp only [hz,rY]
      simpa using h1
     have:=run_build (P:=P) w t _ mr aie
     simp [execOp,this]
    ·cases hb
   ·cases hb
  ·exact hr.elim
def vV (P:Program) (t:TypeId):Option (Nat×Nat×List Value):=
 match P.underlying t with
 |some (.slice e)=>match P.info? e with
  |some i=>match i.zero with
   |some z=>some (i.size,i.bytes,z.cells.toList)
   |none=>none
  |none=>none
 |_=>none
theorem jZ {sz jd:Nat}{zs:List Value}(h:vV P t=some (sz,jd,zs)):∃e i z,P.underlying t=some (.slice e)∧P.info? e=some i∧i.zero=some z∧i.size=sz∧i.bytes=jd∧z.cells.toList=zs:=by
 unfold vV at h
 split at h
 ·rename_i e he
  split at h
  ·rename_i i hi
   split at h
   ·rename_i z hz
    cases h
    exact⟨e,i,z,he,hi,hz,rfl,rfl,rfl⟩
   ·cases h
  ·cases h
 ·cases h
structure Fits (P:Program) (t:TypeId) (ek:EK) (jd:Nat):Prop where
 info:vV P t=some (ek.length,jd,EK.cells ek (EK.zero ek))
 ne:ek≠[]
 small:jd≤1048576
theorem CP.sY (c:CP):c.ok c.zero:=by
 cases c<;>simp [CP.ok,CP.zero]
theorem EK.sY:∀ek:List CP,EK.ok ek (EK.zero ek)
 |[]=>trivial
 |[c]=>c.sY
 |c::d::l=>⟨c.sY,EK.sY (d::l)⟩
theorem Fits.sh {ek:EK}{jd:Nat}(h:Fits P t ek jd):rT P t=some ek.length:=by
 obtain⟨e,i,z,h1,h2,h3,h4,_⟩:=jZ h.info
 simp [rT,h1,h2,h4]
theorem MC {ek:EK}(fB:ek≠[]) {z:Array Value}(hz:z.toList=EK.cells ek (EK.zero ek)):∀n:Nat,((Array.range (n*ek.length)).map (fun i=>z[i % z.size]!)).toList=flat ek (List.replicate n (EK.zero ek)):=by
 intro n
 have nc:0<ek.length:=List.length_pos_iff.2 fB
 have hzs:z.size=ek.length:=by rw [←ZE5,hz,EK.bM]
 apply List.ext_getElem?
 intro i
 by_cases hi:i<n*ek.length
 ·have hk:i / ek.length<n:=Nat.div_lt_of_lt_mul (by rwa [Nat.mul_comm])
  have hj:i % ek.length<ek.length:=Nat.mod_lt _ nc
  have h1:=UF ek (List.replicate n (EK.zero ek)) (i / ek.length) (i % ek.length) (EK.zero ek) (by simp [hk]) hj
  have C3:i / ek.length*ek.length+i % ek.length=i:=by rw [Nat.mul_comm];exact Nat.div_add_mod i ek.length
  rw [C3] at h1
  rw [h1,←hz]
  have h2:z.toList[i % ek.length]?=some z[i % ek.length]!:=by
   simp [Array.getElem!_eq_getD,ZE9,hzs,hj]
  rw [h2]
  simp [hi,hzs]
 ·rw [ZD9 (by simp;omega),ZD9 (by rw [cC];simp;omega)]
def abU (ex:Bool) (d:Nat) (ek:EK) (l:List (EK.Ty ek)) (p:Prop) (pt:Prop):Q Rs:=
 match ex with
 |true=>.ask (.b (1000+d)) fun
  |none=>.ret (.nk p [(.s d,.s (.xs (1000+d) ek.length 0 l.length)),(.b (1000+d),.rs ek l)])
  |some _=>.ret .no
 |false=>.ret (.nk (p∧pt) [(.s d,.s (.sl ek l.length))])
theorem H6 {c:Ctx}{T:bc}{β:Nat→Nat}{a:Act}{w w':World}(hh:Holds N c T β τ a w) (hd:d<N) {ex:Bool}{ek:EK}(fB:ek≠[]) {l z:List (EK.Ty ek)}{p pt:Prop}(hp:((abU ex d ek l p pt).run τ).pre) (hpt:pt→∀x∈l,EK.ok ek x) (hz:∀x∈z,EK.ok ek x)
  {cs:Array Value} {e:TypeId} (kh:cs.toList=flat ek (l++z)) (hpu:oQ w (.cells cs e (0,0)) w') {o:Oper} (ho:o.dst=some d) {cap:Nat} (E9:cap=l.length+z.length) (hex:p→(execOp a.eval o).run P w= .ok (.value (.slice (some ⟨w.heap.size,0,none⟩) l.length cap)) w')
  {K:Act→World→Prop} {Q':Exit→Act→World→Prop} (hK:∀u a' w',((abU ex d ek l p pt).run τ).out u→Rel N c (τ.ap u) a' w'→K a' w'):o.wp P a w K Q':=by
 have dk:cs.size=cap*ek.length:=by rw [←ZE5,kh,cC,E9,ZA0]
 cases ex with
 |true=>
  simp only [abU,Q.run] at hp hK
  cases hn:τ (.b (1000+d)) with
  |some v=>rw [hn] at hp;exact hp.elim
  |none=>
   rw [hn] at hp hK
   have hp':p:=hp
   unfold Oper.wp
   rw [hex hp']
   show K (a.put o.dst _) w'
   rw [ho]
   have h1:=hh.tH (d:=1000+d) (by omega) hn (av:=.rs ek l) (cs:=cs) (e:=e) hpu ⟨fB,z,kh,hz⟩ (by simp [AV.boxes])
   refine hK _ _ _ rfl ⟨_,_,h1.put hd (av:=.s (.xs (1000+d) ek.length 0 l.length)) (.inr ⟨cap,cs.size,?_,by omega,?_,by rw [ZA7,dk];exact ZB6 _⟩) (by simp [AV.boxes,A0.boxes,SV.boxes,ur])⟩
   ·show _=Value.slice (some ⟨oy β (1000+d) w.heap.size (1000+d),0*ek.length,none⟩) _ _
    unfold oy;rw [if_pos rfl,ZG8]
   ·unfold oy xq;rw [if_pos rfl,if_pos rfl]
 |false=>
  simp only [abU,Q.run] at hp hK
  obtain⟨hp1,hp2⟩:p∧pt:=hp
  unfold Oper.wp
  rw [hex hp1]
  show K (a.put o.dst _) w'
  rw [ho]
  have qU:∀x∈l++z,EK.ok ek x:=fun x hx=>by
   rcases ZB5.1 hx with h |h
   ·exact hpt hp2 x h
   ·exact hz x h
  have h1:=hh.CK (k:=.ty ek cap) hpu ⟨fB,cs,e,(0,0),l++z,hpu.new,JG _,by simp [E9],qU,kh⟩
  refine hK _ _ _ rfl ⟨_,_,h1.put hd (av:=.s (.sl ek l.length)) (.inr ⟨w.heap.size,0,cap,cap,by rw [ZG8],by omega,by unfold xq;rw [if_pos rfl],by omega⟩) (by simp [AV.boxes,A0.boxes,SV.boxes])⟩
def adT (ex:Bool) (d:Nat) (ek:EK) (v u:AV):Q Rs:=
 match v,u with
 |.o (.s (.v (.int .i64 m))),.o (.s (.v (.int .i64 n)))=>abU ex d ek (List.replicate n.toNat (EK.zero ek)) (m=n∧0≤n∧n≤1048576) True
 |_,_=>.ret .no
theorem aix {ex:Bool}{ek:EK}{jd:Nat}(hf:Fits P t ek jd) (hd:d<N):fw P N ⟨some d,.makeSlice t x y,ty,pos,af,g⟩ (cb x fun v=>cb y fun u=>adT ex d ek v u):=by
 intro c τ a w hr hp K Q' hK
 obtain⟨T,β,hh⟩:=hr
 rw [da] at hp hK
 cases hx:ev τ x with
 |none=>rw [hx] at hp;exact hp.elim
 |some v=>
  rw [hx] at hp hK
  simp only [da] at hp hK
  cases hy:ev τ y with
  |none=>rw [hy] at hp;exact hp.elim
  |some u=>
   rw [hy] at hp hK
   simp only at hp hK
   unfold adT at hp hK
   split at hp
   ·rename_i m n
    simp only at hK
    obtain⟨e,i,z,ht,hi,hz,dk,hby,hzs⟩:=jZ hf.info
    have e1:a.eval x= .int .i64 m:=eR hh hx
    have e2:a.eval y= .int .i64 n:=eR hh hy
    let cs:Array Value:=(Array.range (n.toNat*ek.length)).map (fun k=>z.cells[k % z.cells.size]!)
    have kh:cs.toList=flat ek (List.replicate n.toNat (EK.zero ek)++[]):=by
     rw [ZE4];exact MC hf.ne hzs n.toNat
    refine H6 hh hd hf.ne (z:=[]) hp (fun _ x hx=>by rw [List.eq_of_mem_replicate hx];exact EK.sY ek) (by simp) kh (e:=e) (w':= { w with heap:=w.heap.push (.cells cs e (0,0)) }) ⟨rfl,rfl,rfl,rfl⟩ rfl (cap:=n.toNat) (by simp) ?_ hK
    rintro⟨rfl,h0,h1⟩
    have hb:(i.bytes:Int)*m≤281474976710656:=by
     have hs:=hf.small
     rw [hby]
     have h2:(jd:Int)*m≤1048576*1048576:=Int.mul_le_mul (by omega) h1 h0 (by omega)
     omega
    have zk:¬(m<0):=by omega
    have hw:=oV (n:=m) (by simp only [gO];omega) (by simp only [imax];omega)
    have hb':¬(281474976710656<(i.bytes:Int)*m):=by omega
    rw [ZG1]
    by_cases hz0:m.toNat*i.size=0
    ·have T8:cs=(Array.range (m.toNat*i.size)).map (fun k=>(#[]:Array Value)[k % (#[]:Array Value).size]!):=by
      have:m.toNat*ek.length=0:=by rw [←dk];exact hz0
      simp [cs,this,hz0]
     rw [T8]
     simp [execOp,e1,e2,Instr.makeSlice,run_underlying ht,asInt,asIntOf,typeInfo,hi,hw,zk,hb',sizeOf,hz0,newRow]
    ·have T8:cs=(Array.range (m.toNat*i.size)).map (fun k=>z.cells[k % z.cells.size]!):=by simp only [cs,dk]
     rw [T8]
     simp [execOp,e1,e2,Instr.makeSlice,run_underlying ht,asInt,asIntOf,typeInfo,hi,hw,zk,hb',sizeOf,hz0,newRow,zeroValue,hz]
   ·exact hp.elim
def BW (ek:EK):Nat→List (Nat×AV)→Option (List (EK.Ty ek))
 |_,[]=>some []
 |j,p::l=>match EI p.2 with
  |some m=>bif Nat.beq p.1 j&&mq m then (match EK.ofS ek m,BW ek (j+1) l with
   |some r,some rs=>some (r::rs)
   |_,_=>none) else none
  |none=>none
def SX (ek:EK):List (EK.Ty ek)→Prop
 |[]=>True
 |x::l=>EK.ok ek x∧SX ek l
theorem CG {ek:EK}:∀{l:List (EK.Ty ek)},SX ek l→∀x∈l,EK.ok ek x
 |[],_,x,h=>by cases h
 |y::l,h,x,hx=>by
  rcases ZB9.1 hx with rfl |hx
  ·exact h.1
  ·exact CG h.2 x hx
theorem HF {ek:EK}:∀{l:List (Nat×AV)}{j:Nat}{rs:List (EK.Ty ek)},BW ek j l=some rs→rs.length=l.length
 |[],_,rs,h=>by cases h;rfl
 |p::l,j,rs,h=>by
  simp only [BW] at h
  split at h
  ·rename_i m _
   cases hc:Nat.beq p.1 j&&mq m with
   |false=>rw [hc] at h;cases h
   |true=>
    rw [hc] at h
    simp only [cond_true] at h
    split at h
    ·rename_i r rs' _ h2
     cases h
     simp [HF h2]
    ·cases h
  ·cases h
theorem HE {c:Ctx}{T:bc}{β:Nat→Nat}{a:Act}{w:World}(hh:Holds N c T β τ a w) {ek:EK}:∀(parts:List (Nat×Operand)) (vs:List (Nat×AV)) (j:Nat) (rs:List (EK.Ty ek)) (cs:Array Value),evL τ parts=some vs→BW ek j vs=some rs→(j+parts.length)*ek.length≤cs.size→
  ∃mr,Instr.fill (fun i=>some (i*ek.length,ek.length)) cs (parts.map fun p=>(p.1,a.eval p.2))=some mr∧mr.toList=cs.toList.take (j*ek.length)++flat ek rs++cs.toList.drop ((j+parts.length)*ek.length)
 |[],vs,j,rs,cs,h1,h2,h3=>by
  cases h1;cases h2
  exact⟨cs,rfl,by simp [aeR]⟩
 |p::parts,vs,j,rs,cs,h1,h2,h3=>by
  simp only [evL] at h1
  split at h1
  ·rename_i v hv
   split at h1
   ·rename_i vs' I8
    cases h1
    simp only [BW] at h2
    split at h2
    ·rename_i m hm
     cases hc:Nat.beq p.1 j&&mq m with
     |false=>rw [hc] at h2;cases h2
     |true=>
      rw [hc] at h2
      simp only [cond_true] at h2
      split at h2
      ·rename_i r rs' hr hrs
       cases h2
       simp only [ZB0] at hc
       have hj:p.1=j:=by simpa using hc.1
       obtain⟨c7,_⟩:=xe hm hc.2 (eR hh hv)
       have JE:=EK.wO ek hr c7
       have dk:(a.eval p.2).cells.size=ek.length:=by rw [←ZE5,JE,EK.bM]
       simp only [ZA1] at h3
       have oi:j*ek.length+ek.length≤cs.size:=by
        have:(j+1)*ek.length≤(j+(parts.length+1))*ek.length:=ZG4 _ (by omega)
        rw [ZE3,Nat.one_mul] at this;omega
       obtain⟨mr,g1,g2⟩:=HE hh parts vs' (j+1) rs' (spl cs (j*ek.length) (a.eval p.2).cells.toList) I8 hrs (by
        have e:j+1+parts.length=j+(parts.length+1):=by omega
        rw [nL,e];exact h3)
       refine⟨mr,?_,?_⟩
       ·rw [ZE8,hj,DA (place:=fun i=>some (i*ek.length,ek.length)) rfl dk oi]
        exact g1
       ·rw [g2,mJ _ _ _ (by rw [JE,EK.bM];exact oi),JE,iU,EK.bM]
        have hl1:(cs.toList.take (j*ek.length)).length=j*ek.length:=by simp;omega
        have e1:(j+1)*ek.length=(cs.toList.take (j*ek.length)++EK.cells ek r).length:=by
         rw [ZA0,hl1,EK.bM,ZE3,Nat.one_mul]
        have e2:(j+1+parts.length)*ek.length=(cs.toList.take (j*ek.length)++EK.cells ek r).length+parts.length*ek.length:=by
         rw [←e1,←ZE3]
        rw [e2,e1,List.take_left',ZF7,List.drop_drop]
        ·have e3:j*ek.length+ek.length+parts.length*ek.length=(j+(parts.length+1))*ek.length:=by
          rw [ZE3 j,ZE3,Nat.one_mul];omega
         rw [e3]
         simp [ZD2]
        ·rfl
      ·cases h2
    ·cases h2
   ·cases h1
  ·cases h1
def QE (ex:Bool) (d k:Nat) (ek:EK) (vs:List (Nat×AV)):Q Rs:=
 match BW ek 0 vs with
 |some l=>bif Nat.beq l.length k&&Nat.ble (k*ek.length) 16777216 then abU ex d ek l True (SX ek l) else .ret .no
 |none=>.ret .no
theorem afG {ex:Bool}{ek:EK}{jd k:Nat}{parts:Array (Nat×Operand)}(hf:Fits P t ek jd) (hd:d<N):fw P N ⟨some d,.buildSlice t k parts,ty,pos,af,g⟩ (QG parts.toList fun vs=>QE ex d k ek vs):=by
 intro c τ a w hr hp K Q' hK
 obtain⟨T,β,hh⟩:=hr
 rw [AQ] at hp hK
 cases hx:evL τ parts.toList with
 |none=>rw [hx] at hp;exact hp.elim
 |some vs=>
  rw [hx] at hp hK
  simp only at hp hK
  unfold QE at hp hK
  split at hp
  ·rename_i l hl
   simp only [hl] at hK
   cases hc:Nat.beq l.length k&&Nat.ble (k*ek.length) 16777216 with
   |false=>rw [hc] at hp;exact hp.elim
   |true=>
    rw [hc] at hp hK
    simp only [cond_true] at hp hK
    simp only [ZB0] at hc
    have hk:l.length=k:=by simpa using hc.1
    have hle:=aZ hc.2
    obtain⟨e,i,z,ht,hi,hz,dk,hby,hzs⟩:=jZ hf.info
    let cs0:Array Value:=if k*i.size=0 then (Array.range (k*i.size)).map (fun k=>(#[]:Array Value)[k % (#[]:Array Value).size]!) else (Array.range (k*i.size)).map (fun k=>z.cells[k % z.cells.size]!)
    have T8:cs0.size=k*ek.length:=by simp only [cs0];split<;>simp [dk]
    have rY:parts.toList.length=k:=by
     rw [←hk,HF hl]
     have:∀(ps:List (Nat×Operand)) (vs:List (Nat×AV)),evL τ ps=some vs→ps.length=vs.length:=by
      intro ps
      induction ps with
      |nil=>intro vs h;cases h;rfl
      |cons p ps ih=>
       intro vs h
       simp only [evL] at h
       split at h
       ·split at h
        ·rename_i vs' h';cases h;simp [ih _ h']
        ·cases h
       ·cases h
     exact this _ _ hx
    obtain⟨mr,aeD,aib⟩:=HE hh parts.toList vs 0 l cs0 hx hl (by rw [rY,T8,ZA7];exact ZB6 _)
    have kh:mr.toList=flat ek (l++[]):=by
     rw [aib,rY,ZG8,ZA7,List.take_zero,ZC9,List.drop_of_length_le (by simp [T8]),ZE4,ZE4]
    refine H6 hh hd hf.ne (z:=[]) hp (fun h=>CG h) (by simp) kh (e:=e) (w':= { w with heap:=w.heap.push (.cells mr e (0,0)) }) ⟨rfl,rfl,rfl,rfl⟩ rfl (cap:=k) (by simp [hk]) (fun _=>?_) hK
    have h24:¬(16777216<k*i.size):=by rw [dk];omega
    have tS:Instr.fill (fun x=>some (x*i.size,i.size)) cs0 (parts.toList.map fun p=>(p.1,a.eval p.2))=some mr:=by rw [dk];exact aeD
    rw [hk]
    by_cases hz0:k*i.size=0
    ·simp only [cs0,if_pos hz0] at tS
     simp [execOp,Instr.buildSlice,run_underlying ht,sizeOf,typeInfo,hi,h24,hz0,newRow]
     rw [hz0] at tS
     simp at tS
     simp [tS]
    ·simp only [cs0,if_neg hz0] at tS
     simp [execOp,Instr.buildSlice,run_underlying ht,sizeOf,typeInfo,hi,h24,hz0,newRow,zeroValue,hz]
     simp [tS]
  ·exact hp.elim
end
end GL
end Go.Proofs.YtbfgjadbfjkcdaaGreatDoor
