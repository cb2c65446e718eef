/- FnTreeOk returns true for every code (its row lists package variables, tied by the card): part 6 of 39. -/
import Derived.Laws.Append
import Derived.Laws.BytesString
import Derived.Laws.MakeOwn
import Derived.Test.YtbfgjadbfjkcdaaGreatDoorPae
set_option maxHeartbeats 20000000
set_option linter.all false
namespace Go.Proofs.YtbfgjadbfjkcdaaGreatDoor
namespace GL
def spl (cs:Array Value) (k:Nat):List Value→Array Value
 |[]=>cs
 |v::vs=>spl (cs.setIfInBounds k v) (k+1) vs
def aaQ (l:List SV) (k:Nat):List SV→List SV
 |[]=>l
 |x::m=>aaQ (l.set k x) (k+1) m
theorem nE:∀(vs:List Value) (cs:Array Value) (k:Nat),(spl cs k vs).size=cs.size
 |[],_,_=>rfl
 |_::vs,cs,k=>by simp [spl,nE vs]
theorem QU:∀(m l:List SV) (k:Nat),(aaQ l k m).length=l.length
 |[],_,_=>rfl
 |_::m,l,k=>by simp [aaQ,QU m]
theorem mC:∀(vs:List Value) (cs:Array Value) (k:Nat),k+vs.length≤cs.size→(spl cs k vs).toList=cs.toList.take k++vs++cs.toList.drop (k+vs.length)
 |[],cs,k,_=>by simp [spl]
 |v::vs,cs,k,h=>by
  simp only [List.length_cons] at h
  rw [spl,mC vs _ (k+1) (by simp;omega),Array.toList_setIfInBounds]
  have hk:k < cs.toList.length:=by simp;omega
  rw [List.take_set,List.take_succ_eq_append_getElem hk,List.set_append_right _ _ (by simp;omega)]
  have h1:k - (cs.toList.take k).length=0:=by simp;omega
  rw [h1]
  have h2:(cs.toList.set k v).drop (k+1+vs.length)=cs.toList.drop (k+(v::vs).length):=by
   rw [List.drop_set_of_lt (by omega)]
   simp only [List.length_cons]
   congr 1;omega
  rw [h2]
  simp
section
variable {T:a7} {β:Nat→Nat}
theorem RN:∀ {l:List SV} {cs:List Value} (k:Nat) {x:SV} {v:Value},ee T β l cs→x.rel T β v→ee T β (l.set k x) (cs.set k v)
 |[],[],_,_,_,_,_=>trivial
 |_::_,[],_,_,_,h,_=>h.elim
 |[],_::_,_,_,_,h,_=>h.elim
 |_::l,_::cs,0,x,v,h,hx=>⟨hx,h.2⟩
 |_::l,_::cs,k+1,x,v,h,hx=>⟨h.1,RN k h.2 hx⟩
theorem LM:∀ {m:List SV} {vs:List Value} (l:List SV) (cs:Array Value) (k:Nat),ee T β m vs→ee T β l cs.toList→ee T β (aaQ l k m) (spl cs k vs).toList
 |[],[],_,_,_,_,h=>h
 |_::_,[],_,_,_,h,_=>h.elim
 |[],_::_,_,_,_,h,_=>h.elim
 |x::m,v::vs,l,cs,k,hm,h=>by
  refine LM (l.set k x) (cs.setIfInBounds k v) (k+1) hm.2 ?_
  rw [Array.toList_setIfInBounds]
  exact RN k h hm.1
theorem GG {i:Nat}:∀(m l:List SV) (k:Nat),i∈bX (aaQ l k m)→i∈bX l∨i∈bX m
 |[],_,_,h=>.inl h
 |x::m,l,k,h=>by
  rcases GG m (l.set k x) (k+1) h with h1 |h1
  ·rw [gC] at h1
   obtain ⟨y,hy,hi⟩:=h1
   rcases List.mem_or_eq_of_mem_set hy with h2 |h2
   ·exact .inl (gC.2 ⟨y,h2,hi⟩)
   ·exact .inr (gC.2 ⟨x,by simp,by rw [←h2];exact hi⟩)
  ·right
   rw [gC] at h1 ⊢
   obtain ⟨y,hy,hi⟩:=h1
   exact ⟨y,by simp [hy],hi⟩
def xR:List SV→Nat→List SV→List SV
 |[],_,_=>[]
 |x::l,0,[]=>x::l
 |_::l,0,y::m=>y::xR l 0 m
 |x::l,k+1,m=>x::xR l k m
theorem QT:∀(l:List SV) (k:Nat),xR l k []=l
 |[],0=>rfl
 |[],_+1=>rfl
 |_::_,0=>rfl
 |x::l,k+1=>by show x::xR l k []=x::l;rw [QT l k]
theorem LC:∀(k:Nat) (m:List SV),xR [] k m=[]
 |0,[]=>rfl
 |0,_::_=>rfl
 |_+1,_=>rfl
theorem LD (y:SV) (m:List SV):∀(l:List SV) (k:Nat),xR l k (y::m)=xR (l.set k y) (k+1) m
 |[],k=>by rw [List.set_nil,LC,LC]
 |_::_,0=>rfl
 |x::l,k+1=>by show x::xR l k (y::m)=x::xR (l.set k y) (k+1) m;rw [LD y m l k]
theorem N1:∀(m l:List SV) (k:Nat),xR l k m=aaQ l k m
 |[],l,k=>QT l k
 |y::m,l,k=>by rw [LD,N1 m];rfl
theorem RM {m:List SV} {vs:List Value} (l:List SV) (cs:Array Value) (k:Nat) (h1:ee T β m vs) (h2:ee T β l cs.toList):ee T β (xR l k m) (spl cs k vs).toList:=by rw [N1];exact LM l cs k h1 h2
theorem GF {i:Nat} (m l:List SV) (k:Nat) (h:i∈bX (xR l k m)):i∈bX l∨i∈bX m:=by rw [N1] at h;exact GG m l k h
end
theorem ab8 {w:World} {b:Nat} {cs:Array Value} {e:TypeId} {fr:Nat×Nat} (h:w.heap[b]?=some (.cells cs e fr)) (o:Nat):w.frozen? ⟨b,o,none⟩=(decide (fr.1≤o)&&decide (o < fr.2)):=by
 simp [World.frozen?,h]
theorem N4 {w:World} {b:Nat} {cs:Array Value} {e:TypeId} {fr:Nat×Nat} (h:w.heap[b]?=some (.cells cs e fr)) (o:Nat) (v:Value):QB w b (.cells (cs.setIfInBounds o v) e fr) (w.setCell ⟨b,o,none⟩ v) where
 at_:=by simp [World.setCell,Array.getElem?_modify,h]
 other:=fun k hk=>by simp only [World.setCell,Array.getElem?_modify];rw [if_neg (by omega)]
 size:=by simp [World.setCell]
 os:=rfl
 tape:=rfl
 output:=rfl
section
variable {P:Program} {N:Nat} {τ:St}
variable {d:Nat} {x y z:Operand} {t u ty:TypeId} {pos:String} {af:Array Edge} {g:Option (Nat×Bool)}
theorem pq {b off:Nat} {e:TypeId} {fr:Nat×Nat}:∀(vs:List Value) (i:Nat) (cs:Array Value) (w:World),w.heap[b]?=some (.cells cs e fr)→off+i+vs.length≤cs.size→free fr cs.size→(∀v∈vs,one v=true)→
  ∃w',(storeCells ⟨b,off,none⟩ vs i).run P w= .ok () w'∧QB w b (.cells (spl cs (off+i) vs) e fr) w'
 |[],i,cs,w,h,_,_,_=>⟨w,by simp [storeCells],⟨h,fun _ _=>rfl,rfl,rfl,rfl,rfl⟩⟩
 |v::vs,i,cs,w,h,hle,j6,TT=>by
  simp only [List.length_cons] at hle
  have hc:w.cell? ⟨b,off+i,none⟩=some (cs[off+i]'(by omega)):=by rw [rh h];exact Array.getElem?_eq_getElem (by omega)
  have hf:w.frozen? ⟨b,off+i,none⟩=false:=by rw [ab8 h];exact agk j6 _ (by omega)
  have hs:(store ((⟨b,off,none⟩:Addr).add i) v).run P w= .ok () (w.setCell ⟨b,off+i,none⟩ v):=by
   rw [fS,run_store P w _ v .plain (TT v (by simp)),hc]
   simp [hf]
  have ho:=N4 h (off+i) v
  obtain ⟨w',hr,hw⟩:=pq (off:=off) vs (i+1) (cs.setIfInBounds (off+i) v) _ ho.at_ (by simp;omega) (by simpa using j6) (fun x hx=>TT x (by simp [hx]))
  refine ⟨w',?_,?_⟩
  ·simp only [storeCells,Sem.run_bind,hs,Result.andThen_ok]
   exact hr
  ·exact ⟨hw.at_,fun k hk=>(hw.other k hk).trans (ho.other k hk),hw.size.trans ho.size,hw.os.trans ho.os,hw.tape.trans ho.tape,hw.output.trans ho.output⟩
theorem N5 {gg:Bool} {n:Nat} (h:Sh P t=some (gg,n)) {b off:Nat} {e:TypeId} {fr:Nat×Nat} {cs:Array Value} {w:World} {v:Value} (hb:w.heap[b]?=some (.cells cs e fr)) (hn:v.cells.size=n) (hle:off+n≤cs.size) (j6:free fr cs.size) (TT:∀x∈v.cells.toList,one x=true):
  ∃w',(storeVar t ⟨b,off,none⟩ v).run P w= .ok () w'∧QB w b (.cells (spl cs off v.cells.toList) e fr) w':=by
 obtain ⟨_,h2⟩:=qx h w
 obtain ⟨w',hr,hw⟩:=pq (P:=P) (off:=off) v.cells.toList 0 cs w hb (by simp [hn];exact hle) j6 TT
 refine ⟨w',?_,by simpa using hw⟩
 simp [storeVar,h2,hn,hr]
def SV.one:SV→Bool
 | .v x=>GL.one x
 |_=>true
def mf:List SV→Bool
 |[]=>true
 |x::l=>x.one&&mf l
theorem SV.OV {T:a7} {β:Nat→Nat} {x:SV} {v:Value} (h:x.one=true) (hr:x.rel T β v):GL.one v=true:=by
 cases x with
 |v x=>have:v=x:=hr;subst this;exact h
 |q b=>have:v=_:=hr;subst this;rfl
 |bp i o=>have:v=_:=hr;subst this;rfl
 |xp i sz k j=>obtain ⟨rfl,_⟩:=hr;rfl
 |xs i sz o m=>rcases hr with ⟨_,p,rfl⟩ |⟨cap,n,rfl,_⟩<;>rfl
 |ep ek j=>obtain ⟨b,o,n,rfl,_⟩:=hr;rfl
 |sl ek len=>rcases hr with ⟨_,p,rfl⟩ |⟨b,o,cap,n,rfl,_⟩<;>rfl
 |vw ek l=>rcases hr with ⟨_,p,cap,rfl⟩ |⟨b,o,cap,cs,e,fr,rfl,_⟩<;>rfl
 |vz ek l=>rcases hr with ⟨_,p,cap,rfl⟩ |⟨b,o,cap,cs,rfl,_⟩<;>rfl
 |vp ek x j=>obtain ⟨b,o,cs,rfl,_⟩:=hr;rfl
 |vs l j=>obtain ⟨b,cs,rfl,_⟩:=hr;rfl
 |er b=>
  cases b with
  |true=>have:v= .nilIface:=hr;subst this;rfl
  |false=>obtain ⟨t,x,rfl⟩:=hr;rfl
 |e0=>obtain ⟨p,rfl⟩:=hr;rfl
theorem RO {T:a7} {β:Nat→Nat}:∀ {l:List SV} {cs:List Value},mf l=true→ee T β l cs→∀v∈cs,GL.one v=true
 |[],[],_,_,v,hv=>by cases hv
 |_::_,[],_,h,_,_=>h.elim
 |[],_::_,_,h,_,_=>h.elim
 |x::l,v::cs,h1,h2,y,hy=>by
  simp only [mf,Bool.and_eq_true] at h1
  rcases List.mem_cons.1 hy with rfl |hy
  ·exact SV.OV h1.1 h2.1
  ·exact RO h1.2 h2.2 y hy
theorem z8 {v:Value} (h:GL.one v=true):v.cells= #[v]:=by cases v<;>first |rfl |(simp [GL.one,Value.oneCell'] at h)
def D4:AV→Option (List SV)
 | .o (.a l)=>some l
 | .o (.s x)=>some [x]
 |_=>none
theorem wX {T:a7} {β:Nat→Nat} {x:AV} {l:List SV} (h:D4 x=some l) (TT:mf l=true) {v:Value} (hr:x.rel T β v):ee T β l v.cells.toList∧∀y∈v.cells.toList,GL.one y=true:=by
 cases x with
 |t l=>cases h
 |rs ek l=>cases h
 |zz=>cases h
 |fn f l=>cases h
 |o x=>
  cases x with
  |s y=>
   cases h
   simp only [mf,Bool.and_true] at TT
   have h1:=SV.OV TT hr
   rw [z8 h1]
   exact ⟨⟨hr,trivial⟩,by simpa using h1⟩
  |a l=>
   cases h
   obtain ⟨cs,rfl,hl⟩:=hr
   exact ⟨hl,RO TT hl⟩
theorem vJ {x:AV} {l:List SV} (h:D4 x=some l) {i:Nat} (hi:i∈bX l):i∈x.boxes:=by
 cases x with
 |t l=>cases h
 |rs ek l=>cases h
 |zz=>cases h
 |fn f l=>cases h
 |o x=>
  cases x with
  |s y=>cases h;simpa [AV.boxes,A0.boxes,bX] using hi
  |a l=>cases h;exact hi
def CP.ofS:(c:CP)→SV→Option c.Ty
 | .i64, .v (.int .i64 n)=>some n
 | .row, .v (.int .i64 n)=>some n
 | .u8, .v (.int .u8 n)=>some n
 | .str _, .v (.string s)=>some s
 | .bool, .q b=>some b
 | .bool, .v (.bool b)=>some b
 |_,_=>none
def EK.ofS:(ek:List CP)→List SV→Option (EK.Ty ek)
 |[],[]=>some ()
 |[c],[x]=>c.ofS x
 |c::d::l,x::m=>match c.ofS x,EK.ofS (d::l) m with
  |some v,some r=>some (v,r)
  |_,_=>none
 |_,_=>none
theorem CP.E8 {T:a7} {β:Nat→Nat} {c:CP} {x:SV} {r:c.Ty} (h:c.ofS x=some r) {v:Value} (hr:x.rel T β v):v=c.val r:=by
 unfold CP.ofS at h
 split at h<;>first |(cases h;exact hr) |cases h
theorem EK.wH {T:a7} {β:Nat→Nat}:∀(ek:List CP) {l:List SV} {r:EK.Ty ek},EK.ofS ek l=some r→∀ {vs:List Value},ee T β l vs→vs=EK.cells ek r
 |[],[],_,_,[],_=>rfl
 |[],[],_,_,_::_,h=>h.elim
 |[],_::_,_,h,_,_=>by simp [EK.ofS] at h
 |[c],[],_,h,_,_=>by simp [EK.ofS] at h
 |[c],[x],r,h,[],h'=>h'.elim
 |[c],[x],r,h,[v],h'=>by
  have:=CP.E8 (c:=c) h h'.1
  simp [EK.cells,this]
 |[c],[x],r,h,_::_::_,h'=>h'.2.elim
 |[c],_::_::_,r,h,_,_=>by simp [EK.ofS] at h
 |c::d::l,[],r,h,_,_=>by simp [EK.ofS] at h
 |c::d::l,x::m,r,h,[],h'=>h'.elim
 |c::d::l,x::m,r,h,v::vs,h'=>by
  simp only [EK.ofS] at h
  split at h
  ·rename_i r1 r2 h1 h2
   cases h
   rw [CP.E8 h1 h'.1,EK.wH (d::l) h2 h'.2]
   rfl
  ·cases h
def EK.EN:(ek:List CP)→EK.Ty ek→Nat→SV→Option (EK.Ty ek)
 |[],_,_,_=>none
 |[c],_,0,v=>c.ofS v
 |[_],_,_+1,_=>none
 |c::_::_,x,0,v=>match c.ofS v with
  |some y=>some (y,x.2)
  |none=>none
 |_::d::l,x,j+1,v=>match EK.EN (d::l) x.2 j v with
  |some y=>some (x.1,y)
  |none=>none
theorem EK.GI {T:a7} {β:Nat→Nat}:∀(ek:List CP) {x r:EK.Ty ek} {j:Nat} {s:SV},EK.EN ek x j s=some r→∀ {v:Value},s.rel T β v→EK.cells ek r=(EK.cells ek x).set j v
 |[],_,_,_,_,h,_,_=>by simp [EK.EN] at h
 |[c],x,r,0,s,h,v,hr=>by
  simp only [EK.EN] at h
  simp [EK.cells,CP.E8 h hr]
 |[c],x,r,j+1,s,h,v,hr=>by simp [EK.EN] at h
 |c::d::l,x,r,0,s,h,v,hr=>by
  simp only [EK.EN] at h
  split at h
  ·rename_i y hy
   cases h
   simp [EK.cells,CP.E8 hy hr]
  ·cases h
 |c::d::l,x,r,j+1,s,h,v,hr=>by
  simp only [EK.EN] at h
  split at h
  ·rename_i y hy
   cases h
   have:=EK.GI (d::l) hy hr
   simp [EK.cells,this]
  ·cases h
theorem T6 (ek:EK):∀(l:List (EK.Ty ek)) (k:Nat) (r:EK.Ty ek),k < l.length→flat ek (l.set k r)=(flat ek l).take (k * ek.length)++EK.cells ek r++(flat ek l).drop (k * ek.length+ek.length)
 |[],_,_,h=>by simp at h
 |x::l,0,r,_=>by
  simp only [List.set_cons_zero,iL,Nat.zero_mul,List.take_zero,List.nil_append,Nat.zero_add]
  congr 1
  rw [←EK.bF ek x];simp
 |x::l,k+1,r,h=>by
  simp only [List.set_cons_succ,iL]
  rw [T6 ek l k r (by simpa using h)]
  have e1:(k+1) * ek.length=(EK.cells ek x).length+k * ek.length:=by rw [EK.bF,Nat.add_mul,Nat.one_mul,Nat.add_comm]
  have e2:(k+1) * ek.length+ek.length=(EK.cells ek x).length+(k * ek.length+ek.length):=by rw [e1,Nat.add_assoc]
  rw [e2,e1,List.take_length_add_append,List.drop_length_add_append]
  simp [List.append_assoc]
theorem VB {l vs:List Value} {o j:Nat} (r:List Value) (v:Value) (hr:(l.drop o).take r.length=r) (hj:j < r.length) (ho:o+r.length≤l.length) (IX:vs=[v]):
  l.take (o+j)++vs++l.drop (o+j+vs.length)=l.take o++r.set j v++l.drop (o+r.length):=by
 subst IX
 have h1:l.take (o+j)=l.take o++r.take j:=by
  rw [List.take_add,←hr,List.take_take,Nat.min_eq_left (by omega)]
 have h2:l.drop (o+j+1)=r.drop (j+1)++l.drop (o+r.length):=by
  have:l.drop o=r++l.drop (o+r.length):=by
   rw [←List.take_append_drop r.length (l.drop o),hr,List.drop_drop]
  rw [Nat.add_assoc,←List.drop_drop,this,List.drop_append_of_le_length (by omega)]
 rw [List.length_singleton,h1,h2,List.set_eq_take_append_cons_drop,if_pos hj]
 simp
def U7 (n:Nat) (v u:AV):Q Rs:=
 match D4 u with
 |none=>.ret .no
 |some m=>bif Nat.beq m.length n&&mf m then (match v with
  | .o (.s (.bp i o))=>sN i fun
   | .o (.a l)=>.ret (bif Nat.ble (o+n) l.length then .go [(.b i, .a (xR l o m))] else .no)
   |_=>.ret .no
  | .o (.s (.xp i sz k j))=>sN i fun
   | .rs ek l=>bif Nat.beq ek.length sz then (bif Nat.beq n sz&&Nat.beq j 0 then (match EK.ofS ek m with
    |some r=>.ret (.mZ (k < l.length) [(.b i, .rs ek (l.set k r))])
    |none=>.ret .no) else match m with
     |[s]=>(match EK.EN ek (nth ek l k) j s with
      |some r=>.ret (.mZ (k < l.length) [(.b i, .rs ek (l.set k r))])
      |none=>.ret .no)
     |_=>.ret .no) else .ret .no
   |_=>.ret .no
  | .o (.s (.ep ek j))=>bif Nat.beq n ek.length&&Nat.beq j 0 then (match EK.ofS ek m with
   |some r=>.ret (.mZ (EK.ok ek r) [])
   |none=>.ret .no) else .ret .no
  |_=>.ret .no) else .ret .no
theorem LG {ek:EK} {l z:List (EK.Ty ek)} {cs:Array Value} (j7:cs.toList=flat ek (l++z)) {k:Nat} (hk:k < l.length) (r:EK.Ty ek) {vs:List Value} {j:Nat} (hle:k * ek.length+j+vs.length≤cs.size)
  (h:(j=0∧vs=EK.cells ek r)∨(∃v,vs=[v]∧j < ek.length∧EK.cells ek r=(EK.cells ek (nth ek l k)).set j v)):(spl cs (k * ek.length+j) vs).toList=flat ek (l.set k r++z):=by
 have hkz:k < (l++z).length:=by simp;omega
 have aef:(l.set k r++z)=(l++z).set k r:=by rw [List.set_append_left _ _ hk]
 rw [aef,T6 ek (l++z) k r hkz,mC _ _ _ hle,j7]
 rcases h with ⟨rfl,rfl⟩ |⟨v,rfl,hj,hr⟩
 ·rw [Nat.add_zero,EK.bF]
 ·have h1:((flat ek (l++z)).drop (k * ek.length)).take (EK.cells ek (nth ek l k)).length=EK.cells ek (nth ek l k):=by
   rw [EK.bF]
   exact aad ek (l++z) k _ (by rw [List.getElem?_append_left hk];exact oB hk)
  have hlen:k * ek.length+(EK.cells ek (nth ek l k)).length≤(flat ek (l++z)).length:=by
   rw [EK.bF,ct]
   have:(k+1) * ek.length≤(l++z).length * ek.length:=Nat.mul_le_mul_right _ hkz
   rw [Nat.add_mul,Nat.one_mul] at this
   exact this
  rw [hr,VB (EK.cells ek (nth ek l k)) v h1 (by rw [EK.bF];exact hj) hlen rfl,EK.bF]
theorem MV {ek:EK} {l z:List (EK.Ty ek)} {cs:Array Value} (j7:cs.toList=flat ek (l++z)) {k:Nat} (hk:k < l.length):k * ek.length+ek.length≤cs.size:=by
 have h1:cs.size=(l++z).length * ek.length:=by rw [←Array.length_toList,j7,ct]
 have:(k+1) * ek.length≤(l++z).length * ek.length:=Nat.mul_le_mul_right _ (by simp;omega)
 rw [Nat.add_mul,Nat.one_mul] at this
 omega
theorem Y5:∀(ek:List CP) {x r:EK.Ty ek} {j:Nat} {s:SV},EK.EN ek x j s=some r→j < ek.length
 |[],_,_,_,_,h=>by simp [EK.EN] at h
 |[c],x,r,0,s,h=>by simp
 |[c],x,r,j+1,s,h=>by simp [EK.EN] at h
 |c::d::l,x,r,0,s,h=>by simp
 |c::d::l,x,r,j+1,s,h=>by
  simp only [EK.EN] at h
  split at h
  ·rename_i y hy
   have:=Y5 (d::l) hy
   simp at this ⊢;omega
  ·cases h
theorem agw {gg:Bool} {n:Nat} (hS:Sh P t=some (gg,n)):fk P N ⟨none, .store t x y,ty,pos,af,g⟩ (bR x fun v=>bR y fun u=>U7 n v u):=by
 intro c τ a w hr hp K Q' hK
 obtain ⟨T,β,hh⟩:=hr
 rw [cX] at hp hK
 cases hx:ev τ x with
 |none=>rw [hx] at hp;exact hp.elim
 |some v=>
  rw [hx] at hp hK
  simp only [cX] at hp hK
  cases hy:ev τ y with
  |none=>rw [hy] at hp;exact hp.elim
  |some u=>
   rw [hy] at hp hK
   simp only at hp hK
   unfold U7 at hp hK
   cases hm:D4 u with
   |none=>rw [hm] at hp;exact hp.elim
   |some m=>
    rw [hm] at hp hK
    simp only at hp hK
    cases hc:Nat.beq m.length n&&mf m with
    |false=>rw [hc] at hp;exact hp.elim
    |true=>
     rw [hc] at hp hK
     simp only [cond_true] at hp hK
     simp only [Bool.and_eq_true] at hc
     have hmn:m.length=n:=by simpa using hc.1
     have hv:=eK hh hx
     obtain ⟨cV,ajk⟩:=wX hm hc.2 (eK hh hy)
     have hml:=kf cV
     have db:(a.eval y).cells.size=n:=by rw [←hmn,hml];simp
     have hst:∀ {b o:Nat} {cs:Array Value} {e:TypeId} {fr:Nat×Nat},a.eval x= .pointer (some ⟨b,o,none⟩)→w.heap[b]?=some (.cells cs e fr)→o+n≤cs.size→free fr cs.size→
       ∃w',(execOp a.eval ⟨none, .store t x y,ty,pos,af,g⟩).run P w= .ok .skip w'∧QB w b (.cells (spl cs o (a.eval y).cells.toList) e fr) w':=by
      intro b o cs e fr e1 hb hle j6
      obtain ⟨w',fc,hw⟩:=N5 (P:=P) hS (off:=o) (v:=a.eval y) hb db hle j6 ajk
      exact ⟨w',by simp [execOp,e1,Instr.storeAt,Instr.sureAddr,fc],hw⟩
     have fin:∀ {w':World} {u:AM},(execOp a.eval ⟨none, .store t x y,ty,pos,af,g⟩).run P w= .ok .skip w'→K a w'→Oper.wp P ⟨none, .store t x y,ty,pos,af,g⟩ a w K Q':=by
      intro w' u fc hk
      unfold Oper.wp
      rw [fc]
      exact hk
     split at hp
     ·rename_i i o
      simp only [sN,Q.run] at hp hK
      have e:a.eval x= .pointer (some ⟨β i,o,none⟩):=hv
      cases hb:τ (.b i) with
      |none=>rw [hb] at hp;exact hp.elim
      |some av=>
       rw [hb] at hp hK
       simp only at hp hK
       split at hp
       ·rename_i l
        simp only [Q.run] at hp hK
        cases qe:Nat.ble (o+n) l.length with
        |false=>rw [qe] at hp;exact hp.elim
        |true=>
         rw [qe] at hp hK
         have hle:=cH qe
         have hl:live τ i:=ey hb (by intro e;cases e)
         obtain ⟨cs,te,j7,hrl⟩:=hh.boxes i _ hb (by intro e;cases e)
         have ajg:ee T β l cs.toList:=hrl
         have hlen:=kf ajg
         obtain ⟨w',fc,hw⟩:=hst e j7 (by simp at hlen;omega) (I5 _)
         refine fin (u:=[]) fc (hK _ _ _ rfl ⟨T,β,?_⟩)
         refine hh.DG hl j7 hw (nE _ _ _) (show ee T β _ _ from RM l cs o cV ajg) fun j hj=>?_
         rcases GF m l o hj with h3 |h3
         ·exact hh.named (.b i) _ hb j h3
         ·exact gS hh hy j (vJ hm h3)
       ·exact hp.elim
     ·rename_i i sz k j
      simp only [sN,Q.run] at hp hK
      obtain ⟨e,hj⟩:=hv
      cases hb:τ (.b i) with
      |none=>rw [hb] at hp;exact hp.elim
      |some av=>
       rw [hb] at hp hK
       simp only at hp hK
       split at hp
       ·rename_i ek l
        simp only at hK
        have hl:live τ i:=ey hb (by intro e;cases e)
        obtain ⟨cs,te,j7,fq,z,I2,hz⟩:=hh.boxes i _ hb (by intro e;cases e)
        cases hq:Nat.beq ek.length sz with
        |false=>rw [hq] at hp;exact hp.elim
        |true=>
         rw [hq] at hp hK
         have akJ:ek.length=sz:=by simpa using hq
         subst akJ
         simp only [cond_true] at hp hK
         have done:∀(r:EK.Ty ek),k < l.length→((j=0∧(a.eval y).cells.toList=EK.cells ek r)∨(∃v,(a.eval y).cells.toList=[v]∧j < ek.length∧EK.cells ek r=(EK.cells ek (nth ek l k)).set j v))→
           (∀a' w',Rel N c (τ.ap [(.b i, .rs ek (l.set k r))]) a' w'→K a' w')→Oper.wp P ⟨none, .store t x y,ty,pos,af,g⟩ a w K Q':=by
          intro r hk ai6 hK
          have n0:=MV I2 hk
          have hn:j+n≤ek.length:=by
           have hcl:(a.eval y).cells.toList.length=n:=by simpa using db
           rcases ai6 with ⟨rfl,h⟩ |⟨v,h,CR,_⟩
           ·rw [h,EK.bF] at hcl;omega
           ·rw [h] at hcl;simp at hcl;omega
          obtain ⟨w',fc,hw⟩:=hst e j7 (by omega) (I5 _)
          refine fin (u:=[]) fc (hK _ _ ⟨T,β,?_⟩)
          exact hh.DG hl j7 hw (nE _ _ _) ⟨fq,z,LG I2 hk r (by rw [show (a.eval y).cells.toList.length=n by simpa using db];omega) ai6,hz⟩ (by simp [AV.boxes])
         cases xD:Nat.beq n ek.length&&Nat.beq j 0 with
         |true=>
          rw [xD] at hp hK
          simp only [Bool.and_eq_true] at xD
          have hj0:j=0:=by simpa using xD.2
          simp only [cond_true] at hp hK
          split at hp
          ·rename_i r hr
           simp only [hr] at hK
           exact done r hp (.inl ⟨hj0,EK.wH ek hr cV⟩) fun a' w' h=>hK _ _ _ rfl h
          ·exact hp.elim
         |false=>
          rw [xD] at hp hK
          simp only [cond_false] at hp hK
          split at hp
          ·rename_i s
           split at hp
           ·rename_i r hr
            simp only [hr] at hK
            obtain ⟨v0,hv0⟩:∃v0,(a.eval y).cells.toList=[v0]:=by
             cases hcl:(a.eval y).cells.toList with
             |nil=>rw [hcl] at hml;simp at hml
             |cons v0 rest=>
              cases rest with
              |nil=>exact ⟨v0,rfl⟩
              |cons _ _=>rw [hcl] at hml;simp at hml
            rw [hv0] at cV
            exact done r hp (.inr ⟨v0,hv0,Y5 ek hr,EK.GI ek hr cV.1⟩) fun a' w' h=>hK _ _ _ rfl h
           ·exact hp.elim
          ·exact hp.elim
       ·exact hp.elim
     ·rename_i ek j
      simp only at hK
      cases xD:Nat.beq n ek.length&&Nat.beq j 0 with
      |false=>rw [xD] at hp;exact hp.elim
      |true=>
       rw [xD] at hp hK
       simp only [Bool.and_eq_true] at xD
       have hj0:j=0:=by simpa using xD.2
       have hnk:n=ek.length:=by simpa using xD.1
       subst hj0
       simp only [cond_true] at hp hK
       split at hp
       ·rename_i r hr
        simp only [hr] at hK
        obtain ⟨b,o,k,e,hT,ho,_⟩:=hv
        obtain ⟨fq,cs,te,fr,l,j7,j6,l7⟩:=hh.typed b _ hT
        have I2:cs.toList=flat ek (l++[]):=by simpa using l7.2.2
        have hk:o < l.length:=by rw [l7.1];exact ho
        have n0:=MV I2 hk
        obtain ⟨w',fc,hw⟩:=hst e j7 (by omega) j6
        refine fin (u:=[]) fc (hK _ _ _ rfl ⟨T,β,?_⟩)
        have vF:=LG I2 hk r (j:=0) (vs:=(a.eval y).cells.toList) (by rw [show (a.eval y).cells.toList.length=n by simpa using db];omega) (.inl ⟨rfl,EK.wH ek hr cV⟩)
        refine hh.uQ hT hw (by rw [nE];exact j6) (l:=l.set o r) ⟨by simp [l7.1],fun q hq=>?_,by simpa using vF⟩
        rcases List.mem_or_eq_of_mem_set hq with h |h
        ·exact l7.2.1 q h
        ·rw [h];exact hp
       ·exact hp.elim
     ·exact hp.elim
def zeroOf (P:Program) (t:TypeId):Option (List Value):=
 match P.info? t with
 |some i=>match i.zero with
  |some z=>some z.cells.toList
  |none=>none
 |none=>none
theorem acH {zs:List Value} (h:zeroOf P t=some zs) (w:World):∃z,(zeroValue t).run P w= .ok z w∧z.cells.toList=zs:=by
 unfold zeroOf at h
 split at h
 ·rename_i i hi
  split at h
  ·rename_i z hz
   cases h
   exact ⟨z,by simp [zeroValue,typeInfo,hi,hz],rfl⟩
  ·cases h
 ·cases h
def uG:List Value→List SV
 |[]=>[]
 |v::l=>.v v::uG l
theorem HY {T:a7} {β:Nat→Nat}:∀l:List Value,ee T β (uG l) l
 |[]=>trivial
 |v::l=>⟨rfl,HY l⟩
theorem yG:∀l:List Value,bX (uG l)=[]
 |[]=>rfl
 |v::l=>by simp [uG,bX,SV.boxes,yG l]
def YP (d:Nat) (l:List SV):Q Rs:=.ask (.b (1000+d)) fun
 |none=>.ret (.go [(.s d, .s (.bp (1000+d) 0)),(.b (1000+d), .a l)])
 |some _=>.ret .no
theorem agC {zs:List Value} (hz:zeroOf P t=some zs) (hd:d < N):fk P N ⟨some d, .alloc t,ty,pos,af,g⟩ (YP d (uG zs)):=by
 intro c τ a w hr hp K Q' hK
 obtain ⟨T,β,hh⟩:=hr
 simp only [YP,Q.run] at hp hK
 cases hn:τ (.b (1000+d)) with
 |some v=>rw [hn] at hp;exact hp.elim
 |none=>
  rw [hn] at hp hK
  obtain ⟨z,fc,hzs⟩:=acH (P:=P) hz w
  unfold Oper.wp
  have hex:(execOp a.eval ⟨some d, .alloc t,ty,pos,af,g⟩).run P w= .ok (.value (.pointer (some ⟨w.heap.size,0,none⟩))) { w with heap:=w.heap.push (.cells z.cells t (0,0)) }:=by
   simp [execOp,Instr.alloc,fc,newVar,newRow]
  rw [hex]
  have h1:=hh.tB (d:=1000+d) (by omega) hn (av:=.a (uG zs)) (cs:=z.cells) (e:=t) (w':= { w with heap:=w.heap.push (.cells z.cells t (0,0)) }) ⟨rfl,rfl,rfl,rfl⟩ (show ee _ _ _ _ by rw [hzs];exact HY _) (by simp [AV.boxes,A0.boxes,yG])
  exact hK _ _ _ rfl ⟨_,_,h1.put hd (av:=.s (.bp (1000+d) 0)) (by show _=_;unfold oo;rw [if_pos rfl]) (by simp [AV.boxes,A0.boxes,SV.boxes,ui])⟩
def aic (d:Nat) (v:AV):Q Rs:=
 match D4 v with
 |none=>.ret .no
 |some l=>.ask (.b (1000+d)) fun
  |none=>.ret (bif mf l then .go [(.s d, .s (.bp (1000+d) 0)),(.b (1000+d), .a l)] else .no)
  |some _=>.ret .no
theorem aj1 (hd:d < N):fk P N ⟨some d, .box t x,ty,pos,af,g⟩ (bR x fun v=>aic d v):=by
 intro c τ a w hr hp K Q' hK
 obtain ⟨T,β,hh⟩:=hr
 rw [cX] at hp hK
 cases hx:ev τ x with
 |none=>rw [hx] at hp;exact hp.elim
 |some v=>
  rw [hx] at hp hK
  simp only [aic] at hp hK
  cases hm:D4 v with
  |none=>rw [hm] at hp;exact hp.elim
  |some l=>
   rw [hm] at hp hK
   simp only [Q.run] at hp hK
   cases hn:τ (.b (1000+d)) with
   |some v=>rw [hn] at hp;exact hp.elim
   |none=>
    rw [hn] at hp hK
    simp only [Q.run] at hp hK
    cases ho:mf l with
    |false=>rw [ho] at hp;exact hp.elim
    |true=>
     rw [ho] at hp hK
     obtain ⟨cV,_⟩:=wX hm ho (eK hh hx)
     unfold Oper.wp
     have hex:(execOp a.eval ⟨some d, .box t x,ty,pos,af,g⟩).run P w= .ok (.value (.pointer (some ⟨w.heap.size,0,none⟩))) { w with heap:=w.heap.push (.cells (a.eval x).cells t (0,0)) }:=by
      simp [execOp,Instr.box,newVar,newRow]
     rw [hex]
     have h1:=hh.tB (d:=1000+d) (by omega) hn (av:=.a l) (cs:=(a.eval x).cells) (e:=t) (w':= { w with heap:=w.heap.push (.cells (a.eval x).cells t (0,0)) }) ⟨rfl,rfl,rfl,rfl⟩ (show ee _ _ _ _ from cV) (fun j hj=>gS hh hx j (vJ hm hj))
     exact hK _ _ _ rfl ⟨_,_,h1.put hd (av:=.s (.bp (1000+d) 0)) (by show _=_;unfold oo;rw [if_pos rfl]) (by simp [AV.boxes,A0.boxes,SV.boxes,ui])⟩
end
end GL
namespace GL
section
variable {P:Program} {N:Nat} {τ:St}
variable {d:Nat} {x y z:Operand} {t u ty:TypeId} {pos:String} {af:Array Edge} {g:Option (Nat×Bool)}
def P7 (l:List (Nat×Operand)) (k:List (Nat×AV)→Q Rs):Q Rs:=
 match l with
 |[]=>k []
 |p::l=>bR p.2 fun v=>P7 l fun vs=>k ((p.1,v)::vs)
def evL (τ:St):List (Nat×Operand)→Option (List (Nat×AV))
 |[]=>some []
 |p::l=>match ev τ p.2 with
  |some v=>match evL τ l with
   |some vs=>some ((p.1,v)::vs)
   |none=>none
  |none=>none
theorem AG (τ:St):∀(l:List (Nat×Operand)) (k:List (Nat×AV)→Q Rs),(P7 l k).run τ=match evL τ l with
  |some v=>(k v).run τ
  |none=>.no
 |[],k=>rfl
 |p::l,k=>by
  simp only [P7,cX,evL]
  cases ev τ p.2 with
  |none=>rfl
  |some v=>
   simp only [AG τ l]
   cases evL τ l<;>rfl
theorem aca (vs:List Value):∀(off k:Nat) (cs:Array Value),(vs.zipIdx k).foldl (fun cs (p:Value×Nat)=>cs.setIfInBounds (off+p.2) p.1) cs=spl cs (off+k) vs:=by
 induction vs with
 |nil=>intro off k cs;rfl
 |cons v vs ih=>
  intro off k cs
  simp only [List.zipIdx_cons,List.foldl_cons,spl]
  rw [ih off (k+1)]
  rfl
theorem C0 {place:Nat→Option (Nat×Nat)} {i off size:Nat} {v:Value} {rest:List (Nat×Value)} {cs:Array Value} (hp:place i=some (off,size)) (hs:v.cells.size=size) (hle:off+size≤cs.size):
  Instr.fill place cs ((i,v)::rest)=Instr.fill place (spl cs off v.cells.toList) rest:=by
 have ajt:v.cells.zipIdx.foldl (fun cs (p:Value×Nat)=>cs.setIfInBounds (off+p.2) p.1) cs=spl cs off v.cells.toList:=by
  rw [←Array.foldl_toList,Array.toList_zipIdx]
  exact aca _ _ 0 _
 have uy:¬(v.cells.size≠size∨off+v.cells.size > cs.size):=by omega
 simp only [Instr.fill,hp]
 rw [if_neg (by simpa using uy),ajt]
def afs (P:Program) (t:TypeId):Option (List (Nat×Nat)×List Value):=
 match P.info? t,P.underlying t with
 |some it,some (.struct fs)=>match it.zero,fs.toList.mapM (fun f=>(P.info? f.type).map fun i=>(f.offset,i.size)) with
  |some z,some places=>some (places,z.cells.toList)
  |_,_=>none
 |_,_=>none
def aae (places:List (Nat×Nat)) (l:List SV):List (Nat×AV)→Option (List SV)
 |[]=>some l
 |p::rest=>match places[p.1]?,D4 p.2 with
  |some (off,size),some m=>bif (Nat.beq m.length size&&Nat.ble (off+size) l.length)&&mf m then aae places (xR l off m) rest else none
  |_,_=>none
theorem MY {c:Ctx} {T:a7} {β:Nat→Nat} {a:Act} {w:World} (hh:Holds N c T β τ a w) {places:List (Nat×Nat)}:∀(parts:List (Nat×Operand)) (vs:List (Nat×AV)) (l l':List SV) (cs:Array Value),evL τ parts=some vs→aae places l vs=some l'→ee T β l cs.toList→(∀i∈bX l,τ (.b i)≠none)→
  ∃mg,Instr.fill (places.toArray[·]?) cs (parts.map fun p=>(p.1,a.eval p.2))=some mg∧ee T β l' mg.toList∧∀i∈bX l',τ (.b i)≠none
 |[],vs,l,l',cs,h1,h2,h3,h4=>by
  cases h1;cases h2
  exact ⟨cs,rfl,h3,h4⟩
 |p::parts,vs,l,l',cs,h1,h2,h3,h4=>by
  simp only [evL] at h1
  split at h1
  ·rename_i v hv
   split at h1
   ·rename_i vs' IX
    cases h1
    simp only [aae] at h2
    split at h2
    ·rename_i off size m rM hm
     cases hc:(Nat.beq m.length size&&Nat.ble (off+size) l.length)&&mf m with
     |false=>rw [hc] at h2;cases h2
     |true=>
      rw [hc] at h2
      simp only [Bool.and_eq_true] at hc
      have hms:m.length=size:=by simpa using hc.1.1
      have hle:=cH hc.1.2
      obtain ⟨cV,_⟩:=wX hm hc.2 (eK hh hv)
      have hml:=kf cV
      have hll:=kf h3
      have db:(a.eval p.2).cells.size=size:=by rw [←hms,hml];simp
      obtain ⟨mg,g1,g2,g3⟩:=MY hh parts vs' (xR l off m) l' (spl cs off (a.eval p.2).cells.toList) IX h2 (RM l cs off cV h3) (fun i hi=>by
       rcases GF m l off hi with h |h
       ·exact h4 i h
       ·exact gS hh hv i (vJ hm h))
      refine ⟨mg,?_,g2,g3⟩
      have akP:places.toArray[p.1]?=some (off,size):=by simpa using rM
      rw [List.map_cons,C0 (place:=(places.toArray[·]?)) akP db (by simp at hll;omega)]
      exact g1
    ·cases h2
   ·cases h1
  ·cases h1
def YJ (places:List (Nat×Nat)) (zs:List Value) (vs:List (Nat×AV)):V1:=
 match aae places (uG zs) vs with
 |some l=>.go (.a l)
 |none=>.no
theorem agB {places:List (Nat×Nat)} {zs:List Value} {parts:Array (Nat×Operand)} (hb:afs P t=some (places,zs)) (hd:d < N):fk P N ⟨some d, .build t parts,ty,pos,af,g⟩ (P7 parts.toList fun vs=>.ret ((YJ places zs vs).rs d)):=by
 intro c τ a w hr hp K Q' hK
 obtain ⟨T,β,hh⟩:=hr
 rw [AG] at hp hK
 cases hx:evL τ parts.toList with
 |none=>rw [hx] at hp;exact hp.elim
 |some vs=>
  rw [hx] at hp hK
  refine V1.put hh hd hp rfl (fun r hr=>?_) hK
  unfold YJ at hr
  split at hr
  ·rename_i l hl
   cases hr
   unfold afs at hb
   split at hb
   ·rename_i it fs hi hu
    split at hb
    ·rename_i z pl hz rM
     cases hb
     obtain ⟨mg,h1,h2,h3⟩:=MY hh parts.toList vs _ l z.cells hx hl (by rw [show z.cells.toList=z.cells.toList from rfl];exact HY _) (by rw [yG];simp)
     refine ⟨h3, .agg mg,?_,mg,rfl,h2⟩
     have ah1:P.built t (parts.map fun p=>(p.1,a.eval p.2)).toList=some mg:=by
      unfold Program.built
      rw [hi,hu]
      simp only [hz,rM]
      simpa using h1
     have:=run_build (P:=P) w t _ mg ah1
     simp [execOp,this]
    ·cases hb
   ·cases hb
  ·exact hr.elim
def vP (P:Program) (t:TypeId):Option (Nat×Nat×List Value):=
 match P.underlying t with
 |some (.slice e)=>match P.info? e with
  |some i=>match i.zero with
   |some z=>some (i.size,i.bytes,z.cells.toList)
   |none=>none
  |none=>none
 |_=>none
theorem jQ {sz iV:Nat} {zs:List Value} (h:vP P t=some (sz,iV,zs)):∃e i z,P.underlying t=some (.slice e)∧P.info? e=some i∧i.zero=some z∧i.size=sz∧i.bytes=iV∧z.cells.toList=zs:=by
 unfold vP at h
 split at h
 ·rename_i e he
  split at h
  ·rename_i i hi
   split at h
   ·rename_i z hz
    cases h
    exact ⟨e,i,z,he,hi,hz,rfl,rfl,rfl⟩
   ·cases h
  ·cases h
 ·cases h
structure Fits (P:Program) (t:TypeId) (ek:EK) (iV:Nat):Prop where
 info:vP P t=some (ek.length,iV,EK.cells ek (EK.zero ek))
 ne:ek≠[]
 small:iV≤1048576
theorem CP.sQ (c:CP):c.ok c.zero:=by
 cases c<;>simp [CP.ok,CP.zero]
theorem EK.sQ:∀ek:List CP,EK.ok ek (EK.zero ek)
 |[]=>trivial
 |[c]=>c.sQ
 |c::d::l=>⟨c.sQ,EK.sQ (d::l)⟩
theorem Fits.sh {ek:EK} {iV:Nat} (h:Fits P t ek iV):rH P t=some ek.length:=by
 obtain ⟨e,i,z,h1,h2,h3,h4,_⟩:=jQ h.info
 simp [rH,h1,h2,h4]
theorem L2 {ek:EK} (fq:ek≠[]) {z:Array Value} (hz:z.toList=EK.cells ek (EK.zero ek)):∀n:Nat,((Array.range (n * ek.length)).map (fun i=>z[i % z.size]!)).toList=flat ek (List.replicate n (EK.zero ek)):=by
 intro n
 have mV:0 < ek.length:=List.length_pos_iff.2 fq
 have hzs:z.size=ek.length:=by rw [←Array.length_toList,hz,EK.bF]
 apply List.ext_getElem?
 intro i
 by_cases hi:i < n * ek.length
 ·have hk:i / ek.length < n:=Nat.div_lt_of_lt_mul (by rwa [Nat.mul_comm])
  have hj:i % ek.length < ek.length:=Nat.mod_lt _ mV
  have h1:=T8 ek (List.replicate n (EK.zero ek)) (i / ek.length) (i % ek.length) (EK.zero ek) (by simp [hk]) hj
  have CS:i / ek.length * ek.length+i % ek.length=i:=by rw [Nat.mul_comm];exact Nat.div_add_mod i ek.length
  rw [CS] at h1
  rw [h1,←hz]
  have h2:z.toList[i % ek.length]?=some z[i % ek.length]!:=by
   simp [Array.getElem!_eq_getD,Array.getD_eq_getD_getElem?,hzs,hj]
  rw [h2]
  simp [hi,hzs]
 ·rw [List.getElem?_eq_none (by simp;omega),List.getElem?_eq_none (by rw [ct];simp;omega)]
def abM (ex:Bool) (d:Nat) (ek:EK) (l:List (EK.Ty ek)) (p:Prop) (pt:Prop):Q Rs:=
 match ex with
 |true=>.ask (.b (1000+d)) fun
  |none=>.ret (.mZ p [(.s d, .s (.xs (1000+d) ek.length 0 l.length)),(.b (1000+d), .rs ek l)])
  |some _=>.ret .no
 |false=>.ret (.mZ (p∧pt) [(.s d, .s (.sl ek l.length))])
theorem HU {c:Ctx} {T:a7} {β:Nat→Nat} {a:Act} {w w':World} (hh:Holds N c T β τ a w) (hd:d < N) {ex:Bool} {ek:EK} (fq:ek≠[]) {l z:List (EK.Ty ek)} {p pt:Prop} (hp:((abM ex d ek l p pt).run τ).pre) (hpt:pt→∀x∈l,EK.ok ek x) (hz:∀x∈z,EK.ok ek x)
  {cs:Array Value} {e:TypeId} (j7:cs.toList=flat ek (l++z)) (hpu:oG w (.cells cs e (0,0)) w') {o:Oper} (ho:o.dst=some d) {cap:Nat} (EU:cap=l.length+z.length) (hex:p→(execOp a.eval o).run P w= .ok (.value (.slice (some ⟨w.heap.size,0,none⟩) l.length cap)) w')
  {K:Act→World→Prop} {Q':Exit→Act→World→Prop} (hK:∀u a' w',((abM ex d ek l p pt).run τ).out u→Rel N c (τ.ap u) a' w'→K a' w'):o.wp P a w K Q':=by
 have db:cs.size=cap * ek.length:=by rw [←Array.length_toList,j7,ct,EU,List.length_append]
 cases ex with
 |true=>
  simp only [abM,Q.run] at hp hK
  cases hn:τ (.b (1000+d)) with
  |some v=>rw [hn] at hp;exact hp.elim
  |none=>
   rw [hn] at hp hK
   have hp':p:=hp
   unfold Oper.wp
   rw [hex hp']
   show K (a.put o.dst _) w'
   rw [ho]
   have h1:=hh.tB (d:=1000+d) (by omega) hn (av:=.rs ek l) (cs:=cs) (e:=e) hpu ⟨fq,z,j7,hz⟩ (by simp [AV.boxes])
   refine hK _ _ _ rfl ⟨_,_,h1.put hd (av:=.s (.xs (1000+d) ek.length 0 l.length)) (.inr ⟨cap,cs.size,?_,by omega,?_,by rw [Nat.zero_add,db];exact Nat.le_refl _⟩) (by simp [AV.boxes,A0.boxes,SV.boxes,ui])⟩
   ·show _=Value.slice (some ⟨oo β (1000+d) w.heap.size (1000+d),0 * ek.length,none⟩) _ _
    unfold oo;rw [if_pos rfl,Nat.zero_mul]
   ·unfold oo xi;rw [if_pos rfl,if_pos rfl]
 |false=>
  simp only [abM,Q.run] at hp hK
  obtain ⟨hp1,hp2⟩:p∧pt:=hp
  unfold Oper.wp
  rw [hex hp1]
  show K (a.put o.dst _) w'
  rw [ho]
  have qE:∀x∈l++z,EK.ok ek x:=fun x hx=>by
   rcases List.mem_append.1 hx with h |h
   ·exact hpt hp2 x h
   ·exact hz x h
  have h1:=hh.CA (k:=.ty ek cap) hpu ⟨fq,cs,e,(0,0),l++z,hpu.new,I5 _,by simp [EU],qE,j7⟩
  refine hK _ _ _ rfl ⟨_,_,h1.put hd (av:=.s (.sl ek l.length)) (.inr ⟨w.heap.size,0,cap,cap,by rw [Nat.zero_mul],by omega,by unfold xi;rw [if_pos rfl],by omega⟩) (by simp [AV.boxes,A0.boxes,SV.boxes])⟩
def adK (ex:Bool) (d:Nat) (ek:EK) (v u:AV):Q Rs:=
 match v,u with
 | .o (.s (.v (.int .i64 m))), .o (.s (.v (.int .i64 n)))=>abM ex d ek (List.replicate n.toNat (EK.zero ek)) (m=n∧0≤n∧n≤1048576) True
 |_,_=>.ret .no
theorem aik {ex:Bool} {ek:EK} {iV:Nat} (hf:Fits P t ek iV) (hd:d < N):fk P N ⟨some d, .makeSlice t x y,ty,pos,af,g⟩ (bR x fun v=>bR y fun u=>adK ex d ek v u):=by
 intro c τ a w hr hp K Q' hK
 obtain ⟨T,β,hh⟩:=hr
 rw [cX] at hp hK
 cases hx:ev τ x with
 |none=>rw [hx] at hp;exact hp.elim
 |some v=>
  rw [hx] at hp hK
  simp only [cX] at hp hK
  cases hy:ev τ y with
  |none=>rw [hy] at hp;exact hp.elim
  |some u=>
   rw [hy] at hp hK
   simp only at hp hK
   unfold adK at hp hK
   split at hp
   ·rename_i m n
    simp only at hK
    obtain ⟨e,i,z,ht,hi,hz,db,hby,hzs⟩:=jQ hf.info
    have e1:a.eval x= .int .i64 m:=eK hh hx
    have e2:a.eval y= .int .i64 n:=eK hh hy
    let cs:Array Value:=(Array.range (n.toNat * ek.length)).map (fun k=>z.cells[k % z.cells.size]!)
    have j7:cs.toList=flat ek (List.replicate n.toNat (EK.zero ek)++[]):=by
     rw [List.append_nil];exact L2 hf.ne hzs n.toNat
    refine HU hh hd hf.ne (z:=[]) hp (fun _ x hx=>by rw [List.eq_of_mem_replicate hx];exact EK.sQ ek) (by simp) j7 (e:=e) (w':= { w with heap:=w.heap.push (.cells cs e (0,0)) }) ⟨rfl,rfl,rfl,rfl⟩ rfl (cap:=n.toNat) (by simp) ?_ hK
    rintro ⟨rfl,h0,h1⟩
    have hb:(i.bytes:Int) * m≤281474976710656:=by
     have hs:=hf.small
     rw [hby]
     have h2:(iV:Int) * m≤1048576 * 1048576:=Int.mul_le_mul (by omega) h1 h0 (by omega)
     omega
    have ze:¬(m < 0):=by omega
    have hw:=oL (n:=m) (by simp only [gD];omega) (by simp only [imax];omega)
    have hb':¬(281474976710656 < (i.bytes:Int) * m):=by omega
    rw [List.length_replicate]
    by_cases hz0:m.toNat * i.size=0
    ·have T1:cs=(Array.range (m.toNat * i.size)).map (fun k=>(#[]:Array Value)[k % (#[]:Array Value).size]!):=by
      have:m.toNat * ek.length=0:=by rw [←db];exact hz0
      simp [cs,this,hz0]
     rw [T1]
     simp [execOp,e1,e2,Instr.makeSlice,run_underlying ht,asInt,asIntOf,typeInfo,hi,hw,ze,hb',sizeOf,hz0,newRow]
    ·have T1:cs=(Array.range (m.toNat * i.size)).map (fun k=>z.cells[k % z.cells.size]!):=by simp only [cs,db]
     rw [T1]
     simp [execOp,e1,e2,Instr.makeSlice,run_underlying ht,asInt,asIntOf,typeInfo,hi,hw,ze,hb',sizeOf,hz0,newRow,zeroValue,hz]
   ·exact hp.elim
def BM (ek:EK):Nat→List (Nat×AV)→Option (List (EK.Ty ek))
 |_,[]=>some []
 |j,p::l=>match D4 p.2 with
  |some m=>bif Nat.beq p.1 j&&mf m then (match EK.ofS ek m,BM ek (j+1) l with
   |some r,some rs=>some (r::rs)
   |_,_=>none) else none
  |none=>none
def SN (ek:EK):List (EK.Ty ek)→Prop
 |[]=>True
 |x::l=>EK.ok ek x∧SN ek l
theorem B6 {ek:EK}:∀ {l:List (EK.Ty ek)},SN ek l→∀x∈l,EK.ok ek x
 |[],_,x,h=>by cases h
 |y::l,h,x,hx=>by
  rcases List.mem_cons.1 hx with rfl |hx
  ·exact h.1
  ·exact B6 h.2 x hx
theorem G4 {ek:EK}:∀ {l:List (Nat×AV)} {j:Nat} {rs:List (EK.Ty ek)},BM ek j l=some rs→rs.length=l.length
 |[],_,rs,h=>by cases h;rfl
 |p::l,j,rs,h=>by
  simp only [BM] at h
  split at h
  ·rename_i m _
   cases hc:Nat.beq p.1 j&&mf m with
   |false=>rw [hc] at h;cases h
   |true=>
    rw [hc] at h
    simp only [cond_true] at h
    split at h
    ·rename_i r rs' _ h2
     cases h
     simp [G4 h2]
    ·cases h
  ·cases h
theorem G3 {c:Ctx} {T:a7} {β:Nat→Nat} {a:Act} {w:World} (hh:Holds N c T β τ a w) {ek:EK}:∀(parts:List (Nat×Operand)) (vs:List (Nat×AV)) (j:Nat) (rs:List (EK.Ty ek)) (cs:Array Value),evL τ parts=some vs→BM ek j vs=some rs→(j+parts.length) * ek.length≤cs.size→
  ∃mg,Instr.fill (fun i=>some (i * ek.length,ek.length)) cs (parts.map fun p=>(p.1,a.eval p.2))=some mg∧mg.toList=cs.toList.take (j * ek.length)++flat ek rs++cs.toList.drop ((j+parts.length) * ek.length)
 |[],vs,j,rs,cs,h1,h2,h3=>by
  cases h1;cases h2
  exact ⟨cs,rfl,by simp [aeI]⟩
 |p::parts,vs,j,rs,cs,h1,h2,h3=>by
  simp only [evL] at h1
  split at h1
  ·rename_i v hv
   split at h1
   ·rename_i vs' IX
    cases h1
    simp only [BM] at h2
    split at h2
    ·rename_i m hm
     cases hc:Nat.beq p.1 j&&mf m with
     |false=>rw [hc] at h2;cases h2
     |true=>
      rw [hc] at h2
      simp only [cond_true] at h2
      split at h2
      ·rename_i r rs' hr hrs
       cases h2
       simp only [Bool.and_eq_true] at hc
       have hj:p.1=j:=by simpa using hc.1
       obtain ⟨cV,_⟩:=wX hm hc.2 (eK hh hv)
       have I3:=EK.wH ek hr cV
       have db:(a.eval p.2).cells.size=ek.length:=by rw [←Array.length_toList,I3,EK.bF]
       simp only [List.length_cons] at h3
       have n0:j * ek.length+ek.length≤cs.size:=by
        have:(j+1) * ek.length≤(j+(parts.length+1)) * ek.length:=Nat.mul_le_mul_right _ (by omega)
        rw [Nat.add_mul,Nat.one_mul] at this;omega
       obtain ⟨mg,g1,g2⟩:=G3 hh parts vs' (j+1) rs' (spl cs (j * ek.length) (a.eval p.2).cells.toList) IX hrs (by
        have e:j+1+parts.length=j+(parts.length+1):=by omega
        rw [nE,e];exact h3)
       refine ⟨mg,?_,?_⟩
       ·rw [List.map_cons,hj,C0 (place:=fun i=>some (i * ek.length,ek.length)) rfl db n0]
        exact g1
       ·rw [g2,mC _ _ _ (by rw [I3,EK.bF];exact n0),I3,iL,EK.bF]
        have hl1:(cs.toList.take (j * ek.length)).length=j * ek.length:=by simp;omega
        have e1:(j+1) * ek.length=(cs.toList.take (j * ek.length)++EK.cells ek r).length:=by
         rw [List.length_append,hl1,EK.bF,Nat.add_mul,Nat.one_mul]
        have e2:(j+1+parts.length) * ek.length=(cs.toList.take (j * ek.length)++EK.cells ek r).length+parts.length * ek.length:=by
         rw [←e1,←Nat.add_mul]
        rw [e2,e1,List.take_left',List.drop_length_add_append,List.drop_drop]
        ·have e3:j * ek.length+ek.length+parts.length * ek.length=(j+(parts.length+1)) * ek.length:=by
          rw [Nat.add_mul j,Nat.add_mul,Nat.one_mul];omega
         rw [e3]
         simp [List.append_assoc]
        ·rfl
      ·cases h2
    ·cases h2
   ·cases h1
  ·cases h1
def P5 (ex:Bool) (d k:Nat) (ek:EK) (vs:List (Nat×AV)):Q Rs:=
 match BM ek 0 vs with
 |some l=>bif Nat.beq l.length k&&Nat.ble (k * ek.length) 16777216 then abM ex d ek l True (SN ek l) else .ret .no
 |none=>.ret .no
theorem afx {ex:Bool} {ek:EK} {iV k:Nat} {parts:Array (Nat×Operand)} (hf:Fits P t ek iV) (hd:d < N):fk P N ⟨some d, .buildSlice t k parts,ty,pos,af,g⟩ (P7 parts.toList fun vs=>P5 ex d k ek vs):=by
 intro c τ a w hr hp K Q' hK
 obtain ⟨T,β,hh⟩:=hr
 rw [AG] at hp hK
 cases hx:evL τ parts.toList with
 |none=>rw [hx] at hp;exact hp.elim
 |some vs=>
  rw [hx] at hp hK
  simp only at hp hK
  unfold P5 at hp hK
  split at hp
  ·rename_i l hl
   simp only [hl] at hK
   cases hc:Nat.beq l.length k&&Nat.ble (k * ek.length) 16777216 with
   |false=>rw [hc] at hp;exact hp.elim
   |true=>
    rw [hc] at hp hK
    simp only [cond_true] at hp hK
    simp only [Bool.and_eq_true] at hc
    have hk:l.length=k:=by simpa using hc.1
    have hle:=cH hc.2
    obtain ⟨e,i,z,ht,hi,hz,db,hby,hzs⟩:=jQ hf.info
    let cs0:Array Value:=if k * i.size=0 then (Array.range (k * i.size)).map (fun k=>(#[]:Array Value)[k % (#[]:Array Value).size]!) else (Array.range (k * i.size)).map (fun k=>z.cells[k % z.cells.size]!)
    have T1:cs0.size=k * ek.length:=by simp only [cs0];split<;>simp [db]
    have rM:parts.toList.length=k:=by
     rw [←hk,G4 hl]
     have:∀(ps:List (Nat×Operand)) (vs:List (Nat×AV)),evL τ ps=some vs→ps.length=vs.length:=by
      intro ps
      induction ps with
      |nil=>intro vs h;cases h;rfl
      |cons p ps ih=>
       intro vs h
       simp only [evL] at h
       split at h
       ·split at h
        ·rename_i vs' h';cases h;simp [ih _ h']
        ·cases h
       ·cases h
     exact this _ _ hx
    obtain ⟨mg,aeu,ahY⟩:=G3 hh parts.toList vs 0 l cs0 hx hl (by rw [rM,T1,Nat.zero_add];exact Nat.le_refl _)
    have j7:mg.toList=flat ek (l++[]):=by
     rw [ahY,rM,Nat.zero_mul,Nat.zero_add,List.take_zero,List.nil_append,List.drop_of_length_le (by simp [T1]),List.append_nil,List.append_nil]
    refine HU hh hd hf.ne (z:=[]) hp (fun h=>B6 h) (by simp) j7 (e:=e) (w':= { w with heap:=w.heap.push (.cells mg e (0,0)) }) ⟨rfl,rfl,rfl,rfl⟩ rfl (cap:=k) (by simp [hk]) (fun _=>?_) hK
    have h24:¬(16777216 < k * i.size):=by rw [db];omega
    have tM:Instr.fill (fun x=>some (x * i.size,i.size)) cs0 (parts.toList.map fun p=>(p.1,a.eval p.2))=some mg:=by rw [db];exact aeu
    rw [hk]
    by_cases hz0:k * i.size=0
    ·simp only [cs0,if_pos hz0] at tM
     simp [execOp,Instr.buildSlice,run_underlying ht,sizeOf,typeInfo,hi,h24,hz0,newRow]
     rw [hz0] at tM
     simp at tM
     simp [tM]
    ·simp only [cs0,if_neg hz0] at tM
     simp [execOp,Instr.buildSlice,run_underlying ht,sizeOf,typeInfo,hi,h24,hz0,newRow,zeroValue,hz]
     simp [tM]
  ·exact hp.elim
end
end GL
end Go.Proofs.YtbfgjadbfjkcdaaGreatDoor
