/- A drawn law returns true for every code (its row lists package variables, tied by the card): part 8. -/
import Derived.Test.YtclcgjhhehbdeaaGreatDoorPag
set_option maxHeartbeats 20000000
set_option maxRecDepth 100000
set_option linter.all false
namespace Go.Proofs.YtclcgjhhehbdeaaGreatDoor
namespace GL
def spl (cs:Array Value) (k:Nat):List Value→Array Value
 |[]=>cs
 |v::vs=>spl (cs.setIfInBounds k v) (k+1) vs
def aaA (l:List SV) (k:Nat):List SV→List SV
 |[]=>l
 |x::m=>aaA (l.set k x) (k+1) m
theorem nA:∀(vs:List Value) (cs:Array Value) (k:Nat),(spl cs k vs).size=cs.size
 |[],_,_=>rfl
 |_::vs,cs,k=>by simp [spl,nA vs]
theorem DJ:∀(m l:List SV) (k:Nat),(aaA l k m).length=l.length
 |[],_,_=>rfl
 |_::m,l,k=>by simp [aaA,DJ m]
theorem mz:∀(vs:List Value) (cs:Array Value) (k:Nat),k+vs.length≤cs.size→(spl cs k vs).toList=cs.toList.take k++vs++cs.toList.drop (k+vs.length)
 |[],cs,k,_=>by simp [spl]
 |v::vs,cs,k,h=>by
  simp only [ZA1] at h
  rw [spl,mz vs _ (k+1) (by simp;omega),Array.toList_setIfInBounds]
  have hk:k<cs.toList.length:=by simp;omega
  rw [List.take_set,List.take_succ_eq_append_getElem hk,List.set_append_right _ _ (by simp;omega)]
  have h1:k-(cs.toList.take k).length=0:=by simp;omega
  rw [h1]
  have h2:(cs.toList.set k v).drop (k+1+vs.length)=cs.toList.drop (k+(v::vs).length):=by
   rw [List.drop_set_of_lt (by omega)]
   simp only [ZA1]
   congr 1;omega
  rw [h2]
  simp
section
variable {T:bb}{β:Nat→Nat}
theorem Q8:∀{l:List SV}{cs:List Value}(k:Nat) {x:SV}{v:Value},dM T β l cs→x.rel T β v→dM T β (l.set k x) (cs.set k v)
 |[],[],_,_,_,_,_=>trivial
 |_::_,[],_,_,_,h,_=>h.elim
 |[],_::_,_,_,_,h,_=>h.elim
 |_::l,_::cs,0,x,v,h,hx=>⟨hx,h.2⟩
 |_::l,_::cs,k+1,x,v,h,hx=>⟨h.1,Q8 k h.2 hx⟩
theorem LF:∀{m:List SV}{vs:List Value}(l:List SV) (cs:Array Value) (k:Nat),dM T β m vs→dM T β l cs.toList→dM T β (aaA l k m) (spl cs k vs).toList
 |[],[],_,_,_,_,h=>h
 |_::_,[],_,_,_,h,_=>h.elim
 |[],_::_,_,_,_,h,_=>h.elim
 |x::m,v::vs,l,cs,k,hm,h=>by
  refine LF (l.set k x) (cs.setIfInBounds k v) (k+1) hm.2 ?_
  rw [Array.toList_setIfInBounds]
  exact Q8 k h hm.1
theorem GB {i:Nat}:∀(m l:List SV) (k:Nat),i∈cc (aaA l k m)→i∈cc l∨i∈cc m
 |[],_,_,h=>.inl h
 |x::m,l,k,h=>by
  rcases GB m (l.set k x) (k+1) h with h1 |h1
  ·rw [gI] at h1
   obtain⟨y,hy,hi⟩:=h1
   rcases List.mem_or_eq_of_mem_set hy with h2 |h2
   ·exact .inl (gI.2 ⟨y,h2,hi⟩)
   ·exact .inr (gI.2 ⟨x,by simp,by rw [←h2];exact hi⟩)
  ·right
   rw [gI] at h1 ⊢
   obtain⟨y,hy,hi⟩:=h1
   exact⟨y,by simp [hy],hi⟩
def xg:List SV→Nat→List SV→List SV
 |[],_,_=>[]
 |x::l,0,[]=>x::l
 |_::l,0,y::m=>y::xg l 0 m
 |x::l,k+1,m=>x::xg l k m
theorem QH:∀(l:List SV) (k:Nat),xg l k []=l
 |[],0=>rfl
 |[],_+1=>rfl
 |_::_,0=>rfl
 |x::l,k+1=>by show x::xg l k []=x::l;rw [QH l k]
theorem K5:∀(k:Nat) (m:List SV),xg [] k m=[]
 |0,[]=>rfl
 |0,_::_=>rfl
 |_+1,_=>rfl
theorem K6 (y:SV) (m:List SV):∀(l:List SV) (k:Nat),xg l k (y::m)=xg (l.set k y) (k+1) m
 |[],k=>by rw [List.set_nil,K5,K5]
 |_::_,0=>rfl
 |x::l,k+1=>by show x::xg l k (y::m)=x::xg (l.set k y) (k+1) m;rw [K6 y m l k]
theorem EZ:∀(m l:List SV) (k:Nat),xg l k m=aaA l k m
 |[],l,k=>QH l k
 |y::m,l,k=>by rw [K6,EZ m];rfl
theorem agv (m l:List SV) (k:Nat):(xg l k m).length=l.length:=by rw [EZ];exact DJ m l k
theorem Q7 {m:List SV}{vs:List Value}(l:List SV) (cs:Array Value) (k:Nat) (h1:dM T β m vs) (h2:dM T β l cs.toList):dM T β (xg l k m) (spl cs k vs).toList:=by rw [EZ];exact LF l cs k h1 h2
theorem GA {i:Nat}(m l:List SV) (k:Nat) (h:i∈cc (xg l k m)):i∈cc l∨i∈cc m:=by rw [EZ] at h;exact GB m l k h
end
theorem abP {w:World}{b:Nat}{cs:Array Value}{e:TypeId}{fr:Nat×Nat}(h:w.heap[b]?=some (.cells cs e fr)) (o:Nat):w.frozen? ⟨b,o,none⟩=(decide (fr.1≤o)&&decide (o<fr.2)):=by
 simp [World.frozen?,h]
theorem NW {w:World}{b:Nat}{cs:Array Value}{e:TypeId}{fr:Nat×Nat}(h:w.heap[b]?=some (.cells cs e fr)) (o:Nat) (v:Value):PZ w b (.cells (cs.setIfInBounds o v) e fr) (w.setCell ⟨b,o,none⟩ v) where
 at_:=by simp [World.setCell,Array.getElem?_modify,h]
 other:=fun k hk=>by simp only [World.setCell,Array.getElem?_modify];rw [if_neg (by omega)]
 size:=by simp [World.setCell]
 os:=rfl
 tape:=rfl
 output:=rfl
section
variable {P:Program}{N:Nat}{τ:St}
variable {d:Nat}{x y z:Operand}{t u ty:TypeId}{pos:String}{af:Array Edge}{g:Option (Nat×Bool)}
theorem pz {b off:Nat}{e:TypeId}{fr:Nat×Nat}:∀(vs:List Value) (i:Nat) (cs:Array Value) (w:World),w.heap[b]?=some (.cells cs e fr)→off+i+vs.length≤cs.size→free fr cs.size→(∀v∈vs,one v=true)→
  ∃w',(storeCells ⟨b,off,none⟩ vs i).run P w= .ok () w'∧PZ w b (.cells (spl cs (off+i) vs) e fr) w'
 |[],i,cs,w,h,_,_,_=>⟨w,by simp [storeCells],⟨h,fun _ _=>rfl,rfl,rfl,rfl,rfl⟩⟩
 |v::vs,i,cs,w,h,hle,ka,TD=>by
  simp only [ZA1] at hle
  have hc:w.cell? ⟨b,off+i,none⟩=some (cs[off+i]'(by omega)):=by rw [rl h];exact ZF9 (by omega)
  have hf:w.frozen? ⟨b,off+i,none⟩=false:=by rw [abP h];exact af3 ka _ (by omega)
  have hs:(store ((⟨b,off,none⟩:Addr).add i) v).run P w= .ok () (w.setCell ⟨b,off+i,none⟩ v):=by
   rw [fZ,run_store P w _ v .plain (TD v (by simp)),hc]
   simp [hf]
  have ho:=NW h (off+i) v
  obtain⟨w',hr,hw⟩:=pz (off:=off) vs (i+1) (cs.setIfInBounds (off+i) v) _ ho.at_ (by simp;omega) (by simpa using ka) (fun x hx=>TD x (by simp [hx]))
  refine⟨w',?_,?_⟩
  ·simp only [storeCells,Sem.run_bind,hs,Result.andThen_ok]
   exact hr
  ·exact⟨hw.at_,fun k hk=>(hw.other k hk).trans (ho.other k hk),hw.size.trans ho.size,hw.os.trans ho.os,hw.tape.trans ho.tape,hw.output.trans ho.output⟩
theorem NX {gg:Bool}{n:Nat}(h:Sh P t=some (gg,n)) {b off:Nat}{e:TypeId}{fr:Nat×Nat}{cs:Array Value}{w:World}{v:Value}(hb:w.heap[b]?=some (.cells cs e fr)) (hn:v.cells.size=n) (hle:off+n≤cs.size) (ka:free fr cs.size) (TD:∀x∈v.cells.toList,one x=true):
  ∃w',(storeVar t ⟨b,off,none⟩ v).run P w= .ok () w'∧PZ w b (.cells (spl cs off v.cells.toList) e fr) w':=by
 obtain⟨_,h2⟩:=qC h w
 obtain⟨w',hr,hw⟩:=pz (P:=P) (off:=off) v.cells.toList 0 cs w hb (by simp [hn];exact hle) ka TD
 refine⟨w',?_,by simpa using hw⟩
 simp [storeVar,h2,hn,hr]
def SV.one:SV→Bool
 |.v x=>GL.one x
 |_=>true
def l9:List SV→Bool
 |[]=>true
 |x::l=>x.one&&l9 l
theorem SV.OO {T:bb}{β:Nat→Nat}{x:SV}{v:Value}(h:x.one=true) (hr:x.rel T β v):GL.one v=true:=by
 cases x with
 |v x=>have:v=x:=hr;subst this;exact h
 |q b=>have:v=_:=hr;subst this;rfl
 |bp i o=>have:v=_:=hr;subst this;rfl
 |xp i sz k j=>obtain⟨rfl,_⟩:=hr;rfl
 |xs i sz o m=>rcases hr with ⟨_,p,rfl⟩ |⟨cap,n,rfl,_⟩<;>rfl
 |ep ek j=>obtain⟨b,o,n,rfl,_⟩:=hr;rfl
 |sl ek len=>rcases hr with ⟨_,p,rfl⟩ |⟨b,o,cap,n,rfl,_⟩<;>rfl
 |vw ek l=>rcases hr with ⟨_,p,cap,rfl⟩ |⟨b,o,cap,cs,e,fr,rfl,_⟩<;>rfl
 |vz ek l=>rcases hr with ⟨_,p,cap,rfl⟩ |⟨b,o,cap,cs,rfl,_⟩<;>rfl
 |vp ek x j=>obtain⟨b,o,cs,rfl,_⟩:=hr;rfl
 |vs l j=>obtain⟨b,cs,rfl,_⟩:=hr;rfl
 |er b=>
  cases b with
  |true=>have:v= .nilIface:=hr;subst this;rfl
  |false=>obtain⟨t,x,rfl⟩:=hr;rfl
 |e0=>obtain⟨p,rfl⟩:=hr;rfl
theorem Q9 {T:bb}{β:Nat→Nat}:∀{l:List SV}{cs:List Value},l9 l=true→dM T β l cs→∀v∈cs,GL.one v=true
 |[],[],_,_,v,hv=>by cases hv
 |_::_,[],_,h,_,_=>h.elim
 |[],_::_,_,h,_,_=>h.elim
 |x::l,v::cs,h1,h2,y,hy=>by
  simp only [l9,ZA9] at h1
  rcases ZB8.1 hy with rfl |hy
  ·exact SV.OO h1.1 h2.1
  ·exact Q9 h1.2 h2.2 y hy
theorem zZ {v:Value}(h:GL.one v=true):v.cells= #[v]:=by cases v<;>first|rfl|(simp [GL.one,Value.oneCell'] at h)
def D3:AV→Option (List SV)
 |.o (.a l)=>some l
 |.o (.s x)=>some [x]
 |_=>none
theorem wS {T:bb}{β:Nat→Nat}{x:AV}{l:List SV}(h:D3 x=some l) (TD:l9 l=true) {v:Value}(hr:x.rel T β v):dM T β l v.cells.toList∧∀y∈v.cells.toList,GL.one y=true:=by
 cases x with
 |t l=>cases h
 |rs ek l=>cases h
 |zz=>cases h
 |fn f l=>cases h
 |o x=>
  cases x with
  |s y=>
   cases h
   simp only [l9,Bool.and_true] at TD
   have h1:=SV.OO TD hr
   rw [zZ h1]
   exact⟨⟨hr,trivial⟩,by simpa using h1⟩
  |a l=>
   cases h
   obtain⟨cs,rfl,hl⟩:=hr
   exact⟨hl,Q9 TD hl⟩
theorem vE {x:AV}{l:List SV}(h:D3 x=some l) {i:Nat}(hi:i∈cc l):i∈x.boxes:=by
 cases x with
 |t l=>cases h
 |rs ek l=>cases h
 |zz=>cases h
 |fn f l=>cases h
 |o x=>
  cases x with
  |s y=>cases h;simpa [AV.boxes,A0.boxes,cc] using hi
  |a l=>cases h;exact hi
def CP.ofS:(c:CP)→SV→Option c.Ty
 |.i64,.v (.int .i64 n)=>some n
 |.row,.v (.int .i64 n)=>some n
 |.u8,.v (.int .u8 n)=>some n
 |.str _,.v (.string s)=>some s
 |.bool,.q b=>some b
 |.bool,.v (.bool b)=>some b
 |_,_=>none
def EK.ofS:(ek:List CP)→List SV→Option (EK.Ty ek)
 |[],[]=>some ()
 |[c],[x]=>c.ofS x
 |c::d::l,x::m=>match c.ofS x,EK.ofS (d::l) m with
  |some v,some r=>some (v,r)
  |_,_=>none
 |_,_=>none
theorem CP.E6 {T:bb}{β:Nat→Nat}{c:CP}{x:SV}{r:c.Ty}(h:c.ofS x=some r) {v:Value}(hr:x.rel T β v):v=c.val r:=by
 unfold CP.ofS at h
 split at h<;>first|(cases h;exact hr)|cases h
theorem EK.wC {T:bb}{β:Nat→Nat}:∀(ek:List CP) {l:List SV}{r:EK.Ty ek},EK.ofS ek l=some r→∀{vs:List Value},dM T β l vs→vs=EK.cells ek r
 |[],[],_,_,[],_=>rfl
 |[],[],_,_,_::_,h=>h.elim
 |[],_::_,_,h,_,_=>by simp [EK.ofS] at h
 |[c],[],_,h,_,_=>by simp [EK.ofS] at h
 |[c],[x],r,h,[],h'=>h'.elim
 |[c],[x],r,h,[v],h'=>by
  have:=CP.E6 (c:=c) h h'.1
  simp [EK.cells,this]
 |[c],[x],r,h,_::_::_,h'=>h'.2.elim
 |[c],_::_::_,r,h,_,_=>by simp [EK.ofS] at h
 |c::d::l,[],r,h,_,_=>by simp [EK.ofS] at h
 |c::d::l,x::m,r,h,[],h'=>h'.elim
 |c::d::l,x::m,r,h,v::vs,h'=>by
  simp only [EK.ofS] at h
  split at h
  ·rename_i r1 r2 h1 h2
   cases h
   rw [CP.E6 h1 h'.1,EK.wC (d::l) h2 h'.2]
   rfl
  ·cases h
def EK.EL:(ek:List CP)→EK.Ty ek→Nat→SV→Option (EK.Ty ek)
 |[],_,_,_=>none
 |[c],_,0,v=>c.ofS v
 |[_],_,_+1,_=>none
 |c::_::_,x,0,v=>match c.ofS v with
  |some y=>some (y,x.2)
  |none=>none
 |_::d::l,x,j+1,v=>match EK.EL (d::l) x.2 j v with
  |some y=>some (x.1,y)
  |none=>none
theorem EK.GD {T:bb}{β:Nat→Nat}:∀(ek:List CP) {x r:EK.Ty ek}{j:Nat}{s:SV},EK.EL ek x j s=some r→∀{v:Value},s.rel T β v→EK.cells ek r=(EK.cells ek x).set j v
 |[],_,_,_,_,h,_,_=>by simp [EK.EL] at h
 |[c],x,r,0,s,h,v,hr=>by
  simp only [EK.EL] at h
  simp [EK.cells,CP.E6 h hr]
 |[c],x,r,j+1,s,h,v,hr=>by simp [EK.EL] at h
 |c::d::l,x,r,0,s,h,v,hr=>by
  simp only [EK.EL] at h
  split at h
  ·rename_i y hy
   cases h
   simp [EK.cells,CP.E6 hy hr]
  ·cases h
 |c::d::l,x,r,j+1,s,h,v,hr=>by
  simp only [EK.EL] at h
  split at h
  ·rename_i y hy
   cases h
   have:=EK.GD (d::l) hy hr
   simp [EK.cells,this]
  ·cases h
theorem TP (ek:EK):∀(l:List (EK.Ty ek)) (k:Nat) (r:EK.Ty ek),k<l.length→flat ek (l.set k r)=(flat ek l).take (k*ek.length)++EK.cells ek r++(flat ek l).drop (k*ek.length+ek.length)
 |[],_,_,h=>by simp at h
 |x::l,0,r,_=>by
  simp only [List.set_cons_zero,iQ,ZG7,List.take_zero,ZC9,ZA6]
  congr 1
  rw [←EK.bK ek x];simp
 |x::l,k+1,r,h=>by
  simp only [List.set_cons_succ,iQ]
  rw [TP ek l k r (by simpa using h)]
  have e1:(k+1)*ek.length=(EK.cells ek x).length+k*ek.length:=by rw [EK.bK,ZE3,Nat.one_mul,Nat.add_comm]
  have e2:(k+1)*ek.length+ek.length=(EK.cells ek x).length+(k*ek.length+ek.length):=by rw [e1,ZF7]
  rw [e2,e1,List.take_length_add_append,ZF5]
  simp [ZD2]
theorem UW {l vs:List Value}{o j:Nat}(r:List Value) (v:Value) (hr:(l.drop o).take r.length=r) (hj:j<r.length) (ho:o+r.length≤l.length) (IS:vs=[v]):
  l.take (o+j)++vs++l.drop (o+j+vs.length)=l.take o++r.set j v++l.drop (o+r.length):=by
 subst IS
 have h1:l.take (o+j)=l.take o++r.take j:=by
  rw [List.take_add,←hr,List.take_take,Nat.min_eq_left (by omega)]
 have h2:l.drop (o+j+1)=r.drop (j+1)++l.drop (o+r.length):=by
  have:l.drop o=r++l.drop (o+r.length):=by
   rw [←List.take_append_drop r.length (l.drop o),hr,List.drop_drop]
  rw [ZF7,←List.drop_drop,this,List.drop_append_of_le_length (by omega)]
 rw [List.length_singleton,h1,h2,List.set_eq_take_append_cons_drop,if_pos hj]
 simp
def UR (n:Nat) (v u:AV):Q Rs:=
 match D3 u with
 |none=>.ret .no
 |some m=>bif Nat.beq m.length n&&l9 m then (match v with
  |.o (.s (.bp i o))=>sN i fun
   |.o (.a l)=>.ret (bif Nat.ble (o+n) l.length then .go [(.b i,.a (xg l o m))] else .no)
   |_=>.ret .no
  |.o (.s (.xp i sz k j))=>sN i fun
   |.rs ek l=>bif Nat.beq ek.length sz then (bif Nat.beq n sz&&Nat.beq j 0 then (match EK.ofS ek m with
    |some r=>.ret (.mV (k<l.length) [(.b i,.rs ek (l.set k r))])
    |none=>.ret .no) else match m with
     |[s]=>(match EK.EL ek (nth ek l k) j s with
      |some r=>.ret (.mV (k<l.length) [(.b i,.rs ek (l.set k r))])
      |none=>.ret .no)
     |_=>.ret .no) else .ret .no
   |_=>.ret .no
  |.o (.s (.ep ek j))=>bif Nat.beq n ek.length&&Nat.beq j 0 then (match EK.ofS ek m with
   |some r=>.ret (.mV (EK.ok ek r) [])
   |none=>.ret .no) else .ret .no
  |_=>.ret .no) else .ret .no
theorem K8 {ek:EK}{l z:List (EK.Ty ek)}{cs:Array Value}(mj:cs.toList=flat ek (l++z)) {k:Nat}(hk:k<l.length) (r:EK.Ty ek) {vs:List Value}{j:Nat}(hle:k*ek.length+j+vs.length≤cs.size)
  (h:(j=0∧vs=EK.cells ek r)∨(∃v,vs=[v]∧j<ek.length∧EK.cells ek r=(EK.cells ek (nth ek l k)).set j v)):(spl cs (k*ek.length+j) vs).toList=flat ek (l.set k r++z):=by
 have hkz:k<(l++z).length:=by simp;omega
 have adX:(l.set k r++z)=(l++z).set k r:=by rw [List.set_append_left _ _ hk]
 rw [adX,TP ek (l++z) k r hkz,mz _ _ _ hle,mj]
 rcases h with ⟨rfl,rfl⟩ |⟨v,rfl,hj,hr⟩
 ·rw [Nat.add_zero,EK.bK]
 ·have h1:((flat ek (l++z)).drop (k*ek.length)).take (EK.cells ek (nth ek l k)).length=EK.cells ek (nth ek l k):=by
   rw [EK.bK]
   exact ZW ek (l++z) k _ (by rw [ZC2 hk];exact oz hk)
  have hlen:k*ek.length+(EK.cells ek (nth ek l k)).length≤(flat ek (l++z)).length:=by
   rw [EK.bK,cA]
   have:(k+1)*ek.length≤(l++z).length*ek.length:=ZG3 _ hkz
   rw [ZE3,Nat.one_mul] at this
   exact this
  rw [hr,UW (EK.cells ek (nth ek l k)) v h1 (by rw [EK.bK];exact hj) hlen rfl,EK.bK]
theorem MO {ek:EK}{l z:List (EK.Ty ek)}{cs:Array Value}(mj:cs.toList=flat ek (l++z)) {k:Nat}(hk:k<l.length):k*ek.length+ek.length≤cs.size:=by
 have h1:cs.size=(l++z).length*ek.length:=by rw [←ZE4,mj,cA]
 have:(k+1)*ek.length≤(l++z).length*ek.length:=ZG3 _ (by simp;omega)
 rw [ZE3,Nat.one_mul] at this
 omega
theorem YN:∀(ek:List CP) {x r:EK.Ty ek}{j:Nat}{s:SV},EK.EL ek x j s=some r→j<ek.length
 |[],_,_,_,_,h=>by simp [EK.EL] at h
 |[c],x,r,0,s,h=>by simp
 |[c],x,r,j+1,s,h=>by simp [EK.EL] at h
 |c::d::l,x,r,0,s,h=>by simp
 |c::d::l,x,r,j+1,s,h=>by
  simp only [EK.EL] at h
  split at h
  ·rename_i y hy
   have:=YN (d::l) hy
   simp at this ⊢;omega
  ·cases h
theorem agd {gg:Bool}{n:Nat}(hS:Sh P t=some (gg,n)):fu P N ⟨none,.store t x y,ty,pos,af,g⟩ (bY x fun v=>bY y fun u=>UR n v u):=by
 intro c τ a w hr hp K Q' hK
 obtain⟨T,β,hh⟩:=hr
 rw [c8] at hp hK
 cases hx:ev τ x with
 |none=>rw [hx] at hp;exact hp.elim
 |some v=>
  rw [hx] at hp hK
  simp only [c8] at hp hK
  cases hy:ev τ y with
  |none=>rw [hy] at hp;exact hp.elim
  |some u=>
   rw [hy] at hp hK
   simp only at hp hK
   unfold UR at hp hK
   cases hm:D3 u with
   |none=>rw [hm] at hp;exact hp.elim
   |some m=>
    rw [hm] at hp hK
    simp only at hp hK
    cases hc:Nat.beq m.length n&&l9 m with
    |false=>rw [hc] at hp;exact hp.elim
    |true=>
     rw [hc] at hp hK
     simp only [cond_true] at hp hK
     simp only [ZA9] at hc
     have hmn:m.length=n:=by simpa using hc.1
     have hv:=eO hh hx
     obtain⟨c6,ajd⟩:=wS hm hc.2 (eO hh hy)
     have hml:=jh c6
     have dj:(a.eval y).cells.size=n:=by rw [←hmn,hml];simp
     have hst:∀{b o:Nat} {cs:Array Value} {e:TypeId} {fr:Nat×Nat},a.eval x= .pointer (some ⟨b,o,none⟩)→w.heap[b]?=some (.cells cs e fr)→o+n≤cs.size→free fr cs.size→
       ∃w',(execOp a.eval ⟨none,.store t x y,ty,pos,af,g⟩).run P w= .ok .skip w'∧PZ w b (.cells (spl cs o (a.eval y).cells.toList) e fr) w':=by
      intro b o cs e fr e1 hb hle ka
      obtain⟨w',fj,hw⟩:=NX (P:=P) hS (off:=o) (v:=a.eval y) hb dj hle ka ajd
      exact⟨w',by simp [execOp,e1,Instr.storeAt,Instr.sureAddr,fj],hw⟩
     have fin:∀{w':World} {u:AJ},(execOp a.eval ⟨none,.store t x y,ty,pos,af,g⟩).run P w= .ok .skip w'→K a w'→Oper.wp P ⟨none,.store t x y,ty,pos,af,g⟩ a w K Q':=by
      intro w' u fj hk
      unfold Oper.wp
      rw [fj]
      exact hk
     split at hp
     ·rename_i i o
      simp only [sN,Q.run] at hp hK
      have e:a.eval x= .pointer (some ⟨β i,o,none⟩):=hv
      cases hb:τ (.b i) with
      |none=>rw [hb] at hp;exact hp.elim
      |some av=>
       rw [hb] at hp hK
       simp only at hp hK
       split at hp
       ·rename_i l
        simp only [Q.run] at hp hK
        cases qk:Nat.ble (o+n) l.length with
        |false=>rw [qk] at hp;exact hp.elim
        |true=>
         rw [qk] at hp hK
         have hle:=zqNlb qk
         have hl:live τ i:=eC hb (by intro e;cases e)
         obtain⟨cs,te,mj,hrl⟩:=hh.boxes i _ hb (by intro e;cases e)
         have ai9:dM T β l cs.toList:=hrl
         have hlen:=jh ai9
         obtain⟨w',fj,hw⟩:=hst e mj (by simp at hlen;omega) (I0 _)
         refine fin (u:=[]) fj (hK _ _ _ rfl ⟨T,β,?_⟩)
         refine hh.DE hl mj hw (nA _ _ _) (show dM T β _ _ from Q7 l cs o c6 ai9) fun j hj=>?_
         rcases GA m l o hj with h3 |h3
         ·exact hh.named (.b i) _ hb j h3
         ·exact gX hh hy j (vE hm h3)
       ·exact hp.elim
     ·rename_i i sz k j
      simp only [sN,Q.run] at hp hK
      obtain⟨e,hj⟩:=hv
      cases hb:τ (.b i) with
      |none=>rw [hb] at hp;exact hp.elim
      |some av=>
       rw [hb] at hp hK
       simp only at hp hK
       split at hp
       ·rename_i ek l
        simp only at hK
        have hl:live τ i:=eC hb (by intro e;cases e)
        obtain⟨cs,te,mj,fy,z,IX,hz⟩:=hh.boxes i _ hb (by intro e;cases e)
        cases hq:Nat.beq ek.length sz with
        |false=>rw [hq] at hp;exact hp.elim
        |true=>
         rw [hq] at hp hK
         have akI:ek.length=sz:=by simpa using hq
         subst akI
         simp only [cond_true] at hp hK
         have done:∀(r:EK.Ty ek),k<l.length→((j=0∧(a.eval y).cells.toList=EK.cells ek r)∨(∃v,(a.eval y).cells.toList=[v]∧j<ek.length∧EK.cells ek r=(EK.cells ek (nth ek l k)).set j v))→
           (∀a' w',Rel N c (τ.ap [(.b i,.rs ek (l.set k r))]) a' w'→K a' w')→Oper.wp P ⟨none,.store t x y,ty,pos,af,g⟩ a w K Q':=by
          intro r hk ai0 hK
          have nW:=MO IX hk
          have hn:j+n≤ek.length:=by
           have hcl:(a.eval y).cells.toList.length=n:=by simpa using dj
           rcases ai0 with ⟨rfl,h⟩ |⟨v,h,CR,_⟩
           ·rw [h,EK.bK] at hcl;omega
           ·rw [h] at hcl;simp at hcl;omega
          obtain⟨w',fj,hw⟩:=hst e mj (by omega) (I0 _)
          refine fin (u:=[]) fj (hK _ _ ⟨T,β,?_⟩)
          exact hh.DE hl mj hw (nA _ _ _) ⟨fy,z,K8 IX hk r (by rw [show (a.eval y).cells.toList.length=n by simpa using dj];omega) ai0,hz⟩ (by simp [AV.boxes])
         cases xx:Nat.beq n ek.length&&Nat.beq j 0 with
         |true=>
          rw [xx] at hp hK
          simp only [ZA9] at xx
          have hj0:j=0:=by simpa using xx.2
          simp only [cond_true] at hp hK
          split at hp
          ·rename_i r hr
           simp only [hr] at hK
           exact done r hp (.inl ⟨hj0,EK.wC ek hr c6⟩) fun a' w' h=>hK _ _ _ rfl h
          ·exact hp.elim
         |false=>
          rw [xx] at hp hK
          simp only [cond_false] at hp hK
          split at hp
          ·rename_i s
           split at hp
           ·rename_i r hr
            simp only [hr] at hK
            obtain⟨v0,hv0⟩:∃v0,(a.eval y).cells.toList=[v0]:=by
             cases hcl:(a.eval y).cells.toList with
             |nil=>rw [hcl] at hml;simp at hml
             |cons v0 rest=>
              cases rest with
              |nil=>exact⟨v0,rfl⟩
              |cons _ _=>rw [hcl] at hml;simp at hml
            rw [hv0] at c6
            exact done r hp (.inr ⟨v0,hv0,YN ek hr,EK.GD ek hr c6.1⟩) fun a' w' h=>hK _ _ _ rfl h
           ·exact hp.elim
          ·exact hp.elim
       ·exact hp.elim
     ·rename_i ek j
      simp only at hK
      cases xx:Nat.beq n ek.length&&Nat.beq j 0 with
      |false=>rw [xx] at hp;exact hp.elim
      |true=>
       rw [xx] at hp hK
       simp only [ZA9] at xx
       have hj0:j=0:=by simpa using xx.2
       have hnk:n=ek.length:=by simpa using xx.1
       subst hj0
       simp only [cond_true] at hp hK
       split at hp
       ·rename_i r hr
        simp only [hr] at hK
        obtain⟨b,o,k,e,hT,ho,_⟩:=hv
        obtain⟨fy,cs,te,fr,l,mj,ka,lY⟩:=hh.typed b _ hT
        have IX:cs.toList=flat ek (l++[]):=by simpa using lY.2.2
        have hk:o<l.length:=by rw [lY.1];exact ho
        have nW:=MO IX hk
        obtain⟨w',fj,hw⟩:=hst e mj (by omega) ka
        refine fin (u:=[]) fj (hK _ _ _ rfl ⟨T,β,?_⟩)
        have vA:=K8 IX hk r (j:=0) (vs:=(a.eval y).cells.toList) (by rw [show (a.eval y).cells.toList.length=n by simpa using dj];omega) (.inl ⟨rfl,EK.wC ek hr c6⟩)
        refine hh.uN hT hw (by rw [nA];exact ka) (l:=l.set o r) ⟨by simp [lY.1],fun q hq=>?_,by simpa using vA⟩
        rcases List.mem_or_eq_of_mem_set hq with h |h
        ·exact lY.2.1 q h
        ·rw [h];exact hp
       ·exact hp.elim
     ·exact hp.elim
def zeroOf (P:Program) (t:TypeId):Option (List Value):=
 match P.info? t with
 |some i=>match i.zero with
  |some z=>some z.cells.toList
  |none=>none
 |none=>none
theorem acq {zs:List Value}(h:zeroOf P t=some zs) (w:World):∃z,(zeroValue t).run P w= .ok z w∧z.cells.toList=zs:=by
 unfold zeroOf at h
 split at h
 ·rename_i i hi
  split at h
  ·rename_i z hz
   cases h
   exact⟨z,by simp [zeroValue,typeInfo,hi,hz],rfl⟩
  ·cases h
 ·cases h
def uB:List Value→List SV
 |[]=>[]
 |v::l=>.v v::uB l
theorem HT {T:bb}{β:Nat→Nat}:∀l:List Value,dM T β (uB l) l
 |[]=>trivial
 |v::l=>⟨rfl,HT l⟩
theorem yv:∀l:List Value,cc (uB l)=[]
 |[]=>rfl
 |v::l=>by simp [uB,cc,SV.boxes,yv l]
def X7 (d:Nat) (l:List SV):Q Rs:=.ask (.b (1000+d)) fun
 |none=>.ret (.go [(.s d,.s (.bp (1000+d) 0)),(.b (1000+d),.a l)])
 |some _=>.ret .no
theorem agk {zs:List Value}(hz:zeroOf P t=some zs) (hd:d<N):fu P N ⟨some d,.alloc t,ty,pos,af,g⟩ (X7 d (uB zs)):=by
 intro c τ a w hr hp K Q' hK
 obtain⟨T,β,hh⟩:=hr
 simp only [X7,Q.run] at hp hK
 cases hn:τ (.b (1000+d)) with
 |some v=>rw [hn] at hp;exact hp.elim
 |none=>
  rw [hn] at hp hK
  obtain⟨z,fj,hzs⟩:=acq (P:=P) hz w
  unfold Oper.wp
  have hex:(execOp a.eval ⟨some d,.alloc t,ty,pos,af,g⟩).run P w= .ok (.value (.pointer (some ⟨w.heap.size,0,none⟩))) { w with heap:=w.heap.push (.cells z.cells t (0,0)) }:=by
   simp [execOp,Instr.alloc,fj,newVar,newRow]
  rw [hex]
  have h1:=hh.tz (d:=1000+d) (by omega) hn (av:=.a (uB zs)) (cs:=z.cells) (e:=t) (w':= { w with heap:=w.heap.push (.cells z.cells t (0,0)) }) ⟨rfl,rfl,rfl,rfl⟩ (show dM _ _ _ _ by rw [hzs];exact HT _) (by simp [AV.boxes,A0.boxes,yv])
  exact hK _ _ _ rfl ⟨_,_,h1.put hd (av:=.s (.bp (1000+d) 0)) (by show _=_;unfold oe;rw [if_pos rfl]) (by simp [AV.boxes,A0.boxes,SV.boxes,uf])⟩
def ahX (d:Nat) (v:AV):Q Rs:=
 match D3 v with
 |none=>.ret .no
 |some l=>.ask (.b (1000+d)) fun
  |none=>.ret (bif l9 l then .go [(.s d,.s (.bp (1000+d) 0)),(.b (1000+d),.a l)] else .no)
  |some _=>.ret .no
theorem ajU (hd:d<N):fu P N ⟨some d,.box t x,ty,pos,af,g⟩ (bY x fun v=>ahX d v):=by
 intro c τ a w hr hp K Q' hK
 obtain⟨T,β,hh⟩:=hr
 rw [c8] at hp hK
 cases hx:ev τ x with
 |none=>rw [hx] at hp;exact hp.elim
 |some v=>
  rw [hx] at hp hK
  simp only [ahX] at hp hK
  cases hm:D3 v with
  |none=>rw [hm] at hp;exact hp.elim
  |some l=>
   rw [hm] at hp hK
   simp only [Q.run] at hp hK
   cases hn:τ (.b (1000+d)) with
   |some v=>rw [hn] at hp;exact hp.elim
   |none=>
    rw [hn] at hp hK
    simp only [Q.run] at hp hK
    cases ho:l9 l with
    |false=>rw [ho] at hp;exact hp.elim
    |true=>
     rw [ho] at hp hK
     obtain⟨c6,_⟩:=wS hm ho (eO hh hx)
     unfold Oper.wp
     have hex:(execOp a.eval ⟨some d,.box t x,ty,pos,af,g⟩).run P w= .ok (.value (.pointer (some ⟨w.heap.size,0,none⟩))) { w with heap:=w.heap.push (.cells (a.eval x).cells t (0,0)) }:=by
      simp [execOp,Instr.box,newVar,newRow]
     rw [hex]
     have h1:=hh.tz (d:=1000+d) (by omega) hn (av:=.a l) (cs:=(a.eval x).cells) (e:=t) (w':= { w with heap:=w.heap.push (.cells (a.eval x).cells t (0,0)) }) ⟨rfl,rfl,rfl,rfl⟩ (show dM _ _ _ _ from c6) (fun j hj=>gX hh hx j (vE hm hj))
     exact hK _ _ _ rfl ⟨_,_,h1.put hd (av:=.s (.bp (1000+d) 0)) (by show _=_;unfold oe;rw [if_pos rfl]) (by simp [AV.boxes,A0.boxes,SV.boxes,uf])⟩
end
end GL
end Go.Proofs.YtclcgjhhehbdeaaGreatDoor
