/- A drawn law returns true for every code (its row lists package variables, tied by the card): part 8. -/
import Derived.Test.YtnkbdhldiinfdaaGreatDoorPag
set_option maxHeartbeats 20000000
set_option maxRecDepth 100000
set_option linter.all false
namespace Go.Proofs.YtnkbdhldiinfdaaGreatDoor
namespace GL
def spl (cs:Array Value) (k:Nat):List Value→Array Value
 |[]=>cs
 |v::vs=>spl (cs.setIfInBounds k v) (k+1) vs
def aaH (l:List SV) (k:Nat):List SV→List SV
 |[]=>l
 |x::m=>aaH (l.set k x) (k+1) m
theorem nE:∀(vs:List Value) (cs:Array Value) (k:Nat),(spl cs k vs).size=cs.size
 |[],_,_=>rfl
 |_::vs,cs,k=>by simp [spl,nE vs]
theorem DN:∀(m l:List SV) (k:Nat),(aaH l k m).length=l.length
 |[],_,_=>rfl
 |_::m,l,k=>by simp [aaH,DN m]
theorem mD:∀(vs:List Value) (cs:Array Value) (k:Nat),k+vs.length≤cs.size→(spl cs k vs).toList=cs.toList.take k++vs++cs.toList.drop (k+vs.length)
 |[],cs,k,_=>by simp [spl]
 |v::vs,cs,k,h=>by
  simp only [ZA1] at h
  rw [spl,mD vs _ (k+1) (by simp;omega),Array.toList_setIfInBounds]
  have hk:k<cs.toList.length:=by simp;omega
  rw [List.take_set,List.take_succ_eq_append_getElem hk,List.set_append_right _ _ (by simp;omega)]
  have h1:k-(cs.toList.take k).length=0:=by simp;omega
  rw [h1]
  have h2:(cs.toList.set k v).drop (k+1+vs.length)=cs.toList.drop (k+(v::vs).length):=by
   rw [List.drop_set_of_lt (by omega)]
   simp only [ZA1]
   congr 1;omega
  rw [h2]
  simp
section
variable {T:bb}{β:Nat→Nat}
theorem RE:∀{l:List SV}{cs:List Value}(k:Nat) {x:SV}{v:Value},dN T β l cs→x.rel T β v→dN T β (l.set k x) (cs.set k v)
 |[],[],_,_,_,_,_=>trivial
 |_::_,[],_,_,_,h,_=>h.elim
 |[],_::_,_,_,_,h,_=>h.elim
 |_::l,_::cs,0,x,v,h,hx=>⟨hx,h.2⟩
 |_::l,_::cs,k+1,x,v,h,hx=>⟨h.1,RE k h.2 hx⟩
theorem LL:∀{m:List SV}{vs:List Value}(l:List SV) (cs:Array Value) (k:Nat),dN T β m vs→dN T β l cs.toList→dN T β (aaH l k m) (spl cs k vs).toList
 |[],[],_,_,_,_,h=>h
 |_::_,[],_,_,_,h,_=>h.elim
 |[],_::_,_,_,_,h,_=>h.elim
 |x::m,v::vs,l,cs,k,hm,h=>by
  refine LL (l.set k x) (cs.setIfInBounds k v) (k+1) hm.2 ?_
  rw [Array.toList_setIfInBounds]
  exact RE k h hm.1
theorem GH {i:Nat}:∀(m l:List SV) (k:Nat),i∈cc (aaH l k m)→i∈cc l∨i∈cc m
 |[],_,_,h=>.inl h
 |x::m,l,k,h=>by
  rcases GH m (l.set k x) (k+1) h with h1 |h1
  ·rw [gJ] at h1
   obtain⟨y,hy,hi⟩:=h1
   rcases List.mem_or_eq_of_mem_set hy with h2 |h2
   ·exact .inl (gJ.2 ⟨y,h2,hi⟩)
   ·exact .inr (gJ.2 ⟨x,by simp,by rw [←h2];exact hi⟩)
  ·right
   rw [gJ] at h1 ⊢
   obtain⟨y,hy,hi⟩:=h1
   exact⟨y,by simp [hy],hi⟩
def xk:List SV→Nat→List SV→List SV
 |[],_,_=>[]
 |x::l,0,[]=>x::l
 |_::l,0,y::m=>y::xk l 0 m
 |x::l,k+1,m=>x::xk l k m
theorem QN:∀(l:List SV) (k:Nat),xk l k []=l
 |[],0=>rfl
 |[],_+1=>rfl
 |_::_,0=>rfl
 |x::l,k+1=>by show x::xk l k []=x::l;rw [QN l k]
theorem LB:∀(k:Nat) (m:List SV),xk [] k m=[]
 |0,[]=>rfl
 |0,_::_=>rfl
 |_+1,_=>rfl
theorem LC (y:SV) (m:List SV):∀(l:List SV) (k:Nat),xk l k (y::m)=xk (l.set k y) (k+1) m
 |[],k=>by rw [List.set_nil,LB,LB]
 |_::_,0=>rfl
 |x::l,k+1=>by show x::xk l k (y::m)=x::xk (l.set k y) (k+1) m;rw [LC y m l k]
theorem E5:∀(m l:List SV) (k:Nat),xk l k m=aaH l k m
 |[],l,k=>QN l k
 |y::m,l,k=>by rw [LC,E5 m];rfl
theorem agD (m l:List SV) (k:Nat):(xk l k m).length=l.length:=by rw [E5];exact DN m l k
theorem RD {m:List SV}{vs:List Value}(l:List SV) (cs:Array Value) (k:Nat) (h1:dN T β m vs) (h2:dN T β l cs.toList):dN T β (xk l k m) (spl cs k vs).toList:=by rw [E5];exact LL l cs k h1 h2
theorem GG {i:Nat}(m l:List SV) (k:Nat) (h:i∈cc (xk l k m)):i∈cc l∨i∈cc m:=by rw [E5] at h;exact GH m l k h
end
theorem abW {w:World}{b:Nat}{cs:Array Value}{e:TypeId}{fr:Nat×Nat}(h:w.heap[b]?=some (.cells cs e fr)) (o:Nat):w.frozen? ⟨b,o,none⟩=(decide (fr.1≤o)&&decide (o<fr.2)):=by
 simp [World.frozen?,h]
theorem N2 {w:World}{b:Nat}{cs:Array Value}{e:TypeId}{fr:Nat×Nat}(h:w.heap[b]?=some (.cells cs e fr)) (o:Nat) (v:Value):P5 w b (.cells (cs.setIfInBounds o v) e fr) (w.setCell ⟨b,o,none⟩ v) where
 at_:=by simp [World.setCell,Array.getElem?_modify,h]
 other:=fun k hk=>by simp only [World.setCell,Array.getElem?_modify];rw [if_neg (by omega)]
 size:=by simp [World.setCell]
 os:=rfl
 tape:=rfl
 output:=rfl
section
variable {P:Program}{N:Nat}{τ:St}
variable {d:Nat}{x y z:Operand}{t u ty:TypeId}{pos:String}{af:Array Edge}{g:Option (Nat×Bool)}
theorem pE {b off:Nat}{e:TypeId}{fr:Nat×Nat}:∀(vs:List Value) (i:Nat) (cs:Array Value) (w:World),w.heap[b]?=some (.cells cs e fr)→off+i+vs.length≤cs.size→free fr cs.size→(∀v∈vs,one v=true)→
  ∃w',(storeCells ⟨b,off,none⟩ vs i).run P w= .ok () w'∧P5 w b (.cells (spl cs (off+i) vs) e fr) w'
 |[],i,cs,w,h,_,_,_=>⟨w,by simp [storeCells],⟨h,fun _ _=>rfl,rfl,rfl,rfl,rfl⟩⟩
 |v::vs,i,cs,w,h,hle,ke,TK=>by
  simp only [ZA1] at hle
  have hc:w.cell? ⟨b,off+i,none⟩=some (cs[off+i]'(by omega)):=by rw [rr h];exact ZG0 (by omega)
  have hf:w.frozen? ⟨b,off+i,none⟩=false:=by rw [abW h];exact agb ke _ (by omega)
  have hs:(store ((⟨b,off,none⟩:Addr).add i) v).run P w= .ok () (w.setCell ⟨b,off+i,none⟩ v):=by
   rw [ga,run_store P w _ v .plain (TK v (by simp)),hc]
   simp [hf]
  have ho:=N2 h (off+i) v
  obtain⟨w',hr,hw⟩:=pE (off:=off) vs (i+1) (cs.setIfInBounds (off+i) v) _ ho.at_ (by simp;omega) (by simpa using ke) (fun x hx=>TK x (by simp [hx]))
  refine⟨w',?_,?_⟩
  ·simp only [storeCells,Sem.run_bind,hs,Result.andThen_ok]
   exact hr
  ·exact⟨hw.at_,fun k hk=>(hw.other k hk).trans (ho.other k hk),hw.size.trans ho.size,hw.os.trans ho.os,hw.tape.trans ho.tape,hw.output.trans ho.output⟩
theorem N3 {gg:Bool}{n:Nat}(h:Sh P t=some (gg,n)) {b off:Nat}{e:TypeId}{fr:Nat×Nat}{cs:Array Value}{w:World}{v:Value}(hb:w.heap[b]?=some (.cells cs e fr)) (hn:v.cells.size=n) (hle:off+n≤cs.size) (ke:free fr cs.size) (TK:∀x∈v.cells.toList,one x=true):
  ∃w',(storeVar t ⟨b,off,none⟩ v).run P w= .ok () w'∧P5 w b (.cells (spl cs off v.cells.toList) e fr) w':=by
 obtain⟨_,h2⟩:=jJ h w
 obtain⟨w',hr,hw⟩:=pE (P:=P) (off:=off) v.cells.toList 0 cs w hb (by simp [hn];exact hle) ke TK
 refine⟨w',?_,by simpa using hw⟩
 simp [storeVar,h2,hn,hr]
def SV.one:SV→Bool
 |.v x=>GL.one x
 |_=>true
def me:List SV→Bool
 |[]=>true
 |x::l=>x.one&&me l
theorem SV.OU {T:bb}{β:Nat→Nat}{x:SV}{v:Value}(h:x.one=true) (hr:x.rel T β v):GL.one v=true:=by
 cases x with
 |v x=>have:v=x:=hr;subst this;exact h
 |q b=>have:v=_:=hr;subst this;rfl
 |bp i o=>have:v=_:=hr;subst this;rfl
 |xp i sz k j=>obtain⟨rfl,_⟩:=hr;rfl
 |xs i sz o m=>rcases hr with ⟨_,p,rfl⟩ |⟨cap,n,rfl,_⟩<;>rfl
 |ep ek j=>obtain⟨b,o,n,rfl,_⟩:=hr;rfl
 |sl ek len=>rcases hr with ⟨_,p,rfl⟩ |⟨b,o,cap,n,rfl,_⟩<;>rfl
 |vw ek l=>rcases hr with ⟨_,p,cap,rfl⟩ |⟨b,o,cap,cs,e,fr,rfl,_⟩<;>rfl
 |vz ek l=>rcases hr with ⟨_,p,cap,rfl⟩ |⟨b,o,cap,cs,rfl,_⟩<;>rfl
 |vp ek x j=>obtain⟨b,o,cs,rfl,_⟩:=hr;rfl
 |vs l j=>obtain⟨b,cs,rfl,_⟩:=hr;rfl
 |er b=>
  cases b with
  |true=>have:v= .nilIface:=hr;subst this;rfl
  |false=>obtain⟨t,x,rfl⟩:=hr;rfl
 |e0=>obtain⟨p,rfl⟩:=hr;rfl
theorem RF {T:bb}{β:Nat→Nat}:∀{l:List SV}{cs:List Value},me l=true→dN T β l cs→∀v∈cs,GL.one v=true
 |[],[],_,_,v,hv=>by cases hv
 |_::_,[],_,h,_,_=>h.elim
 |[],_::_,_,h,_,_=>h.elim
 |x::l,v::cs,h1,h2,y,hy=>by
  simp only [me,ZA9] at h1
  rcases ZB8.1 hy with rfl |hy
  ·exact SV.OU h1.1 h2.1
  ·exact RF h1.2 h2.2 y hy
theorem AA {v:Value}(h:GL.one v=true):v.cells= #[v]:=by cases v<;>first|rfl|(simp [GL.one,Value.oneCell'] at h)
def D7:AV→Option (List SV)
 |.o (.a l)=>some l
 |.o (.s x)=>some [x]
 |_=>none
theorem wW {T:bb}{β:Nat→Nat}{x:AV}{l:List SV}(h:D7 x=some l) (TK:me l=true) {v:Value}(hr:x.rel T β v):dN T β l v.cells.toList∧∀y∈v.cells.toList,GL.one y=true:=by
 cases x with
 |t l=>cases h
 |rs ek l=>cases h
 |zz=>cases h
 |fn f l=>cases h
 |o x=>
  cases x with
  |s y=>
   cases h
   simp only [me,Bool.and_true] at TK
   have h1:=SV.OU TK hr
   rw [AA h1]
   exact⟨⟨hr,trivial⟩,by simpa using h1⟩
  |a l=>
   cases h
   obtain⟨cs,rfl,hl⟩:=hr
   exact⟨hl,RF TK hl⟩
theorem vI {x:AV}{l:List SV}(h:D7 x=some l) {i:Nat}(hi:i∈cc l):i∈x.boxes:=by
 cases x with
 |t l=>cases h
 |rs ek l=>cases h
 |zz=>cases h
 |fn f l=>cases h
 |o x=>
  cases x with
  |s y=>cases h;simpa [AV.boxes,A0.boxes,cc] using hi
  |a l=>cases h;exact hi
def CP.ofS:(c:CP)→SV→Option c.Ty
 |.i64,.v (.int .i64 n)=>some n
 |.row,.v (.int .i64 n)=>some n
 |.u8,.v (.int .u8 n)=>some n
 |.str _,.v (.string s)=>some s
 |.bool,.q b=>some b
 |.bool,.v (.bool b)=>some b
 |_,_=>none
def EK.ofS:(ek:List CP)→List SV→Option (EK.Ty ek)
 |[],[]=>some ()
 |[c],[x]=>c.ofS x
 |c::d::l,x::m=>match c.ofS x,EK.ofS (d::l) m with
  |some v,some r=>some (v,r)
  |_,_=>none
 |_,_=>none
theorem CP.FB {T:bb}{β:Nat→Nat}{c:CP}{x:SV}{r:c.Ty}(h:c.ofS x=some r) {v:Value}(hr:x.rel T β v):v=c.val r:=by
 unfold CP.ofS at h
 split at h<;>first|(cases h;exact hr)|cases h
theorem EK.wG {T:bb}{β:Nat→Nat}:∀(ek:List CP) {l:List SV}{r:EK.Ty ek},EK.ofS ek l=some r→∀{vs:List Value},dN T β l vs→vs=EK.cells ek r
 |[],[],_,_,[],_=>rfl
 |[],[],_,_,_::_,h=>h.elim
 |[],_::_,_,h,_,_=>by simp [EK.ofS] at h
 |[c],[],_,h,_,_=>by simp [EK.ofS] at h
 |[c],[x],r,h,[],h'=>h'.elim
 |[c],[x],r,h,[v],h'=>by
  have:=CP.FB (c:=c) h h'.1
  simp [EK.cells,this]
 |[c],[x],r,h,_::_::_,h'=>h'.2.elim
 |[c],_::_::_,r,h,_,_=>by simp [EK.ofS] at h
 |c::d::l,[],r,h,_,_=>by simp [EK.ofS] at h
 |c::d::l,x::m,r,h,[],h'=>h'.elim
 |c::d::l,x::m,r,h,v::vs,h'=>by
  simp only [EK.ofS] at h
  split at h
  ·rename_i r1 r2 h1 h2
   cases h
   rw [CP.FB h1 h'.1,EK.wG (d::l) h2 h'.2]
   rfl
  ·cases h
def EK.EP:(ek:List CP)→EK.Ty ek→Nat→SV→Option (EK.Ty ek)
 |[],_,_,_=>none
 |[c],_,0,v=>c.ofS v
 |[_],_,_+1,_=>none
 |c::_::_,x,0,v=>match c.ofS v with
  |some y=>some (y,x.2)
  |none=>none
 |_::d::l,x,j+1,v=>match EK.EP (d::l) x.2 j v with
  |some y=>some (x.1,y)
  |none=>none
theorem EK.GJ {T:bb}{β:Nat→Nat}:∀(ek:List CP) {x r:EK.Ty ek}{j:Nat}{s:SV},EK.EP ek x j s=some r→∀{v:Value},s.rel T β v→EK.cells ek r=(EK.cells ek x).set j v
 |[],_,_,_,_,h,_,_=>by simp [EK.EP] at h
 |[c],x,r,0,s,h,v,hr=>by
  simp only [EK.EP] at h
  simp [EK.cells,CP.FB h hr]
 |[c],x,r,j+1,s,h,v,hr=>by simp [EK.EP] at h
 |c::d::l,x,r,0,s,h,v,hr=>by
  simp only [EK.EP] at h
  split at h
  ·rename_i y hy
   cases h
   simp [EK.cells,CP.FB hy hr]
  ·cases h
 |c::d::l,x,r,j+1,s,h,v,hr=>by
  simp only [EK.EP] at h
  split at h
  ·rename_i y hy
   cases h
   have:=EK.GJ (d::l) hy hr
   simp [EK.cells,this]
  ·cases h
theorem TV (ek:EK):∀(l:List (EK.Ty ek)) (k:Nat) (r:EK.Ty ek),k<l.length→flat ek (l.set k r)=(flat ek l).take (k*ek.length)++EK.cells ek r++(flat ek l).drop (k*ek.length+ek.length)
 |[],_,_,h=>by simp at h
 |x::l,0,r,_=>by
  simp only [List.set_cons_zero,iS,ZH0,List.take_zero,ZD0,ZA6]
  congr 1
  rw [←EK.bK ek x];simp
 |x::l,k+1,r,h=>by
  simp only [List.set_cons_succ,iS]
  rw [TV ek l k r (by simpa using h)]
  have e1:(k+1)*ek.length=(EK.cells ek x).length+k*ek.length:=by rw [EK.bK,ZE3,Nat.one_mul,Nat.add_comm]
  have e2:(k+1)*ek.length+ek.length=(EK.cells ek x).length+(k*ek.length+ek.length):=by rw [e1,ZF7]
  rw [e2,e1,List.take_length_add_append,ZF5]
  simp [ZD2]
theorem U3 {l vs:List Value}{o j:Nat}(r:List Value) (v:Value) (hr:(l.drop o).take r.length=r) (hj:j<r.length) (ho:o+r.length≤l.length) (IY:vs=[v]):
  l.take (o+j)++vs++l.drop (o+j+vs.length)=l.take o++r.set j v++l.drop (o+r.length):=by
 subst IY
 have h1:l.take (o+j)=l.take o++r.take j:=by
  rw [List.take_add,←hr,List.take_take,Nat.min_eq_left (by omega)]
 have h2:l.drop (o+j+1)=r.drop (j+1)++l.drop (o+r.length):=by
  have:l.drop o=r++l.drop (o+r.length):=by
   rw [←ZG1 r.length (l.drop o),hr,ZF9]
  rw [ZF7,←ZF9,this,List.drop_append_of_le_length (by omega)]
 rw [List.length_singleton,h1,h2,List.set_eq_take_append_cons_drop,if_pos hj]
 simp
def UZ (n:Nat) (v u:AV):Q Rs:=
 match D7 u with
 |none=>.ret .no
 |some m=>bif Nat.beq m.length n&&me m then (match v with
  |.o (.s (.bp i o))=>sR i fun
   |.o (.a l)=>.ret (bif Nat.ble (o+n) l.length then .go [(.b i,.a (xk l o m))] else .no)
   |_=>.ret .no
  |.o (.s (.xp i sz k j))=>sR i fun
   |.rs ek l=>bif Nat.beq ek.length sz then (bif Nat.beq n sz&&Nat.beq j 0 then (match EK.ofS ek m with
    |some r=>.ret (.mZ (k<l.length) [(.b i,.rs ek (l.set k r))])
    |none=>.ret .no) else match m with
     |[s]=>(match EK.EP ek (nth ek l k) j s with
      |some r=>.ret (.mZ (k<l.length) [(.b i,.rs ek (l.set k r))])
      |none=>.ret .no)
     |_=>.ret .no) else .ret .no
   |_=>.ret .no
  |.o (.s (.ep ek j))=>bif Nat.beq n ek.length&&Nat.beq j 0 then (match EK.ofS ek m with
   |some r=>.ret (.mZ (EK.ok ek r) [])
   |none=>.ret .no) else .ret .no
  |_=>.ret .no) else .ret .no
theorem LF {ek:EK}{l z:List (EK.Ty ek)}{cs:Array Value}(mq:cs.toList=flat ek (l++z)) {k:Nat}(hk:k<l.length) (r:EK.Ty ek) {vs:List Value}{j:Nat}(hle:k*ek.length+j+vs.length≤cs.size)
  (h:(j=0∧vs=EK.cells ek r)∨(∃v,vs=[v]∧j<ek.length∧EK.cells ek r=(EK.cells ek (nth ek l k)).set j v)):(spl cs (k*ek.length+j) vs).toList=flat ek (l.set k r++z):=by
 have hkz:k<(l++z).length:=by simp;omega
 have ad5:(l.set k r++z)=(l++z).set k r:=by rw [List.set_append_left _ _ hk]
 rw [ad5,TV ek (l++z) k r hkz,mD _ _ _ hle,mq]
 rcases h with ⟨rfl,rfl⟩ |⟨v,rfl,hj,hr⟩
 ·rw [Nat.add_zero,EK.bK]
 ·have h1:((flat ek (l++z)).drop (k*ek.length)).take (EK.cells ek (nth ek l k)).length=EK.cells ek (nth ek l k):=by
   rw [EK.bK]
   exact Z3 ek (l++z) k _ (by rw [ZC2 hk];exact oD hk)
  have hlen:k*ek.length+(EK.cells ek (nth ek l k)).length≤(flat ek (l++z)).length:=by
   rw [EK.bK,cA]
   have:(k+1)*ek.length≤(l++z).length*ek.length:=ZG6 _ hkz
   rw [ZE3,Nat.one_mul] at this
   exact this
  rw [hr,U3 (EK.cells ek (nth ek l k)) v h1 (by rw [EK.bK];exact hj) hlen rfl,EK.bK]
theorem MU {ek:EK}{l z:List (EK.Ty ek)}{cs:Array Value}(mq:cs.toList=flat ek (l++z)) {k:Nat}(hk:k<l.length):k*ek.length+ek.length≤cs.size:=by
 have h1:cs.size=(l++z).length*ek.length:=by rw [←ZE4,mq,cA]
 have:(k+1)*ek.length≤(l++z).length*ek.length:=ZG6 _ (by simp;omega)
 rw [ZE3,Nat.one_mul] at this
 omega
theorem YT:∀(ek:List CP) {x r:EK.Ty ek}{j:Nat}{s:SV},EK.EP ek x j s=some r→j<ek.length
 |[],_,_,_,_,h=>by simp [EK.EP] at h
 |[c],x,r,0,s,h=>by simp
 |[c],x,r,j+1,s,h=>by simp [EK.EP] at h
 |c::d::l,x,r,0,s,h=>by simp
 |c::d::l,x,r,j+1,s,h=>by
  simp only [EK.EP] at h
  split at h
  ·rename_i y hy
   have:=YT (d::l) hy
   simp at this ⊢;omega
  ·cases h
theorem agm {gg:Bool}{n:Nat}(hS:Sh P t=some (gg,n)):fv P N ⟨none,.store t x y,ty,pos,af,g⟩ (bY x fun v=>bY y fun u=>UZ n v u):=by
 intro c τ a w hr hp K Q' hK
 obtain⟨T,β,hh⟩:=hr
 rw [c8] at hp hK
 cases hx:ev τ x with
 |none=>rw [hx] at hp;exact hp.elim
 |some v=>
  rw [hx] at hp hK
  simp only [c8] at hp hK
  cases hy:ev τ y with
  |none=>rw [hy] at hp;exact hp.elim
  |some u=>
   rw [hy] at hp hK
   simp only at hp hK
   unfold UZ at hp hK
   cases hm:D7 u with
   |none=>rw [hm] at hp;exact hp.elim
   |some m=>
    rw [hm] at hp hK
    simp only at hp hK
    cases hc:Nat.beq m.length n&&me m with
    |false=>rw [hc] at hp;exact hp.elim
    |true=>
     rw [hc] at hp hK
     simp only [cond_true] at hp hK
     simp only [ZA9] at hc
     have hmn:m.length=n:=by simpa using hc.1
     have hv:=eP hh hx
     obtain⟨c6,ajl⟩:=wW hm hc.2 (eP hh hy)
     have hml:=jj c6
     have dj:(a.eval y).cells.size=n:=by rw [←hmn,hml];simp
     have hst:∀{b o:Nat} {cs:Array Value} {e:TypeId} {fr:Nat×Nat},a.eval x= .pointer (some ⟨b,o,none⟩)→w.heap[b]?=some (.cells cs e fr)→o+n≤cs.size→free fr cs.size→
       ∃w',(execOp a.eval ⟨none,.store t x y,ty,pos,af,g⟩).run P w= .ok .skip w'∧P5 w b (.cells (spl cs o (a.eval y).cells.toList) e fr) w':=by
      intro b o cs e fr e1 hb hle ke
      obtain⟨w',fk,hw⟩:=N3 (P:=P) hS (off:=o) (v:=a.eval y) hb dj hle ke ajl
      exact⟨w',by simp [execOp,e1,Instr.storeAt,Instr.sureAddr,fk],hw⟩
     have fin:∀{w':World} {u:AO},(execOp a.eval ⟨none,.store t x y,ty,pos,af,g⟩).run P w= .ok .skip w'→K a w'→Oper.wp P ⟨none,.store t x y,ty,pos,af,g⟩ a w K Q':=by
      intro w' u fk hk
      unfold Oper.wp
      rw [fk]
      exact hk
     split at hp
     ·rename_i i o
      simp only [sR,Q.run] at hp hK
      have e:a.eval x= .pointer (some ⟨β i,o,none⟩):=hv
      cases hb:τ (.b i) with
      |none=>rw [hb] at hp;exact hp.elim
      |some av=>
       rw [hb] at hp hK
       simp only at hp hK
       split at hp
       ·rename_i l
        simp only [Q.run] at hp hK
        cases qp:Nat.ble (o+n) l.length with
        |false=>rw [qp] at hp;exact hp.elim
        |true=>
         rw [qp] at hp hK
         have hle:=zqNlb qp
         have hl:live τ i:=eD hb (by intro e;cases e)
         obtain⟨cs,te,mq,hrl⟩:=hh.boxes i _ hb (by intro e;cases e)
         have ajh:dN T β l cs.toList:=hrl
         have hlen:=jj ajh
         obtain⟨w',fk,hw⟩:=hst e mq (by simp at hlen;omega) (I6 _)
         refine fin (u:=[]) fk (hK _ _ _ rfl ⟨T,β,?_⟩)
         refine hh.DI hl mq hw (nE _ _ _) (show dN T β _ _ from RD l cs o c6 ajh) fun j hj=>?_
         rcases GG m l o hj with h3 |h3
         ·exact hh.named (.b i) _ hb j h3
         ·exact gY hh hy j (vI hm h3)
       ·exact hp.elim
     ·rename_i i sz k j
      simp only [sR,Q.run] at hp hK
      obtain⟨e,hj⟩:=hv
      cases hb:τ (.b i) with
      |none=>rw [hb] at hp;exact hp.elim
      |some av=>
       rw [hb] at hp hK
       simp only at hp hK
       split at hp
       ·rename_i ek l
        simp only at hK
        have hl:live τ i:=eD hb (by intro e;cases e)
        obtain⟨cs,te,mq,fA,z,I3,hz⟩:=hh.boxes i _ hb (by intro e;cases e)
        cases hq:Nat.beq ek.length sz with
        |false=>rw [hq] at hp;exact hp.elim
        |true=>
         rw [hq] at hp hK
         have akR:ek.length=sz:=by simpa using hq
         subst akR
         simp only [cond_true] at hp hK
         have done:∀(r:EK.Ty ek),k<l.length→((j=0∧(a.eval y).cells.toList=EK.cells ek r)∨(∃v,(a.eval y).cells.toList=[v]∧j<ek.length∧EK.cells ek r=(EK.cells ek (nth ek l k)).set j v))→
           (∀a' w',Rel N c (τ.ap [(.b i,.rs ek (l.set k r))]) a' w'→K a' w')→Oper.wp P ⟨none,.store t x y,ty,pos,af,g⟩ a w K Q':=by
          intro r hk ai8 hK
          have n0:=MU I3 hk
          have hn:j+n≤ek.length:=by
           have hcl:(a.eval y).cells.toList.length=n:=by simpa using dj
           rcases ai8 with ⟨rfl,h⟩ |⟨v,h,CW,_⟩
           ·rw [h,EK.bK] at hcl;omega
           ·rw [h] at hcl;simp at hcl;omega
          obtain⟨w',fk,hw⟩:=hst e mq (by omega) (I6 _)
          refine fin (u:=[]) fk (hK _ _ ⟨T,β,?_⟩)
          exact hh.DI hl mq hw (nE _ _ _) ⟨fA,z,LF I3 hk r (by rw [show (a.eval y).cells.toList.length=n by simpa using dj];omega) ai8,hz⟩ (by simp [AV.boxes])
         cases xC:Nat.beq n ek.length&&Nat.beq j 0 with
         |true=>
          rw [xC] at hp hK
          simp only [ZA9] at xC
          have hj0:j=0:=by simpa using xC.2
          simp only [cond_true] at hp hK
          split at hp
          ·rename_i r hr
           simp only [hr] at hK
           exact done r hp (.inl ⟨hj0,EK.wG ek hr c6⟩) fun a' w' h=>hK _ _ _ rfl h
          ·exact hp.elim
         |false=>
          rw [xC] at hp hK
          simp only [cond_false] at hp hK
          split at hp
          ·rename_i s
           split at hp
           ·rename_i r hr
            simp only [hr] at hK
            obtain⟨v0,hv0⟩:∃v0,(a.eval y).cells.toList=[v0]:=by
             cases hcl:(a.eval y).cells.toList with
             |nil=>rw [hcl] at hml;simp at hml
             |cons v0 rest=>
              cases rest with
              |nil=>exact⟨v0,rfl⟩
              |cons _ _=>rw [hcl] at hml;simp at hml
            rw [hv0] at c6
            exact done r hp (.inr ⟨v0,hv0,YT ek hr,EK.GJ ek hr c6.1⟩) fun a' w' h=>hK _ _ _ rfl h
           ·exact hp.elim
          ·exact hp.elim
       ·exact hp.elim
     ·rename_i ek j
      simp only at hK
      cases xC:Nat.beq n ek.length&&Nat.beq j 0 with
      |false=>rw [xC] at hp;exact hp.elim
      |true=>
       rw [xC] at hp hK
       simp only [ZA9] at xC
       have hj0:j=0:=by simpa using xC.2
       have hnk:n=ek.length:=by simpa using xC.1
       subst hj0
       simp only [cond_true] at hp hK
       split at hp
       ·rename_i r hr
        simp only [hr] at hK
        obtain⟨b,o,k,e,hT,ho,_⟩:=hv
        obtain⟨fA,cs,te,fr,l,mq,ke,l5⟩:=hh.typed b _ hT
        have I3:cs.toList=flat ek (l++[]):=by simpa using l5.2.2
        have hk:o<l.length:=by rw [l5.1];exact ho
        have n0:=MU I3 hk
        obtain⟨w',fk,hw⟩:=hst e mq (by omega) ke
        refine fin (u:=[]) fk (hK _ _ _ rfl ⟨T,β,?_⟩)
        have vE:=LF I3 hk r (j:=0) (vs:=(a.eval y).cells.toList) (by rw [show (a.eval y).cells.toList.length=n by simpa using dj];omega) (.inl ⟨rfl,EK.wG ek hr c6⟩)
        refine hh.uR hT hw (by rw [nE];exact ke) (l:=l.set o r) ⟨by simp [l5.1],fun q hq=>?_,by simpa using vE⟩
        rcases List.mem_or_eq_of_mem_set hq with h |h
        ·exact l5.2.1 q h
        ·rw [h];exact hp
       ·exact hp.elim
     ·exact hp.elim
def zeroOf (P:Program) (t:TypeId):Option (List Value):=
 match P.info? t with
 |some i=>match i.zero with
  |some z=>some z.cells.toList
  |none=>none
 |none=>none
theorem acz {zs:List Value}(h:zeroOf P t=some zs) (w:World):∃z,(zeroValue t).run P w= .ok z w∧z.cells.toList=zs:=by
 unfold zeroOf at h
 split at h
 ·rename_i i hi
  split at h
  ·rename_i z hz
   cases h
   exact⟨z,by simp [zeroValue,typeInfo,hi,hz],rfl⟩
  ·cases h
 ·cases h
def uF:List Value→List SV
 |[]=>[]
 |v::l=>.v v::uF l
theorem HZ {T:bb}{β:Nat→Nat}:∀l:List Value,dN T β (uF l) l
 |[]=>trivial
 |v::l=>⟨rfl,HZ l⟩
theorem yA:∀l:List Value,cc (uF l)=[]
 |[]=>rfl
 |v::l=>by simp [uF,cc,SV.boxes,yA l]
def YD (d:Nat) (l:List SV):Q Rs:=.ask (.b (1000+d)) fun
 |none=>.ret (.go [(.s d,.s (.bp (1000+d) 0)),(.b (1000+d),.a l)])
 |some _=>.ret .no
theorem ags {zs:List Value}(hz:zeroOf P t=some zs) (hd:d<N):fv P N ⟨some d,.alloc t,ty,pos,af,g⟩ (YD d (uF zs)):=by
 intro c τ a w hr hp K Q' hK
 obtain⟨T,β,hh⟩:=hr
 simp only [YD,Q.run] at hp hK
 cases hn:τ (.b (1000+d)) with
 |some v=>rw [hn] at hp;exact hp.elim
 |none=>
  rw [hn] at hp hK
  obtain⟨z,fk,hzs⟩:=acz (P:=P) hz w
  unfold Oper.wp
  have hex:(execOp a.eval ⟨some d,.alloc t,ty,pos,af,g⟩).run P w= .ok (.value (.pointer (some ⟨w.heap.size,0,none⟩))) { w with heap:=w.heap.push (.cells z.cells t (0,0)) }:=by
   simp [execOp,Instr.alloc,fk,newVar,newRow]
  rw [hex]
  have h1:=hh.tD (d:=1000+d) (by omega) hn (av:=.a (uF zs)) (cs:=z.cells) (e:=t) (w':= { w with heap:=w.heap.push (.cells z.cells t (0,0)) }) ⟨rfl,rfl,rfl,rfl⟩ (show dN _ _ _ _ by rw [hzs];exact HZ _) (by simp [AV.boxes,A0.boxes,yA])
  exact hK _ _ _ rfl ⟨_,_,h1.put hd (av:=.s (.bp (1000+d) 0)) (by show _=_;unfold oo;rw [if_pos rfl]) (by simp [AV.boxes,A0.boxes,SV.boxes,uj])⟩
def ah6 (d:Nat) (v:AV):Q Rs:=
 match D7 v with
 |none=>.ret .no
 |some l=>.ask (.b (1000+d)) fun
  |none=>.ret (bif me l then .go [(.s d,.s (.bp (1000+d) 0)),(.b (1000+d),.a l)] else .no)
  |some _=>.ret .no
theorem aj2 (hd:d<N):fv P N ⟨some d,.box t x,ty,pos,af,g⟩ (bY x fun v=>ah6 d v):=by
 intro c τ a w hr hp K Q' hK
 obtain⟨T,β,hh⟩:=hr
 rw [c8] at hp hK
 cases hx:ev τ x with
 |none=>rw [hx] at hp;exact hp.elim
 |some v=>
  rw [hx] at hp hK
  simp only [ah6] at hp hK
  cases hm:D7 v with
  |none=>rw [hm] at hp;exact hp.elim
  |some l=>
   rw [hm] at hp hK
   simp only [Q.run] at hp hK
   cases hn:τ (.b (1000+d)) with
   |some v=>rw [hn] at hp;exact hp.elim
   |none=>
    rw [hn] at hp hK
    simp only [Q.run] at hp hK
    cases ho:me l with
    |false=>rw [ho] at hp;exact hp.elim
    |true=>
     rw [ho] at hp hK
     obtain⟨c6,_⟩:=wW hm ho (eP hh hx)
     unfold Oper.wp
     have hex:(execOp a.eval ⟨some d,.box t x,ty,pos,af,g⟩).run P w= .ok (.value (.pointer (some ⟨w.heap.size,0,none⟩))) { w with heap:=w.heap.push (.cells (a.eval x).cells t (0,0)) }:=by
      simp [execOp,Instr.box,newVar,newRow]
     rw [hex]
     have h1:=hh.tD (d:=1000+d) (by omega) hn (av:=.a l) (cs:=(a.eval x).cells) (e:=t) (w':= { w with heap:=w.heap.push (.cells (a.eval x).cells t (0,0)) }) ⟨rfl,rfl,rfl,rfl⟩ (show dN _ _ _ _ from c6) (fun j hj=>gY hh hx j (vI hm hj))
     exact hK _ _ _ rfl ⟨_,_,h1.put hd (av:=.s (.bp (1000+d) 0)) (by show _=_;unfold oo;rw [if_pos rfl]) (by simp [AV.boxes,A0.boxes,SV.boxes,uj])⟩
end
end GL
end Go.Proofs.YtnkbdhldiinfdaaGreatDoor
