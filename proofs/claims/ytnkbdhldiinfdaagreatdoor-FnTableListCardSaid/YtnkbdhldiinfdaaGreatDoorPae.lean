/- Part 5 of the proof of a drawn law. -/
import Derived.Laws.Append
import Derived.Laws.BytesString
import Derived.Laws.MakeOwn
import Derived.Test.YtnkbdhldiinfdaaGreatDoorPad
set_option maxHeartbeats 20000000
set_option maxRecDepth 100000
set_option linter.all false
namespace Go.Proofs.YtnkbdhldiinfdaaGreatDoor
namespace GL
def spl (cs:Array Value) (k:Nat):List Value→Array Value
 |[]=>cs
 |v::vs=>spl (cs.setIfInBounds k v) (k+1) vs
def aaH (l:List SV) (k:Nat):List SV→List SV
 |[]=>l
 |x::m=>aaH (l.set k x) (k+1) m
theorem nE:∀(vs:List Value) (cs:Array Value) (k:Nat),(spl cs k vs).size=cs.size
 |[],_,_=>rfl
 |_::vs,cs,k=>by simp [spl,nE vs]
theorem DN:∀(m l:List SV) (k:Nat),(aaH l k m).length=l.length
 |[],_,_=>rfl
 |_::m,l,k=>by simp [aaH,DN m]
theorem mD:∀(vs:List Value) (cs:Array Value) (k:Nat),k+vs.length≤cs.size→(spl cs k vs).toList=cs.toList.take k++vs++cs.toList.drop (k+vs.length)
 |[],cs,k,_=>by simp [spl]
 |v::vs,cs,k,h=>by
  simp only [ZA1] at h
  rw [spl,mD vs _ (k+1) (by simp;omega),Array.toList_setIfInBounds]
  have hk:k<cs.toList.length:=by simp;omega
  rw [List.take_set,List.take_succ_eq_append_getElem hk,List.set_append_right _ _ (by simp;omega)]
  have h1:k-(cs.toList.take k).length=0:=by simp;omega
  rw [h1]
  have h2:(cs.toList.set k v).drop (k+1+vs.length)=cs.toList.drop (k+(v::vs).length):=by
   rw [List.drop_set_of_lt (by omega)]
   simp only [ZA1]
   congr 1;omega
  rw [h2]
  simp
section
variable {T:bb}{β:Nat→Nat}
theorem RE:∀{l:List SV}{cs:List Value}(k:Nat) {x:SV}{v:Value},dN T β l cs→x.rel T β v→dN T β (l.set k x) (cs.set k v)
 |[],[],_,_,_,_,_=>trivial
 |_::_,[],_,_,_,h,_=>h.elim
 |[],_::_,_,_,_,h,_=>h.elim
 |_::l,_::cs,0,x,v,h,hx=>⟨hx,h.2⟩
 |_::l,_::cs,k+1,x,v,h,hx=>⟨h.1,RE k h.2 hx⟩
theorem LL:∀{m:List SV}{vs:List Value}(l:List SV) (cs:Array Value) (k:Nat),dN T β m vs→dN T β l cs.toList→dN T β (aaH l k m) (spl cs k vs).toList
 |[],[],_,_,_,_,h=>h
 |_::_,[],_,_,_,h,_=>h.elim
 |[],_::_,_,_,_,h,_=>h.elim
 |x::m,v::vs,l,cs,k,hm,h=>by
  refine LL (l.set k x) (cs.setIfInBounds k v) (k+1) hm.2 ?_
  rw [Array.toList_setIfInBounds]
  exact RE k h hm.1
theorem GH {i:Nat}:∀(m l:List SV) (k:Nat),i∈cc (aaH l k m)→i∈cc l∨i∈cc m
 |[],_,_,h=>.inl h
 |x::m,l,k,h=>by
  rcases GH m (l.set k x) (k+1) h with h1 |h1
  ·rw [gJ] at h1
   obtain⟨y,hy,hi⟩:=h1
   rcases List.mem_or_eq_of_mem_set hy with h2 |h2
   ·exact .inl (gJ.2 ⟨y,h2,hi⟩)
   ·exact .inr (gJ.2 ⟨x,by simp,by rw [←h2];exact hi⟩)
  ·right
   rw [gJ] at h1 ⊢
   obtain⟨y,hy,hi⟩:=h1
   exact⟨y,by simp [hy],hi⟩
def xk:List SV→Nat→List SV→List SV
 |[],_,_=>[]
 |x::l,0,[]=>x::l
 |_::l,0,y::m=>y::xk l 0 m
 |x::l,k+1,m=>x::xk l k m
theorem QN:∀(l:List SV) (k:Nat),xk l k []=l
 |[],0=>rfl
 |[],_+1=>rfl
 |_::_,0=>rfl
 |x::l,k+1=>by show x::xk l k []=x::l;rw [QN l k]
theorem LB:∀(k:Nat) (m:List SV),xk [] k m=[]
 |0,[]=>rfl
 |0,_::_=>rfl
 |_+1,_=>rfl
theorem LC (y:SV) (m:List SV):∀(l:List SV) (k:Nat),xk l k (y::m)=xk (l.set k y) (k+1) m
 |[],k=>by rw [List.set_nil,LB,LB]
 |_::_,0=>rfl
 |x::l,k+1=>by show x::xk l k (y::m)=x::xk (l.set k y) (k+1) m;rw [LC y m l k]
theorem E5:∀(m l:List SV) (k:Nat),xk l k m=aaH l k m
 |[],l,k=>QN l k
 |y::m,l,k=>by rw [LC,E5 m];rfl
theorem RD {m:List SV}{vs:List Value}(l:List SV) (cs:Array Value) (k:Nat) (h1:dN T β m vs) (h2:dN T β l cs.toList):dN T β (xk l k m) (spl cs k vs).toList:=by rw [E5];exact LL l cs k h1 h2
theorem GG {i:Nat}(m l:List SV) (k:Nat) (h:i∈cc (xk l k m)):i∈cc l∨i∈cc m:=by rw [E5] at h;exact GH m l k h
end
theorem abW {w:World}{b:Nat}{cs:Array Value}{e:TypeId}{fr:Nat×Nat}(h:w.heap[b]?=some (.cells cs e fr)) (o:Nat):w.frozen? ⟨b,o,none⟩=(decide (fr.1≤o)&&decide (o<fr.2)):=by
 simp [World.frozen?,h]
theorem N2 {w:World}{b:Nat}{cs:Array Value}{e:TypeId}{fr:Nat×Nat}(h:w.heap[b]?=some (.cells cs e fr)) (o:Nat) (v:Value):P5 w b (.cells (cs.setIfInBounds o v) e fr) (w.setCell ⟨b,o,none⟩ v) where
 at_:=by simp [World.setCell,Array.getElem?_modify,h]
 other:=λk hk=>by simp only [World.setCell,Array.getElem?_modify];rw [if_neg (by omega)]
 size:=by simp [World.setCell]
 os:=rfl
 tape:=rfl
 output:=rfl
section
variable {P:Program}{N:Nat}{τ:St}
variable {d:Nat}{x y z:Operand}{t u ty:TypeId}{pos:String}{af:Array Edge}{g:Option (Nat×Bool)}
theorem pE {b off:Nat}{e:TypeId}{fr:Nat×Nat}:∀(vs:List Value) (i:Nat) (cs:Array Value) (w:World),w.heap[b]?=some (.cells cs e fr)→off+i+vs.length≤cs.size→free fr cs.size→(∀v∈vs,one v=true)→
  ∃w',(storeCells ⟨b,off,none⟩ vs i).run P w= .ok () w'∧P5 w b (.cells (spl cs (off+i) vs) e fr) w'
 |[],i,cs,w,h,_,_,_=>⟨w,by simp [storeCells],⟨h,λ_ _=>rfl,rfl,rfl,rfl,rfl⟩⟩
 |v::vs,i,cs,w,h,hle,ke,TK=>by
  simp only [ZA1] at hle
  have hc:w.cell? ⟨b,off+i,none⟩=some (cs[off+i]'(by omega)):=by rw [rr h];exact ZG0 (by omega)
  have hf:w.frozen? ⟨b,off+i,none⟩=false:=by rw [abW h];exact agb ke _ (by omega)
  have hs:(store ((⟨b,off,none⟩:Addr).add i) v).run P w= .ok () (w.setCell ⟨b,off+i,none⟩ v):=by
   rw [ga,run_store P w _ v .plain (TK v (by simp)),hc]
   simp [hf]
  have ho:=N2 h (off+i) v
  obtain⟨w',hr,hw⟩:=pE (off:=off) vs (i+1) (cs.setIfInBounds (off+i) v) _ ho.at_ (by simp;omega) (by simpa using ke) (λx hx=>TK x (by simp [hx]))
  refine⟨w',?_,?_⟩
  ·simp only [storeCells,Sem.run_bind,hs,Result.andThen_ok]
   exact hr
  ·exact⟨hw.at_,λk hk=>(hw.other k hk).trans (ho.other k hk),hw.size.trans ho.size,hw.os.trans ho.os,hw.tape.trans ho.tape,hw.output.trans ho.output⟩
theorem N3 {gg:Bool}{n:Nat}(h:Sh P t=some (gg,n)) {b off:Nat}{e:TypeId}{fr:Nat×Nat}{cs:Array Value}{w:World}{v:Value}(hb:w.heap[b]?=some (.cells cs e fr)) (hn:v.cells.size=n) (hle:off+n≤cs.size) (ke:free fr cs.size) (TK:∀x∈v.cells.toList,one x=true):
  ∃w',(storeVar t ⟨b,off,none⟩ v).run P w= .ok () w'∧P5 w b (.cells (spl cs off v.cells.toList) e fr) w':=by
 obtain⟨_,h2⟩:=jJ h w
 obtain⟨w',hr,hw⟩:=pE (P:=P) (off:=off) v.cells.toList 0 cs w hb (by simp [hn];exact hle) ke TK
 refine⟨w',?_,by simpa using hw⟩
 simp [storeVar,h2,hn,hr]
def SV.one:SV→Bool
 |.v x=>GL.one x
 |_=>true
def me:List SV→Bool
 |[]=>true
 |x::l=>x.one&&me l
theorem SV.OU {T:bb}{β:Nat→Nat}{x:SV}{v:Value}(h:x.one=true) (hr:x.rel T β v):GL.one v=true:=by
 cases x with
 |v x=>have:v=x:=hr;subst this;exact h
 |q b=>have:v=_:=hr;subst this;rfl
 |bp i o=>have:v=_:=hr;subst this;rfl
 |xp i sz k j=>obtain⟨rfl,_⟩:=hr;rfl
 |xs i sz o m=>rcases hr with ⟨_,p,rfl⟩ |⟨cap,n,rfl,_⟩<;>rfl
 |ep ek j=>obtain⟨b,o,n,rfl,_⟩:=hr;rfl
 |sl ek len=>rcases hr with ⟨_,p,rfl⟩ |⟨b,o,cap,n,rfl,_⟩<;>rfl
 |vw ek l=>rcases hr with ⟨_,p,cap,rfl⟩ |⟨b,o,cap,cs,e,fr,rfl,_⟩<;>rfl
 |vz ek l=>rcases hr with ⟨_,p,cap,rfl⟩ |⟨b,o,cap,cs,rfl,_⟩<;>rfl
 |vp ek x j=>obtain⟨b,o,cs,rfl,_⟩:=hr;rfl
 |vs l j=>obtain⟨b,cs,rfl,_⟩:=hr;rfl
 |er b=>
  cases b with
  |true=>have:v= .nilIface:=hr;subst this;rfl
  |false=>obtain⟨t,x,rfl⟩:=hr;rfl
 |e0=>obtain⟨p,rfl⟩:=hr;rfl
theorem RF {T:bb}{β:Nat→Nat}:∀{l:List SV}{cs:List Value},me l=true→dN T β l cs→∀v∈cs,GL.one v=true
 |[],[],_,_,v,hv=>by cases hv
 |_::_,[],_,h,_,_=>h.elim
 |[],_::_,_,h,_,_=>h.elim
 |x::l,v::cs,h1,h2,y,hy=>by
  simp only [me,ZA9] at h1
  rcases ZB8.1 hy with rfl |hy
  ·exact SV.OU h1.1 h2.1
  ·exact RF h1.2 h2.2 y hy
theorem AA {v:Value}(h:GL.one v=true):v.cells= #[v]:=by cases v<;>first|rfl|(simp [GL.one,Value.oneCell'] at h)
def D7:AV→Option (List SV)
 |.o (.a l)=>some l
 |.o (.s x)=>some [x]
 |_=>none
theorem wW {T:bb}{β:Nat→Nat}{x:AV}{l:List SV}(h:D7 x=some l) (TK:me l=true) {v:Value}(hr:x.rel T β v):dN T β l v.cells.toList∧∀y∈v.cells.toList,GL.one y=true:=by
 cases x with
 |t l=>cases h
 |rs ek l=>cases h
 |zz=>cases h
 |fn f l=>cases h
 |o x=>
  cases x with
  |s y=>
   cases h
   simp only [me,Bool.and_true] at TK
   have h1:=SV.OU TK hr
   rw [AA h1]
   exact⟨⟨hr,trivial⟩,by simpa using h1⟩
  |a l=>
   cases h
   obtain⟨cs,rfl,hl⟩:=hr
   exact⟨hl,RF TK hl⟩
theorem vI {x:AV}{l:List SV}(h:D7 x=some l) {i:Nat}(hi:i∈cc l):i∈x.boxes:=by
 cases x with
 |t l=>cases h
 |rs ek l=>cases h
 |zz=>cases h
 |fn f l=>cases h
 |o x=>
  cases x with
  |s y=>cases h;simpa [AV.boxes,A0.boxes,cc] using hi
  |a l=>cases h;exact hi
def CP.ofS:(c:CP)→SV→Option c.Ty
 |.i64,.v (.int .i64 n)=>some n
 |.row,.v (.int .i64 n)=>some n
 |.u8,.v (.int .u8 n)=>some n
 |.str _,.v (.string s)=>some s
 |.bool,.q b=>some b
 |.bool,.v (.bool b)=>some b
 |_,_=>none
def EK.ofS:(ek:List CP)→List SV→Option (EK.Ty ek)
 |[],[]=>some ()
 |[c],[x]=>c.ofS x
 |c::d::l,x::m=>match c.ofS x,EK.ofS (d::l) m with
  |some v,some r=>some (v,r)
  |_,_=>none
 |_,_=>none
theorem CP.FB {T:bb}{β:Nat→Nat}{c:CP}{x:SV}{r:c.Ty}(h:c.ofS x=some r) {v:Value}(hr:x.rel T β v):v=c.val r:=by
 unfold CP.ofS at h
 split at h<;>first|(cases h;exact hr)|cases h
theorem EK.wG {T:bb}{β:Nat→Nat}:∀(ek:List CP) {l:List SV}{r:EK.Ty ek},EK.ofS ek l=some r→∀{vs:List Value},dN T β l vs→vs=EK.cells ek r
 |[],[],_,_,[],_=>rfl
 |[],[],_,_,_::_,h=>h.elim
 |[],_::_,_,h,_,_=>by simp [EK.ofS] at h
 |[c],[],_,h,_,_=>by simp [EK.ofS] at h
 |[c],[x],r,h,[],h'=>h'.elim
 |[c],[x],r,h,[v],h'=>by
  have:=CP.FB (c:=c) h h'.1
  simp [EK.cells,this]
 |[c],[x],r,h,_::_::_,h'=>h'.2.elim
 |[c],_::_::_,r,h,_,_=>by simp [EK.ofS] at h
 |c::d::l,[],r,h,_,_=>by simp [EK.ofS] at h
 |c::d::l,x::m,r,h,[],h'=>h'.elim
 |c::d::l,x::m,r,h,v::vs,h'=>by
  simp only [EK.ofS] at h
  split at h
  ·rename_i r1 r2 h1 h2
   cases h
   rw [CP.FB h1 h'.1,EK.wG (d::l) h2 h'.2]
   rfl
  ·cases h
def EK.EP:(ek:List CP)→EK.Ty ek→Nat→SV→Option (EK.Ty ek)
 |[],_,_,_=>none
 |[c],_,0,v=>c.ofS v
 |[_],_,_+1,_=>none
 |c::_::_,x,0,v=>match c.ofS v with
  |some y=>some (y,x.2)
  |none=>none
 |_::d::l,x,j+1,v=>match EK.EP (d::l) x.2 j v with
  |some y=>some (x.1,y)
  |none=>none
theorem EK.GJ {T:bb}{β:Nat→Nat}:∀(ek:List CP) {x r:EK.Ty ek}{j:Nat}{s:SV},EK.EP ek x j s=some r→∀{v:Value},s.rel T β v→EK.cells ek r=(EK.cells ek x).set j v
 |[],_,_,_,_,h,_,_=>by simp [EK.EP] at h
 |[c],x,r,0,s,h,v,hr=>by
  simp only [EK.EP] at h
  simp [EK.cells,CP.FB h hr]
 |[c],x,r,j+1,s,h,v,hr=>by simp [EK.EP] at h
 |c::d::l,x,r,0,s,h,v,hr=>by
  simp only [EK.EP] at h
  split at h
  ·rename_i y hy
   cases h
   simp [EK.cells,CP.FB hy hr]
  ·cases h
 |c::d::l,x,r,j+1,s,h,v,hr=>by
  simp only [EK.EP] at h
  split at h
  ·rename_i y hy
   cases h
   have:=EK.GJ (d::l) hy hr
   simp [EK.cells,this]
  ·cases h
theorem TV (ek:EK):∀(l:List (EK.Ty ek)) (k:Nat) (r:EK.Ty ek),k<l.length→flat ek (l.set k r)=(flat ek l).take (k*ek.length)++EK.cells ek r++(flat ek l).drop (k*ek.length+ek.length)
 |[],_,_,h=>by simp at h
 |x::l,0,r,_=>by
  simp only [List.set_cons_zero,iS,ZH0,List.take_zero,ZD0,ZA6]
  congr 1
  rw [←EK.bK ek x];simp
 |x::l,k+1,r,h=>by
  simp only [List.set_cons_succ,iS]
  rw [TV ek l k r (by simpa using h)]
  have e1:(k+1)*ek.length=(EK.cells ek x).length+k*ek.length:=by rw [EK.bK,ZE3,Nat.one_mul,Nat.add_comm]
  have e2:(k+1)*ek.length+ek.length=(EK.cells ek x).length+(k*ek.length+ek.length):=by rw [e1,ZF7]
  rw [e2,e1,List.take_length_add_append,ZF5]
  simp [ZD2]
theorem U3 {l vs:List Value}{o j:Nat}(r:List Value) (v:Value) (hr:(l.drop o).take r.length=r) (hj:j<r.length) (ho:o+r.length≤l.length) (IY:vs=[v]):
  l.take (o+j)++vs++l.drop (o+j+vs.length)=l.take o++r.set j v++l.drop (o+r.length):=by
 subst IY
 have h1:l.take (o+j)=l.take o++r.take j:=by
  rw [List.take_add,←hr,List.take_take,Nat.min_eq_left (by omega)]
 have h2:l.drop (o+j+1)=r.drop (j+1)++l.drop (o+r.length):=by
  have:l.drop o=r++l.drop (o+r.length):=by
   rw [←ZG1 r.length (l.drop o),hr,ZF9]
  rw [ZF7,←ZF9,this,List.drop_append_of_le_length (by omega)]
 rw [List.length_singleton,h1,h2,List.set_eq_take_append_cons_drop,if_pos hj]
 simp
def UZ (n:Nat) (v u:AV):Q Rs:=
 match D7 u with
 |none=>.ret .no
 |some m=>bif Nat.beq m.length n&&me m then (match v with
  |.o (.s (.bp i o))=>sR i fun
   |.o (.a l)=>.ret (bif Nat.ble (o+n) l.length then .go [(.b i,.a (xk l o m))] else .no)
   |_=>.ret .no
  |.o (.s (.xp i sz k j))=>sR i fun
   |.rs ek l=>bif Nat.beq ek.length sz then (bif Nat.beq n sz&&Nat.beq j 0 then (match EK.ofS ek m with
    |some r=>.ret (.mZ (k<l.length) [(.b i,.rs ek (l.set k r))])
    |none=>.ret .no) else match m with
     |[s]=>(match EK.EP ek (nth ek l k) j s with
      |some r=>.ret (.mZ (k<l.length) [(.b i,.rs ek (l.set k r))])
      |none=>.ret .no)
     |_=>.ret .no) else .ret .no
   |_=>.ret .no
  |.o (.s (.ep ek j))=>bif Nat.beq n ek.length&&Nat.beq j 0 then (match EK.ofS ek m with
   |some r=>.ret (.mZ (EK.ok ek r) [])
   |none=>.ret .no) else .ret .no
  |_=>.ret .no) else .ret .no
theorem LF {ek:EK}{l z:List (EK.Ty ek)}{cs:Array Value}(mq:cs.toList=flat ek (l++z)) {k:Nat}(hk:k<l.length) (r:EK.Ty ek) {vs:List Value}{j:Nat}(hle:k*ek.length+j+vs.length≤cs.size)
  (h:(j=0∧vs=EK.cells ek r)∨(∃v,vs=[v]∧j<ek.length∧EK.cells ek r=(EK.cells ek (nth ek l k)).set j v)):(spl cs (k*ek.length+j) vs).toList=flat ek (l.set k r++z):=by
 have hkz:k<(l++z).length:=by simp;omega
 have ad5:(l.set k r++z)=(l++z).set k r:=by rw [List.set_append_left _ _ hk]
 rw [ad5,TV ek (l++z) k r hkz,mD _ _ _ hle,mq]
 rcases h with ⟨rfl,rfl⟩ |⟨v,rfl,hj,hr⟩
 ·rw [Nat.add_zero,EK.bK]
 ·have h1:((flat ek (l++z)).drop (k*ek.length)).take (EK.cells ek (nth ek l k)).length=EK.cells ek (nth ek l k):=by
   rw [EK.bK]
   exact Z3 ek (l++z) k _ (by rw [ZC2 hk];exact oD hk)
  have hlen:k*ek.length+(EK.cells ek (nth ek l k)).length≤(flat ek (l++z)).length:=by
   rw [EK.bK,cA]
   have:(k+1)*ek.length≤(l++z).length*ek.length:=ZG6 _ hkz
   rw [ZE3,Nat.one_mul] at this
   exact this
  rw [hr,U3 (EK.cells ek (nth ek l k)) v h1 (by rw [EK.bK];exact hj) hlen rfl,EK.bK]
theorem MU {ek:EK}{l z:List (EK.Ty ek)}{cs:Array Value}(mq:cs.toList=flat ek (l++z)) {k:Nat}(hk:k<l.length):k*ek.length+ek.length≤cs.size:=by
 have h1:cs.size=(l++z).length*ek.length:=by rw [←ZE4,mq,cA]
 have:(k+1)*ek.length≤(l++z).length*ek.length:=ZG6 _ (by simp;omega)
 rw [ZE3,Nat.one_mul] at this
 omega
theorem YT:∀(ek:List CP) {x r:EK.Ty ek}{j:Nat}{s:SV},EK.EP ek x j s=some r→j<ek.length
 |[],_,_,_,_,h=>by simp [EK.EP] at h
 |[c],x,r,0,s,h=>by simp
 |[c],x,r,j+1,s,h=>by simp [EK.EP] at h
 |c::d::l,x,r,0,s,h=>by simp
 |c::d::l,x,r,j+1,s,h=>by
  simp only [EK.EP] at h
  split at h
  ·rename_i y hy
   have:=YT (d::l) hy
   simp at this ⊢;omega
  ·cases h
theorem agm {gg:Bool}{n:Nat}(hS:Sh P t=some (gg,n)):fv P N ⟨none,.store t x y,ty,pos,af,g⟩ (bY x λv=>bY y λu=>UZ n v u):=by
 intro c τ a w hr hp K Q' hK
 obtain⟨T,β,hh⟩:=hr
 rw [c8] at hp hK
 cases hx:ev τ x with
 |none=>rw [hx] at hp;exact hp.elim
 |some v=>
  rw [hx] at hp hK
  simp only [c8] at hp hK
  cases hy:ev τ y with
  |none=>rw [hy] at hp;exact hp.elim
  |some u=>
   rw [hy] at hp hK
   simp only at hp hK
   unfold UZ at hp hK
   cases hm:D7 u with
   |none=>rw [hm] at hp;exact hp.elim
   |some m=>
    rw [hm] at hp hK
    simp only at hp hK
    cases hc:Nat.beq m.length n&&me m with
    |false=>rw [hc] at hp;exact hp.elim
    |true=>
     rw [hc] at hp hK
     simp only [cond_true] at hp hK
     simp only [ZA9] at hc
     have hmn:m.length=n:=by simpa using hc.1
     have hv:=eP hh hx
     obtain⟨c6,ajl⟩:=wW hm hc.2 (eP hh hy)
     have hml:=jj c6
     have dj:(a.eval y).cells.size=n:=by rw [←hmn,hml];simp
     have hst:∀{b o:Nat} {cs:Array Value} {e:TypeId} {fr:Nat×Nat},a.eval x= .pointer (some ⟨b,o,none⟩)→w.heap[b]?=some (.cells cs e fr)→o+n≤cs.size→free fr cs.size→
       ∃w',(execOp a.eval ⟨none,.store t x y,ty,pos,af,g⟩).run P w= .ok .skip w'∧P5 w b (.cells (spl cs o (a.eval y).cells.toList) e fr) w':=by
      intro b o cs e fr e1 hb hle ke
      obtain⟨w',fk,hw⟩:=N3 (P:=P) hS (off:=o) (v:=a.eval y) hb dj hle ke ajl
      exact⟨w',by simp [execOp,e1,Instr.storeAt,Instr.sureAddr,fk],hw⟩
     have fin:∀{w':World} {u:AO},(execOp a.eval ⟨none,.store t x y,ty,pos,af,g⟩).run P w= .ok .skip w'→K a w'→Oper.wp P ⟨none,.store t x y,ty,pos,af,g⟩ a w K Q':=by
      intro w' u fk hk
      unfold Oper.wp
      rw [fk]
      exact hk
     split at hp
     ·rename_i i o
      simp only [sR,Q.run] at hp hK
      have e:a.eval x= .pointer (some ⟨β i,o,none⟩):=hv
      cases hb:τ (.b i) with
      |none=>rw [hb] at hp;exact hp.elim
      |some av=>
       rw [hb] at hp hK
       simp only at hp hK
       split at hp
       ·rename_i l
        simp only [Q.run] at hp hK
        cases qp:Nat.ble (o+n) l.length with
        |false=>rw [qp] at hp;exact hp.elim
        |true=>
         rw [qp] at hp hK
         have hle:=zqNlb qp
         have hl:live τ i:=eD hb (by intro e;cases e)
         obtain⟨cs,te,mq,hrl⟩:=hh.boxes i _ hb (by intro e;cases e)
         have ajh:dN T β l cs.toList:=hrl
         have hlen:=jj ajh
         obtain⟨w',fk,hw⟩:=hst e mq (by simp at hlen;omega) (I6 _)
         refine fin (u:=[]) fk (hK _ _ _ rfl ⟨T,β,?_⟩)
         refine hh.DI hl mq hw (nE _ _ _) (show dN T β _ _ from RD l cs o c6 ajh) λj hj=>?_
         rcases GG m l o hj with h3 |h3
         ·exact hh.named (.b i) _ hb j h3
         ·exact gY hh hy j (vI hm h3)
       ·exact hp.elim
     ·rename_i i sz k j
      simp only [sR,Q.run] at hp hK
      obtain⟨e,hj⟩:=hv
      cases hb:τ (.b i) with
      |none=>rw [hb] at hp;exact hp.elim
      |some av=>
       rw [hb] at hp hK
       simp only at hp hK
       split at hp
       ·rename_i ek l
        simp only at hK
        have hl:live τ i:=eD hb (by intro e;cases e)
        obtain⟨cs,te,mq,fA,z,I3,hz⟩:=hh.boxes i _ hb (by intro e;cases e)
        cases hq:Nat.beq ek.length sz with
        |false=>rw [hq] at hp;exact hp.elim
        |true=>
         rw [hq] at hp hK
         have akR:ek.length=sz:=by simpa using hq
         subst akR
         simp only [cond_true] at hp hK
         have done:∀(r:EK.Ty ek),k<l.length→((j=0∧(a.eval y).cells.toList=EK.cells ek r)∨(∃v,(a.eval y).cells.toList=[v]∧j<ek.length∧EK.cells ek r=(EK.cells ek (nth ek l k)).set j v))→
           (∀a' w',Rel N c (τ.ap [(.b i,.rs ek (l.set k r))]) a' w'→K a' w')→Oper.wp P ⟨none,.store t x y,ty,pos,af,g⟩ a w K Q':=by
          intro r hk ai8 hK
          have n0:=MU I3 hk
          have hn:j+n≤ek.length:=by
           have hcl:(a.eval y).cells.toList.length=n:=by simpa using dj
           rcases ai8 with ⟨rfl,h⟩ |⟨v,h,CW,_⟩
           ·rw [h,EK.bK] at hcl;omega
           ·rw [h] at hcl;simp at hcl;omega
          obtain⟨w',fk,hw⟩:=hst e mq (by omega) (I6 _)
          refine fin (u:=[]) fk (hK _ _ ⟨T,β,?_⟩)
          exact hh.DI hl mq hw (nE _ _ _) ⟨fA,z,LF I3 hk r (by rw [show (a.eval y).cells.toList.length=n by simpa using dj];omega) ai8,hz⟩ (by simp [AV.boxes])
         cases xC:Nat.beq n ek.length&&Nat.beq j 0 with
         |true=>
          rw [xC] at hp hK
          simp only [ZA9] at xC
          have hj0:j=0:=by simpa using xC.2
          simp only [cond_true] at hp hK
          split at hp
          ·rename_i r hr
           simp only [hr] at hK
           exact done r hp (.inl ⟨hj0,EK.wG ek hr c6⟩) λa' w' h=>hK _ _ _ rfl h
          ·exact hp.elim
         |false=>
          rw [xC] at hp hK
          simp only [cond_false] at hp hK
          split at hp
          ·rename_i s
           split at hp
           ·rename_i r hr
            simp only [hr] at hK
            obtain⟨v0,hv0⟩:∃v0,(a.eval y).cells.toList=[v0]:=by
             cases hcl:(a.eval y).cells.toList with
             |nil=>rw [hcl] at hml;simp at hml
             |cons v0 rest=>
              cases rest with
              |nil=>exact⟨v0,rfl⟩
              |cons _ _=>rw [hcl] at hml;simp at hml
            rw [hv0] at c6
            exact done r hp (.inr ⟨v0,hv0,YT ek hr,EK.GJ ek hr c6.1⟩) λa' w' h=>hK _ _ _ rfl h
           ·exact hp.elim
          ·exact hp.elim
       ·exact hp.elim
     ·rename_i ek j
      simp only at hK
      cases xC:Nat.beq n ek.length&&Nat.beq j 0 with
      |false=>rw [xC] at hp;exact hp.elim
      |true=>
       rw [xC] at hp hK
       simp only [ZA9] at xC
       have hj0:j=0:=by simpa using xC.2
       have hnk:n=ek.length:=by simpa using xC.1
       subst hj0
       simp only [cond_true] at hp hK
       split at hp
       ·rename_i r hr
        simp only [hr] at hK
        obtain⟨b,o,k,e,hT,ho,_⟩:=hv
        obtain⟨fA,cs,te,fr,l,mq,ke,l5⟩:=hh.typed b _ hT
        have I3:cs.toList=flat ek (l++[]):=by simpa using l5.2.2
        have hk:o<l.length:=by rw [l5.1];exact ho
        have n0:=MU I3 hk
        obtain⟨w',fk,hw⟩:=hst e mq (by omega) ke
        refine fin (u:=[]) fk (hK _ _ _ rfl ⟨T,β,?_⟩)
        have vE:=LF I3 hk r (j:=0) (vs:=(a.eval y).cells.toList) (by rw [show (a.eval y).cells.toList.length=n by simpa using dj];omega) (.inl ⟨rfl,EK.wG ek hr c6⟩)
        refine hh.uR hT hw (by rw [nE];exact ke) (l:=l.set o r) ⟨by simp [l5.1],λq hq=>?_,by simpa using vE⟩
        rcases List.mem_or_eq_of_mem_set hq with h |h
        ·exact l5.2.1 q h
        ·rw [h];exact hp
       ·exact hp.elim
     ·exact hp.elim
def zeroOf (P:Program) (t:TypeId):Option (List Value):=
 match P.info? t with
 |some i=>match i.zero with
  |some z=>some z.cells.toList
  |none=>none
 |none=>none
theorem acz {zs:List Value}(h:zeroOf P t=some zs) (w:World):∃z,(zeroValue t).run P w= .ok z w∧z.cells.toList=zs:=by
 unfold zeroOf at h
 split at h
 ·rename_i i hi
  split at h
  ·rename_i z hz
   cases h
   exact⟨z,by simp [zeroValue,typeInfo,hi,hz],rfl⟩
  ·cases h
 ·cases h
def uF:List Value→List SV
 |[]=>[]
 |v::l=>.v v::uF l
theorem HZ {T:bb}{β:Nat→Nat}:∀l:List Value,dN T β (uF l) l
 |[]=>trivial
 |v::l=>⟨rfl,HZ l⟩
theorem yA:∀l:List Value,cc (uF l)=[]
 |[]=>rfl
 |v::l=>by simp [uF,cc,SV.boxes,yA l]
def YD (d:Nat) (l:List SV):Q Rs:=.ask (.b (1000+d)) fun
 |none=>.ret (.go [(.s d,.s (.bp (1000+d) 0)),(.b (1000+d),.a l)])
 |some _=>.ret .no
theorem ags {zs:List Value}(hz:zeroOf P t=some zs) (hd:d<N):fv P N ⟨some d,.alloc t,ty,pos,af,g⟩ (YD d (uF zs)):=by
 intro c τ a w hr hp K Q' hK
 obtain⟨T,β,hh⟩:=hr
 simp only [YD,Q.run] at hp hK
 cases hn:τ (.b (1000+d)) with
 |some v=>rw [hn] at hp;exact hp.elim
 |none=>
  rw [hn] at hp hK
  obtain⟨z,fk,hzs⟩:=acz (P:=P) hz w
  unfold Oper.wp
  have hex:(execOp a.eval ⟨some d,.alloc t,ty,pos,af,g⟩).run P w= .ok (.value (.pointer (some ⟨w.heap.size,0,none⟩))) { w with heap:=w.heap.push (.cells z.cells t (0,0)) }:=by
   simp [execOp,Instr.alloc,fk,newVar,newRow]
  rw [hex]
  have h1:=hh.tD (d:=1000+d) (by omega) hn (av:=.a (uF zs)) (cs:=z.cells) (e:=t) (w':= { w with heap:=w.heap.push (.cells z.cells t (0,0)) }) ⟨rfl,rfl,rfl,rfl⟩ (show dN _ _ _ _ by rw [hzs];exact HZ _) (by simp [AV.boxes,A0.boxes,yA])
  exact hK _ _ _ rfl ⟨_,_,h1.put hd (av:=.s (.bp (1000+d) 0)) (by show _=_;unfold oo;rw [if_pos rfl]) (by simp [AV.boxes,A0.boxes,SV.boxes,uj])⟩
def ah6 (d:Nat) (v:AV):Q Rs:=
 match D7 v with
 |none=>.ret .no
 |some l=>.ask (.b (1000+d)) fun
  |none=>.ret (bif me l then .go [(.s d,.s (.bp (1000+d) 0)),(.b (1000+d),.a l)] else .no)
  |some _=>.ret .no
theorem aj2 (hd:d<N):fv P N ⟨some d,.box t x,ty,pos,af,g⟩ (bY x λv=>ah6 d v):=by
 intro c τ a w hr hp K Q' hK
 obtain⟨T,β,hh⟩:=hr
 rw [c8] at hp hK
 cases hx:ev τ x with
 |none=>rw [hx] at hp;exact hp.elim
 |some v=>
  rw [hx] at hp hK
  simp only [ah6] at hp hK
  cases hm:D7 v with
  |none=>rw [hm] at hp;exact hp.elim
  |some l=>
   rw [hm] at hp hK
   simp only [Q.run] at hp hK
   cases hn:τ (.b (1000+d)) with
   |some v=>rw [hn] at hp;exact hp.elim
   |none=>
    rw [hn] at hp hK
    simp only [Q.run] at hp hK
    cases ho:me l with
    |false=>rw [ho] at hp;exact hp.elim
    |true=>
     rw [ho] at hp hK
     obtain⟨c6,_⟩:=wW hm ho (eP hh hx)
     unfold Oper.wp
     have hex:(execOp a.eval ⟨some d,.box t x,ty,pos,af,g⟩).run P w= .ok (.value (.pointer (some ⟨w.heap.size,0,none⟩))) { w with heap:=w.heap.push (.cells (a.eval x).cells t (0,0)) }:=by
      simp [execOp,Instr.box,newVar,newRow]
     rw [hex]
     have h1:=hh.tD (d:=1000+d) (by omega) hn (av:=.a l) (cs:=(a.eval x).cells) (e:=t) (w':= { w with heap:=w.heap.push (.cells (a.eval x).cells t (0,0)) }) ⟨rfl,rfl,rfl,rfl⟩ (show dN _ _ _ _ from c6) (λj hj=>gY hh hx j (vI hm hj))
     exact hK _ _ _ rfl ⟨_,_,h1.put hd (av:=.s (.bp (1000+d) 0)) (by show _=_;unfold oo;rw [if_pos rfl]) (by simp [AV.boxes,A0.boxes,SV.boxes,uj])⟩
end
end GL
namespace GL
section
variable {P:Program}{N:Nat}{τ:St}
variable {d:Nat}{x y z:Operand}{t u ty:TypeId}{pos:String}{af:Array Edge}{g:Option (Nat×Bool)}
def P2 (l:List (Nat×Operand)) (k:List (Nat×AV)→Q Rs):Q Rs:=
 match l with
 |[]=>k []
 |p::l=>bY p.2 λv=>P2 l λvs=>k ((p.1,v)::vs)
def evL (τ:St):List (Nat×Operand)→Option (List (Nat×AV))
 |[]=>some []
 |p::l=>match ev τ p.2 with
  |some v=>match evL τ l with
   |some vs=>some ((p.1,v)::vs)
   |none=>none
  |none=>none
theorem AI (τ:St):∀(l:List (Nat×Operand)) (k:List (Nat×AV)→Q Rs),(P2 l k).run τ=match evL τ l with
  |some v=>(k v).run τ
  |none=>.no
 |[],k=>rfl
 |p::l,k=>by
  simp only [P2,c8,evL]
  cases ev τ p.2 with
  |none=>rfl
  |some v=>
   simp only [AI τ l]
   cases evL τ l<;>rfl
theorem abY (vs:List Value):∀(off k:Nat) (cs:Array Value),(vs.zipIdx k).foldl (λcs (p:Value×Nat)=>cs.setIfInBounds (off+p.2) p.1) cs=spl cs (off+k) vs:=by
 induction vs with
 |nil=>intro off k cs;rfl
 |cons v vs ih=>
  intro off k cs
  simp only [List.zipIdx_cons,List.foldl_cons,spl]
  rw [ih off (k+1)]
  rfl
theorem C4 {place:Nat→Option (Nat×Nat)}{i off size:Nat}{v:Value}{rest:List (Nat×Value)}{cs:Array Value}(hp:place i=some (off,size)) (hs:v.cells.size=size) (hle:off+size≤cs.size):
  Instr.fill place cs ((i,v)::rest)=Instr.fill place (spl cs off v.cells.toList) rest:=by
 have aju:v.cells.zipIdx.foldl (λcs (p:Value×Nat)=>cs.setIfInBounds (off+p.2) p.1) cs=spl cs off v.cells.toList:=by
  rw [←Array.foldl_toList,Array.toList_zipIdx]
  exact abY _ _ 0 _
 have uy:¬(v.cells.size≠size∨off+v.cells.size>cs.size):=by omega
 simp only [Instr.fill,hp]
 rw [if_neg (by simpa using uy),aju]
def afk (P:Program) (t:TypeId):Option (List (Nat×Nat)×List Value):=
 match P.info? t,P.underlying t with
 |some it,some (.struct fs)=>match it.zero,fs.toList.mapM (λf=>(P.info? f.type).map λi=>(f.offset,i.size)) with
  |some z,some places=>some (places,z.cells.toList)
  |_,_=>none
 |_,_=>none
def Z4 (places:List (Nat×Nat)) (l:List SV):List (Nat×AV)→Option (List SV)
 |[]=>some l
 |p::rest=>match places[p.1]?,D7 p.2 with
  |some (off,size),some m=>bif (Nat.beq m.length size&&Nat.ble (off+size) l.length)&&me m then Z4 places (xk l off m) rest else none
  |_,_=>none
theorem MX {c:Ctx}{T:bb}{β:Nat→Nat}{a:Act}{w:World}(hh:Holds N c T β τ a w) {places:List (Nat×Nat)}:∀(parts:List (Nat×Operand)) (vs:List (Nat×AV)) (l l':List SV) (cs:Array Value),evL τ parts=some vs→Z4 places l vs=some l'→dN T β l cs.toList→(∀i∈cc l,τ (.b i)≠none)→
  ∃mg,Instr.fill (places.toArray[·]?) cs (parts.map λp=>(p.1,a.eval p.2))=some mg∧dN T β l' mg.toList∧∀i∈cc l',τ (.b i)≠none
 |[],vs,l,l',cs,h1,h2,h3,h4=>by
  cases h1;cases h2
  exact⟨cs,rfl,h3,h4⟩
 |p::parts,vs,l,l',cs,h1,h2,h3,h4=>by
  simp only [evL] at h1
  split at h1
  ·rename_i v hv
   split at h1
   ·rename_i vs' IY
    cases h1
    simp only [Z4] at h2
    split at h2
    ·rename_i off size m rT hm
     cases hc:(Nat.beq m.length size&&Nat.ble (off+size) l.length)&&me m with
     |false=>rw [hc] at h2;cases h2
     |true=>
      rw [hc] at h2
      simp only [ZA9] at hc
      have hms:m.length=size:=by simpa using hc.1.1
      have hle:=zqNlb hc.1.2
      obtain⟨c6,_⟩:=wW hm hc.2 (eP hh hv)
      have hml:=jj c6
      have hll:=jj h3
      have dj:(a.eval p.2).cells.size=size:=by rw [←hms,hml];simp
      obtain⟨mg,g1,g2,g3⟩:=MX hh parts vs' (xk l off m) l' (spl cs off (a.eval p.2).cells.toList) IY h2 (RD l cs off c6 h3) (λi hi=>by
       rcases GG m l off hi with h |h
       ·exact h4 i h
       ·exact gY hh hv i (vI hm h))
      refine⟨mg,?_,g2,g3⟩
      have akW:places.toArray[p.1]?=some (off,size):=by simpa using rT
      rw [ZE7,C4 (place:=(places.toArray[·]?)) akW dj (by simp at hll;omega)]
      exact g1
    ·cases h2
   ·cases h1
  ·cases h1
def X7 (places:List (Nat×Nat)) (zs:List Value) (vs:List (Nat×AV)):V1:=
 match Z4 places (uF zs) vs with
 |some l=>.go (.a l)
 |none=>.no
theorem agr {places:List (Nat×Nat)}{zs:List Value}{parts:Array (Nat×Operand)}(hb:afk P t=some (places,zs)) (hd:d<N):fv P N ⟨some d,.build t parts,ty,pos,af,g⟩ (P2 parts.toList λvs=>.ret ((X7 places zs vs).rs d)):=by
 intro c τ a w hr hp K Q' hK
 obtain⟨T,β,hh⟩:=hr
 rw [AI] at hp hK
 cases hx:evL τ parts.toList with
 |none=>rw [hx] at hp;exact hp.elim
 |some vs=>
  rw [hx] at hp hK
  refine V1.put hh hd hp rfl (λr hr=>?_) hK
  unfold X7 at hr
  split at hr
  ·rename_i l hl
   cases hr
   unfold afk at hb
   split at hb
   ·rename_i it fs hi hu
    split at hb
    ·rename_i z pl hz rT
     cases hb
     obtain⟨mg,h1,h2,h3⟩:=MX hh parts.toList vs _ l z.cells hx hl (by rw [show z.cells.toList=z.cells.toList from rfl];exact HZ _) (by rw [yA];simp)
     refine⟨h3,.agg mg,?_,mg,ζ,h2⟩
     have ahW:P.built t (parts.map λp=>(p.1,a.eval p.2)).toList=some mg:=by
      unfold Program.built
      rw [hi,hu]
      simp only [hz,rT]
      simpa using h1
     have:=run_build (P:=P) w t _ mg ahW
     simp [execOp,this]
    ·cases hb
   ·cases hb
  ·exact hr.elim
def vO (P:Program) (t:TypeId):Option (Nat×Nat×List Value):=
 match P.underlying t with
 |some (.slice e)=>match P.info? e with
  |some i=>match i.zero with
   |some z=>some (i.size,i.bytes,z.cells.toList)
   |none=>none
  |none=>none
 |_=>none
theorem jY {sz jK:Nat}{zs:List Value}(h:vO P t=some (sz,jK,zs)):∃e i z,P.underlying t=some (.slice e)∧P.info? e=some i∧i.zero=some z∧i.size=sz∧i.bytes=jK∧z.cells.toList=zs:=by
 unfold vO at h
 split at h
 ·rename_i e he
  split at h
  ·rename_i i hi
   split at h
   ·rename_i z hz
    cases h
    exact⟨e,i,z,he,hi,hz,rfl,rfl,rfl⟩
   ·cases h
  ·cases h
 ·cases h
structure Fits (P:Program) (t:TypeId) (ek:EK) (jK:Nat):Prop where
 info:vO P t=some (ek.length,jK,EK.cells ek (EK.zero ek))
 ne:ek≠[]
 small:jK≤1048576
theorem CP.sT (c:CP):c.ok c.zero:=by
 cases c<;>simp [CP.ok,CP.zero]
theorem EK.sT:∀ek:List CP,EK.ok ek (EK.zero ek)
 |[]=>trivial
 |[c]=>c.sT
 |c::d::l=>⟨c.sT,EK.sT (d::l)⟩
theorem Fits.sh {ek:EK}{jK:Nat}(h:Fits P t ek jK):rL P t=some ek.length:=by
 obtain⟨e,i,z,h1,h2,h3,h4,_⟩:=jY h.info
 simp [rL,h1,h2,h4]
theorem L1 {ek:EK}(fA:ek≠[]) {z:Array Value}(hz:z.toList=EK.cells ek (EK.zero ek)):∀n:Nat,((Array.range (n*ek.length)).map (λi=>z[i % z.size]!)).toList=flat ek (List.replicate n (EK.zero ek)):=by
 intro n
 have oU:0<ek.length:=List.length_pos_iff.2 fA
 have hzs:z.size=ek.length:=by rw [←ZE4,hz,EK.bK]
 apply List.ext_getElem?
 intro i
 by_cases hi:i<n*ek.length
 ·have hk:i / ek.length<n:=Nat.div_lt_of_lt_mul (by rwa [Nat.mul_comm])
  have hj:i % ek.length<ek.length:=Nat.mod_lt _ oU
  have h1:=TY ek (List.replicate n (EK.zero ek)) (i / ek.length) (i % ek.length) (EK.zero ek) (by simp [hk]) hj
  have CX:i / ek.length*ek.length+i % ek.length=i:=by rw [Nat.mul_comm];exact Nat.div_add_mod i ek.length
  rw [CX] at h1
  rw [h1,←hz]
  have h2:z.toList[i % ek.length]?=some z[i % ek.length]!:=by
   simp [Array.getElem!_eq_getD,ZE8,hzs,hj]
  rw [h2]
  simp [hi,hzs]
 ·rw [ZD8 (by simp;omega),ZD8 (by rw [cA];simp;omega)]
def abD (ex:Bool) (d:Nat) (ek:EK) (l:List (EK.Ty ek)) (p:Prop) (pt:Prop):Q Rs:=
 match ex with
 |true=>.ask (.b (1000+d)) fun
  |none=>.ret (.mZ p [(.s d,.s (.xs (1000+d) ek.length 0 l.length)),(.b (1000+d),.rs ek l)])
  |some _=>.ret .no
 |false=>.ret (.mZ (p∧pt) [(.s d,.s (.sl ek l.length))])
theorem HV {c:Ctx}{T:bb}{β:Nat→Nat}{a:Act}{w w':World}(hh:Holds N c T β τ a w) (hd:d<N) {ex:Bool}{ek:EK}(fA:ek≠[]) {l z:List (EK.Ty ek)}{p pt:Prop}(hp:((abD ex d ek l p pt).run τ).pre) (hpt:pt→∀x∈l,EK.ok ek x) (hz:∀x∈z,EK.ok ek x)
  {cs:Array Value} {e:TypeId} (mq:cs.toList=flat ek (l++z)) (hpu:oK w (.cells cs e (0,0)) w') {o:Oper} (ho:o.dst=some d) {cap:Nat} (EY:cap=l.length+z.length) (hex:p→(execOp a.eval o).run P w= .ok (.value (.slice (some ⟨w.heap.size,0,none⟩) l.length cap)) w')
  {K:Act→World→Prop} {Q':Exit→Act→World→Prop} (hK:∀u a' w',((abD ex d ek l p pt).run τ).out u→Rel N c (τ.ap u) a' w'→K a' w'):o.wp P a w K Q':=by
 have dj:cs.size=cap*ek.length:=by rw [←ZE4,mq,cA,EY,ZA0]
 cases ex with
 |true=>
  simp only [abD,Q.run] at hp hK
  cases hn:τ (.b (1000+d)) with
  |some v=>rw [hn] at hp;exact hp.elim
  |none=>
   rw [hn] at hp hK
   have hp':p:=hp
   unfold Oper.wp
   rw [hex hp']
   show K (a.put o.dst _) w'
   rw [ho]
   have h1:=hh.tD (d:=1000+d) (by omega) hn (av:=.rs ek l) (cs:=cs) (e:=e) hpu ⟨fA,z,mq,hz⟩ (by simp [AV.boxes])
   refine hK _ _ _ rfl ⟨_,_,h1.put hd (av:=.s (.xs (1000+d) ek.length 0 l.length)) (.inr ⟨cap,cs.size,?_,by omega,?_,by rw [ZA6,dj];exact ZB5 _⟩) (by simp [AV.boxes,A0.boxes,SV.boxes,uj])⟩
   ·show _=Value.slice (some ⟨oo β (1000+d) w.heap.size (1000+d),0*ek.length,none⟩) _ _
    unfold oo;rw [if_pos rfl,ZH0]
   ·unfold oo xi;rw [if_pos rfl,if_pos rfl]
 |false=>
  simp only [abD,Q.run] at hp hK
  obtain⟨hp1,hp2⟩:p∧pt:=hp
  unfold Oper.wp
  rw [hex hp1]
  show K (a.put o.dst _) w'
  rw [ho]
  have uH:∀x∈l++z,EK.ok ek x:=λx hx=>by
   rcases ZB4.1 hx with h |h
   ·exact hpt hp2 x h
   ·exact hz x h
  have h1:=hh.CF (k:=.ty ek cap) hpu ⟨fA,cs,e,(0,0),l++z,hpu.new,I6 _,by simp [EY],uH,mq⟩
  refine hK _ _ _ rfl ⟨_,_,h1.put hd (av:=.s (.sl ek l.length)) (.inr ⟨w.heap.size,0,cap,cap,by rw [ZH0],by omega,by unfold xi;rw [if_pos rfl],by omega⟩) (by simp [AV.boxes,A0.boxes,SV.boxes])⟩
def adC (ex:Bool) (d:Nat) (ek:EK) (v u:AV):Q Rs:=
 match v,u with
 |.o (.s (.v (.int .i64 m))),.o (.s (.v (.int .i64 n)))=>abD ex d ek (List.replicate n.toNat (EK.zero ek)) (m=n∧0≤n∧n≤1048576) True
 |_,_=>.ret .no
theorem aid {ex:Bool}{ek:EK}{jK:Nat}(hf:Fits P t ek jK) (hd:d<N):fv P N ⟨some d,.makeSlice t x y,ty,pos,af,g⟩ (bY x λv=>bY y λu=>adC ex d ek v u):=by
 intro c τ a w hr hp K Q' hK
 obtain⟨T,β,hh⟩:=hr
 rw [c8] at hp hK
 cases hx:ev τ x with
 |none=>rw [hx] at hp;exact hp.elim
 |some v=>
  rw [hx] at hp hK
  simp only [c8] at hp hK
  cases hy:ev τ y with
  |none=>rw [hy] at hp;exact hp.elim
  |some u=>
   rw [hy] at hp hK
   simp only at hp hK
   unfold adC at hp hK
   split at hp
   ·rename_i m n
    simp only at hK
    obtain⟨e,i,z,ht,hi,hz,dj,hby,hzs⟩:=jY hf.info
    have e1:a.eval x= .int .i64 m:=eP hh hx
    have e2:a.eval y= .int .i64 n:=eP hh hy
    let cs:Array Value:=(Array.range (n.toNat*ek.length)).map (λk=>z.cells[k % z.cells.size]!)
    have mq:cs.toList=flat ek (List.replicate n.toNat (EK.zero ek)++[]):=by
     rw [ZE5];exact L1 hf.ne hzs n.toNat
    refine HV hh hd hf.ne (z:=[]) hp (λ_ x hx=>by rw [List.eq_of_mem_replicate hx];exact EK.sT ek) (by simp) mq (e:=e) (w':= { w with heap:=w.heap.push (.cells cs e (0,0)) }) ⟨rfl,rfl,rfl,rfl⟩ rfl (cap:=n.toNat) (by simp) ?_ hK
    rintro⟨rfl,h0,h1⟩
    have hb:(i.bytes:Int)*m≤281474976710656:=by
     have hs:=hf.small
     rw [hby]
     have h2:(jK:Int)*m≤1048576*1048576:=Int.mul_le_mul (by omega) h1 h0 (by omega)
     omega
    have za:¬(m<0):=by omega
    have hw:=oQ (n:=m) (by simp only [gK];omega) (by simp only [imax];omega)
    have hb':¬(281474976710656<(i.bytes:Int)*m):=by omega
    rw [ZG2]
    by_cases hz0:m.toNat*i.size=0
    ·have TQ:cs=(Array.range (m.toNat*i.size)).map (λk=>(#[]:Array Value)[k % (#[]:Array Value).size]!):=by
      have:m.toNat*ek.length=0:=by rw [←dj];exact hz0
      simp [cs,this,hz0]
     rw [TQ]
     simp [execOp,e1,e2,Instr.makeSlice,run_underlying ht,asInt,asIntOf,typeInfo,hi,hw,za,hb',sizeOf,hz0,newRow]
    ·have TQ:cs=(Array.range (m.toNat*i.size)).map (λk=>z.cells[k % z.cells.size]!):=by simp only [cs,dj]
     rw [TQ]
     simp [execOp,e1,e2,Instr.makeSlice,run_underlying ht,asInt,asIntOf,typeInfo,hi,hw,za,hb',sizeOf,hz0,newRow,zeroValue,hz]
   ·exact hp.elim
def BR (ek:EK):Nat→List (Nat×AV)→Option (List (EK.Ty ek))
 |_,[]=>some []
 |j,p::l=>match D7 p.2 with
  |some m=>bif Nat.beq p.1 j&&me m then (match EK.ofS ek m,BR ek (j+1) l with
   |some r,some rs=>some (r::rs)
   |_,_=>none) else none
  |none=>none
def SE (ek:EK):List (EK.Ty ek)→Prop
 |[]=>True
 |x::l=>EK.ok ek x∧SE ek l
theorem CB {ek:EK}:∀{l:List (EK.Ty ek)},SE ek l→∀x∈l,EK.ok ek x
 |[],_,x,h=>by cases h
 |y::l,h,x,hx=>by
  rcases ZB8.1 hx with rfl |hx
  ·exact h.1
  ·exact CB h.2 x hx
theorem G3 {ek:EK}:∀{l:List (Nat×AV)}{j:Nat}{rs:List (EK.Ty ek)},BR ek j l=some rs→rs.length=l.length
 |[],_,rs,h=>by cases h;rfl
 |p::l,j,rs,h=>by
  simp only [BR] at h
  split at h
  ·rename_i m _
   cases hc:Nat.beq p.1 j&&me m with
   |false=>rw [hc] at h;cases h
   |true=>
    rw [hc] at h
    simp only [cond_true] at h
    split at h
    ·rename_i r rs' _ h2
     cases h
     simp [G3 h2]
    ·cases h
  ·cases h
theorem G2 {c:Ctx}{T:bb}{β:Nat→Nat}{a:Act}{w:World}(hh:Holds N c T β τ a w) {ek:EK}:∀(parts:List (Nat×Operand)) (vs:List (Nat×AV)) (j:Nat) (rs:List (EK.Ty ek)) (cs:Array Value),evL τ parts=some vs→BR ek j vs=some rs→(j+parts.length)*ek.length≤cs.size→
  ∃mg,Instr.fill (λi=>some (i*ek.length,ek.length)) cs (parts.map λp=>(p.1,a.eval p.2))=some mg∧mg.toList=cs.toList.take (j*ek.length)++flat ek rs++cs.toList.drop ((j+parts.length)*ek.length)
 |[],vs,j,rs,cs,h1,h2,h3=>by
  cases h1;cases h2
  exact⟨cs,rfl,by simp [aew]⟩
 |p::parts,vs,j,rs,cs,h1,h2,h3=>by
  simp only [evL] at h1
  split at h1
  ·rename_i v hv
   split at h1
   ·rename_i vs' IY
    cases h1
    simp only [BR] at h2
    split at h2
    ·rename_i m hm
     cases hc:Nat.beq p.1 j&&me m with
     |false=>rw [hc] at h2;cases h2
     |true=>
      rw [hc] at h2
      simp only [cond_true] at h2
      split at h2
      ·rename_i r rs' hr hrs
       cases h2
       simp only [ZA9] at hc
       have hj:p.1=j:=by simpa using hc.1
       obtain⟨c6,_⟩:=wW hm hc.2 (eP hh hv)
       have I4:=EK.wG ek hr c6
       have dj:(a.eval p.2).cells.size=ek.length:=by rw [←ZE4,I4,EK.bK]
       simp only [ZA1] at h3
       have n0:j*ek.length+ek.length≤cs.size:=by
        have:(j+1)*ek.length≤(j+(parts.length+1))*ek.length:=ZG6 _ (by omega)
        rw [ZE3,Nat.one_mul] at this;omega
       obtain⟨mg,g1,g2⟩:=G2 hh parts vs' (j+1) rs' (spl cs (j*ek.length) (a.eval p.2).cells.toList) IY hrs (by
        have e:j+1+parts.length=j+(parts.length+1):=by omega
        rw [nE,e];exact h3)
       refine⟨mg,?_,?_⟩
       ·rw [ZE7,hj,C4 (place:=λi=>some (i*ek.length,ek.length)) rfl dj n0]
        exact g1
       ·rw [g2,mD _ _ _ (by rw [I4,EK.bK];exact n0),I4,iS,EK.bK]
        have hl1:(cs.toList.take (j*ek.length)).length=j*ek.length:=by simp;omega
        have e1:(j+1)*ek.length=(cs.toList.take (j*ek.length)++EK.cells ek r).length:=by
         rw [ZA0,hl1,EK.bK,ZE3,Nat.one_mul]
        have e2:(j+1+parts.length)*ek.length=(cs.toList.take (j*ek.length)++EK.cells ek r).length+parts.length*ek.length:=by
         rw [←e1,←ZE3]
        rw [e2,e1,List.take_left',ZF5,ZF9]
        ·have e3:j*ek.length+ek.length+parts.length*ek.length=(j+(parts.length+1))*ek.length:=by
          rw [ZE3 j,ZE3,Nat.one_mul];omega
         rw [e3]
         simp [ZD2]
        ·rfl
      ·cases h2
    ·cases h2
   ·cases h1
  ·cases h1
def P0 (ex:Bool) (d k:Nat) (ek:EK) (vs:List (Nat×AV)):Q Rs:=
 match BR ek 0 vs with
 |some l=>bif Nat.beq l.length k&&Nat.ble (k*ek.length) 16777216 then abD ex d ek l True (SE ek l) else .ret .no
 |none=>.ret .no
theorem afp {ex:Bool}{ek:EK}{jK k:Nat}{parts:Array (Nat×Operand)}(hf:Fits P t ek jK) (hd:d<N):fv P N ⟨some d,.buildSlice t k parts,ty,pos,af,g⟩ (P2 parts.toList λvs=>P0 ex d k ek vs):=by
 intro c τ a w hr hp K Q' hK
 obtain⟨T,β,hh⟩:=hr
 rw [AI] at hp hK
 cases hx:evL τ parts.toList with
 |none=>rw [hx] at hp;exact hp.elim
 |some vs=>
  rw [hx] at hp hK
  simp only at hp hK
  unfold P0 at hp hK
  split at hp
  ·rename_i l hl
   simp only [hl] at hK
   cases hc:Nat.beq l.length k&&Nat.ble (k*ek.length) 16777216 with
   |false=>rw [hc] at hp;exact hp.elim
   |true=>
    rw [hc] at hp hK
    simp only [cond_true] at hp hK
    simp only [ZA9] at hc
    have hk:l.length=k:=by simpa using hc.1
    have hle:=zqNlb hc.2
    obtain⟨e,i,z,ht,hi,hz,dj,hby,hzs⟩:=jY hf.info
    let cs0:Array Value:=if k*i.size=0 then (Array.range (k*i.size)).map (λk=>(#[]:Array Value)[k % (#[]:Array Value).size]!) else (Array.range (k*i.size)).map (λk=>z.cells[k % z.cells.size]!)
    have TQ:cs0.size=k*ek.length:=by simp only [cs0];split<;>simp [dj]
    have rT:parts.toList.length=k:=by
     rw [←hk,G3 hl]
     have:∀(ps:List (Nat×Operand)) (vs:List (Nat×AV)),evL τ ps=some vs→ps.length=vs.length:=by
      intro ps
      induction ps with
      |nil=>intro vs h;cases h;rfl
      |cons p ps ih=>
       intro vs h
       simp only [evL] at h
       split at h
       ·split at h
        ·rename_i vs' h';cases h;simp [ih _ h']
        ·cases h
       ·cases h
     exact this _ _ hx
    obtain⟨mg,aej,ahU⟩:=G2 hh parts.toList vs 0 l cs0 hx hl (by rw [rT,TQ,ZA6];exact ZB5 _)
    have mq:mg.toList=flat ek (l++[]):=by
     rw [ahU,rT,ZH0,ZA6,List.take_zero,ZD0,List.drop_of_length_le (by simp [TQ]),ZE5,ZE5]
    refine HV hh hd hf.ne (z:=[]) hp (λh=>CB h) (by simp) mq (e:=e) (w':= { w with heap:=w.heap.push (.cells mg e (0,0)) }) ⟨rfl,rfl,rfl,rfl⟩ rfl (cap:=k) (by simp [hk]) (λ_=>?_) hK
    have h24:¬(16777216<k*i.size):=by rw [dj];omega
    have tO:Instr.fill (λx=>some (x*i.size,i.size)) cs0 (parts.toList.map λp=>(p.1,a.eval p.2))=some mg:=by rw [dj];exact aej
    rw [hk]
    by_cases hz0:k*i.size=0
    ·simp only [cs0,if_pos hz0] at tO
     simp [execOp,Instr.buildSlice,run_underlying ht,sizeOf,typeInfo,hi,h24,hz0,newRow]
     rw [hz0] at tO
     simp at tO
     simp [tO]
    ·simp only [cs0,if_neg hz0] at tO
     simp [execOp,Instr.buildSlice,run_underlying ht,sizeOf,typeInfo,hi,h24,hz0,newRow,zeroValue,hz]
     simp [tO]
  ·exact hp.elim
end
end GL
namespace GL
section
variable {P:Program}{N:Nat}{τ:St}
variable {d:Nat}{x y z:Operand}{t u ty:TypeId}{pos:String}{af:Array Edge}{g:Option (Nat×Bool)}
def Rd (w:World) (v:Value) (ek:EK) (l:List (EK.Ty ek)):Prop:=
 (l=[]∧∃p cap,v= .slice p 0 cap)∨∃b o cap cs e fr,v= .slice (some ⟨b,o,none⟩) l.length cap∧w.heap[b]?=some (.cells cs e fr)∧win cs o (flat ek l)
theorem Rd.cells {w:World}{ek:EK}{b o:Nat}{cs:Array Value}{e:TypeId}{fr:Nat×Nat}{l:List Value}(hb:w.heap[b]?=some (.cells cs e fr)) (hw:win cs o l):∀j v,l[j]?=some v→w.cell? ((⟨b,o,none⟩:Addr).add j)=some v:=by
 intro j v hj
 rw [ga,rr hb]
 exact hw j v hj
theorem r6 {ek:EK}{jK:Nat}(hf:Fits P t ek jK) (w:World) {p p2:Option Addr}{m cap c2:Nat}(hm:m≤cap) (hp:p=none→cap=0):(Builtin.append_ #[t,t] ty #[.slice p m cap,.slice p2 0 c2]).run P w= .ok (.slice p m cap) w:=by
 obtain⟨e,i,z,ht,hi,hz,dj,hby,hzs⟩:=jY hf.info
 have h2:(Builtin.firstCells i.size 0 (.slice p2 0 c2)).run P w= .ok #[] w:=by
  cases p2 with
  |none=>simp [Builtin.firstCells]
  |some b=>exact run_firstCells_some (P:=P) w i.size 0 b 0 c2 [] (by simp) (by simp)
 cases p with
 |none=>
  have hc:=hp rfl
  subst hc
  have xB:m=0:=by omega
  subst xB
  simp [Builtin.append_,run_underlying ht,sizeOf,typeInfo,hi,Builtin.lenOf,h2]
 |some a=>
  simp [Builtin.append_,run_underlying ht,sizeOf,typeInfo,hi,Builtin.lenOf,h2,hm,storeCells]
theorem QV {ek:EK}{jK:Nat}(hf:Fits P t ek jK) {w:World}{b o m cap:Nat}{cs:Array Value}{e':TypeId}{fr:Nat×Nat}(hb:w.heap[b]?=some (.cells cs e' fr)) (ke:free fr cs.size) {l2:List (EK.Ty ek)}{y2:Value}(h2:Rd w y2 ek l2) (fA:l2≠[]) (n0:m+l2.length≤cap) (akS:o+(m+l2.length)*ek.length≤cs.size):
  ∃w',(Builtin.append_ #[t,t] ty #[.slice (some ⟨b,o,none⟩) m cap,y2]).run P w= .ok (.slice (some ⟨b,o,none⟩) (m+l2.length) cap) w'∧P5 w b (.cells (spl cs (o+m*ek.length) (flat ek l2)) e' fr) w':=by
 obtain⟨e,i,z,ht,hi,hz,dj,hby,hzs⟩:=jY hf.info
 rcases h2 with ⟨h,_⟩ |⟨b2,o2,c2,cs2,e2,fr2,rfl,hb2,hw2⟩
 ·exact absurd h fA
 ·have hfc:=run_firstCells_some (P:=P) w i.size l2.length ⟨b2,o2,none⟩ l2.length c2 (flat ek l2) (by rw [cA,dj]) (Rd.cells (ek:=ek) hb2 hw2)
  obtain⟨w',hst,hw⟩:=pE (P:=P) (b:=b) (off:=o+m*i.size) (flat ek l2) 0 cs w hb (by rw [cA,dj,Nat.add_zero,ZF7,←ZE3];exact akS) ke (aev ek l2)
  refine⟨w',?_,by rw [Nat.add_zero,dj] at hw;exact hw⟩
  simp [Builtin.append_,run_underlying ht,sizeOf,typeInfo,hi,Builtin.lenOf,n0,hfc,ga,hst]
theorem zm {ek:EK}{jK:Nat}(hf:Fits P t ek jK) {w:World}{p:Option Addr}{cap:Nat}{l1:List (EK.Ty ek)}(h1:(l1=[]∧(p=none→cap=0))∨∃b o cs e' fr,p=some ⟨b,o,none⟩∧w.heap[b]?=some (.cells cs e' fr)∧win cs o (flat ek l1)) {l2:List (EK.Ty ek)}{y2:Value}(h2:Rd w y2 ek l2) (fA:l2≠[]) (n0:cap<l1.length+l2.length) (hle:l1.length+l2.length≤1048576):
  ∃w' yV zz cs e',(Builtin.append_ #[t,t] ty #[.slice p l1.length cap,y2]).run P w= .ok (.slice (some ⟨w.heap.size,0,none⟩) (l1.length+l2.length) yV) w'∧oK w (.cells cs e' (0,0)) w'∧cs.toList=flat ek (l1++l2++zz)∧(∀x∈zz,EK.ok ek x)∧yV=l1.length+l2.length+zz.length:=by
 obtain⟨e,i,z,ht,hi,hz,dj,hby,hzs⟩:=jY hf.info
 have ajA:(l1.length+l2.length)*i.bytes≤140737488355328:=by
  have hs:=hf.small
  have:(l1.length+l2.length)*i.bytes≤1048576*1048576:=Nat.mul_le_mul hle (by rw [hby];exact hs)
  omega
 have hl2:0<l2.length:=List.length_pos_iff.2 fA
 have hzz:∀k,(Builtin.zeroCells z.cells k).toList=flat ek (List.replicate k (EK.zero ek)):=λk=>by
  have:=L1 hf.ne hzs k
  have hzl:z.cells.size=ek.length:=by rw [←ZE4,hzs,EK.bK]
  unfold Builtin.zeroCells
  rw [hzl] at this ⊢
  exact this
 rcases h2 with ⟨h,_⟩ |⟨b2,o2,c2,cs2,e2,fr2,rfl,hb2,hw2⟩
 ·exact absurd h fA
 ·have aem:=Rd.cells (ek:=ek) hb2 hw2
  have fin:∀(pa:Addr),p=some pa→(∀j v,(flat ek l1)[j]?=some v→w.cell? (pa.add j)=some v)→∃w' yV zz cs e',(Builtin.append_ #[t,t] ty #[.slice p l1.length cap,.slice (some ⟨b2,o2,none⟩) l2.length c2]).run P w= .ok (.slice (some ⟨w.heap.size,0,none⟩) (l1.length+l2.length) yV) w'∧oK w (.cells cs e' (0,0)) w'∧cs.toList=flat ek (l1++l2++zz)∧(∀x∈zz,EK.ok ek x)∧yV=l1.length+l2.length+zz.length:=by
   intro pa hpa hc1
   subst hpa
   have TO:=growslice_fits (need:=l1.length+l2.length) (old:=cap) (bytes:=i.bytes) n0 ajA
   have fk:=run_append_grow (P:=P) (w:=w) t ty e i z ht hi hz pa l1.length cap (flat ek l1) (by rw [cA,dj]) hc1 ⟨b2,o2,none⟩ l2.length c2 (flat ek l2) (by rw [cA,dj]) aem n0 (by omega) TO
   have EY:l1.length+l2.length≤grownCap w (l1.length+l2.length) cap e:=by unfold grownCap;simp only [Question.cut];omega
   refine⟨_,_,List.replicate (grownCap w (l1.length+l2.length) cap e-(l1.length+l2.length)) (EK.zero ek),_,e,fk,⟨ζ,ζ,ζ,ζ⟩,?_,λx hx=>by rw [List.eq_of_mem_replicate hx];exact EK.sT ek,by rw [ZG2];omega⟩
   rw [Array.toList_append,Array.toList_append,hzz,gD,gD]
  rcases h1 with ⟨rfl,hp⟩ |⟨b,o,cs,e',fr,rfl,hb,hw⟩
  ·cases p with
   |none=>
    have hc:=hp rfl
    subst hc
    have fk:=run_append_nil (P:=P) (w:=w) t ty e i z ht hi hz ⟨b2,o2,none⟩ l2.length c2 (flat ek l2) (by rw [cA,dj]) aem hl2 (by simp at hle;omega) (by simp at ajA;omega)
    have EY:l2.length≤grownCap w l2.length 0 e:=by unfold grownCap;simp only [Question.cut];omega
    refine⟨w.drew.alloc (.cells ((flat ek l2).toArray++Builtin.zeroCells z.cells (grownCap w l2.length 0 e-l2.length)) e),grownCap w l2.length 0 e,List.replicate (grownCap w l2.length 0 e-l2.length) (EK.zero ek),_,e,by simpa using fk,⟨ζ,ζ,ζ,ζ⟩,?_,λx hx=>by rw [List.eq_of_mem_replicate hx];exact EK.sT ek,by simp;omega⟩
    rw [Array.toList_append,hzz,ZD0,gD]
   |some pa=>exact fin pa rfl (by simp [flat])
  ·exact fin _ rfl (Rd.cells (ek:=ek) hb hw)
def ag4 {my ek:EK}(h:my=ek) (l:List (EK.Ty my)):List (EK.Ty ek):=h ▸ l
theorem dC {ek:EK}(h:ek=ek) (l:List (EK.Ty ek)):ag4 h l=l:=rfl
def rF (my ek:EK) (l:List (EK.Ty my)):Option (List (EK.Ty ek)):=match h:EK.beq my ek with
 |true=>some (ag4 (EK.eq_of_beq h) l)
 |false=>none
theorem ic {my ek:EK}{l:List (EK.Ty my)}{m:List (EK.Ty ek)}(h:rF my ek l=some m):my=ek∧HEq l m:=by
 unfold rF at h
 split at h
 ·rename_i hb
  have he:=EK.eq_of_beq hb
  subst he
  cases h
  exact⟨rfl,HEq.rfl⟩
 ·cases h
def G1 (pt:Bool) (ek:EK) (v:AV) (k:Prop→List (EK.Ty ek)→Q Rs):Q Rs:=
 match v with
 |.o (.s (.vw my l))=>match rF my ek l with
  |some m=>k True m
  |none=>.ret .no
 |.o (.s (.vz my l))=>match rF my ek l with
  |some m=>k True m
  |none=>.ret .no
 |.o (.s (.xs j sz o m))=>sR j fun
  |.rs my l=>match rF my ek l with
   |some l=>bif Nat.beq sz ek.length then (match pt with
    |true=>k (o+m≤l.length) ((l.drop o).take m)
    |false=>k (o=0∧m=l.length) l) else .ret .no
   |none=>.ret .no
  |_=>.ret .no
 |.o (.s (.v (.slice none 0 0)))=>k True []
 |_=>.ret .no
theorem wB {pt:Bool}{c:Ctx}{T:bb}{β:Nat→Nat}{a:Act}{w:World}(hh:Holds N c T β τ a w) {ek:EK}{v:AV}{y:Value}(hr:v.rel T β y) {k:Prop→List (EK.Ty ek)→Q Rs}(hp:((G1 pt ek v k).run τ).pre):
  ∃(p:Prop) (l:List (EK.Ty ek)),(G1 pt ek v k).run τ=(k p l).run τ∧(p→Rd w y ek l):=by
 unfold G1 at hp ⊢
 split at hp
 ·rename_i my l
  split at hp
  ·rename_i m h
   obtain⟨rfl,hm⟩:=ic h
   cases hm
   refine⟨True,l,ζ,λ_=>?_⟩
   rcases hr with ⟨rfl,p,cap,rfl⟩ |⟨b,o,cap,cs,e,fr,h1,h2,h3,h4⟩
   ·exact .inl ⟨rfl,p,cap,rfl⟩
   ·exact .inr ⟨b,o,cap,cs,e,fr,h1,hh.typed b _ h3,h4⟩
  ·exact hp.elim
 ·rename_i my l
  split at hp
  ·rename_i m h
   obtain⟨rfl,hm⟩:=ic h
   cases hm
   refine⟨True,l,ζ,λ_=>?_⟩
   rcases hr with ⟨rfl,p,cap,rfl⟩ |⟨b,o,cap,cs,h1,h2,h3,h4⟩
   ·exact .inl ⟨rfl,p,cap,rfl⟩
   ·obtain⟨e,fr,hb⟩:=FA hh.typed h3
    exact .inr ⟨b,o,cap,cs,e,fr,h1,hb,h4⟩
  ·exact hp.elim
 ·rename_i j sz o m
  simp only [sR,Q.run] at hp ⊢
  cases hb:τ (.b j) with
  |none=>rw [hb] at hp;exact hp.elim
  |some av=>
   rw [hb] at hp
   simp only at hp ⊢
   split at hp
   ·rename_i my l
    split at hp
    ·rename_i m' h
     obtain⟨rfl,hm⟩:=ic h
     cases hm
     cases hc:Nat.beq sz my.length with
     |false=>rw [hc] at hp;exact hp.elim
     |true=>
      have dj:sz=my.length:=by simpa using hc
      subst dj
      obtain⟨cs,te,mq,_,z,I3,_⟩:=hh.boxes j _ hb (by intro e;cases e)
      cases pt with
      |true=>
       refine⟨o+m≤l.length,(l.drop o).take m,ζ,λhle=>?_⟩
       have hlen:((l.drop o).take m).length=m:=by simp;omega
       rcases hr with ⟨rfl,p,rfl⟩ |⟨cap,n,rfl,_⟩
       ·exact .inl ⟨by simp,p,0,rfl⟩
       ·exact .inr ⟨β j,o*my.length,cap,cs,te,(0,0),by rw [hlen],mq,A2 I3 o m⟩
      |false=>
       refine⟨o=0∧m=l.length,l,ζ,λhle=>?_⟩
       obtain⟨rfl,rfl⟩:=hle
       rcases hr with ⟨za,p,rfl⟩ |⟨cap,n,rfl,_⟩
       ·exact .inl ⟨ZD4.1 za,p,0,rfl⟩
       ·exact .inr ⟨β j,0*my.length,cap,cs,te,(0,0),rfl,mq,by have:=A2 I3 0 l.length;simpa using this⟩
    ·exact hp.elim
   ·exact hp.elim
 ·exact⟨True,[],rfl,λ_=>.inl ⟨rfl,none,0,hr⟩⟩
 ·exact hp.elim
def yx (i d:Nat):Nat:=bif Nat.ble 1000 i&&Nat.blt i 1000000000 then 1000+d else 1000000000+d
theorem abE (i d:Nat):1000≤yx i d∧(1000000000≤yx i d∨(1000≤i∧i<1000000000)):=by
 unfold yx
 cases hc:Nat.ble 1000 i&&Nat.blt i 1000000000 with
 |false=>simp only [cond_false];omega
 |true=>
  simp only [ZA9] at hc
  have h1:=zqNlb hc.1
  have h2:i<1000000000:=zqNlb hc.2
  simp only [cond_true];omega
def aip (pt:Bool) (d:Nat) (ek:EK) (v u:AV):Q Rs:=
 match v with
 |.o (.s (.xs i sz 0 m))=>bif Nat.beq sz ek.length then sR i fun
  |.rs my l=>match rF my ek l with
   |some l=>G1 pt ek u λp l2=>.ask (.b (yx i d)) fun
    |none=>.ret (.mZ ((m=l.length∧l.length+l2.length≤1048576)∧p) [(.s d,.s (.xs (yx i d) ek.length 0 (l.length+l2.length))),(.b (yx i d),.rs ek (l++l2)),(.b i,.zz)])
    |some _=>.ret .no
   |none=>.ret .no
  |_=>.ret .no else .ret .no
 |.o (.s (.v (.slice none 0 0)))=>G1 pt ek u λp l2=>.ask (.b (1000+d)) fun
  |none=>.ret (.mZ ((0<l2.length∧l2.length≤1048576)∧p) [(.s d,.s (.xs (1000+d) ek.length 0 l2.length)),(.b (1000+d),.rs ek l2)])
  |some _=>.ret .no
 |_=>.ret .no
theorem KF {a:Act}{w:World}{v1 v2:Value}(h1:a.eval x=v1) (h2:a.eval y=v2) {v:Value}{w':World}(hr:(Builtin.append_ #[t,t] ty #[v1,v2]).run P w= .ok v w'):(execOp a.eval ⟨some d,.call ⟨.builtin .append,#[x,y],#[t,t]⟩,ty,pos,af,g⟩).run P w= .ok (.value v) w':=by
 simp [execOp,resolve,invoke,builtin,h1,h2,hr]
theorem ain {pt:Bool}{ek:EK}{jK:Nat}(hf:Fits P t ek jK) (hd:d<N):fv P N ⟨some d,.call ⟨.builtin .append,#[x,y],#[t,t]⟩,ty,pos,af,g⟩ (bY x λv=>bY y λu=>aip pt d ek v u):=by
 intro c τ a w hr hp K Q' hK
 obtain⟨T,β,hh⟩:=hr
 rw [c8] at hp hK
 cases hx:ev τ x with
 |none=>rw [hx] at hp;exact hp.elim
 |some v=>
  rw [hx] at hp hK
  simp only [c8] at hp hK
  cases hy:ev τ y with
  |none=>rw [hy] at hp;exact hp.elim
  |some u=>
   rw [hy] at hp hK
   simp only at hp hK
   have hv:=eP hh hx
   have hu:=eP hh hy
   unfold aip at hp hK
   split at hp
   ·rename_i i sz m
    simp only at hK
    obtain⟨ad9,ahQ⟩:=abE i d
    generalize yx i d=nm at hp hK ad9 ahQ
    cases hc:Nat.beq sz ek.length with
    |false=>rw [hc] at hp;exact hp.elim
    |true=>
     rw [hc] at hp hK
     simp only [cond_true,sR,Q.run] at hp hK
     have dj:sz=ek.length:=by simpa using hc
     subst dj
     cases hb:τ (.b i) with
     |none=>rw [hb] at hp;exact hp.elim
     |some av=>
      rw [hb] at hp hK
      simp only at hp hK
      split at hp
      ·rename_i my l
       split at hp
       ·rename_i m0 h
        obtain⟨rfl,xB⟩:=ic h
        cases xB
        simp only [h] at hK
        obtain⟨p,l2,fk,hRd⟩:=wB hh hu hp
        have hp':=hp
        rw [fk] at hp'
        simp only [Q.run] at hp'
        cases hn:τ (.b nm) with
        |some _=>rw [hn] at hp';exact hp'.elim
        |none=>
         rw [hn] at hp'
         obtain⟨⟨hm,hle⟩,hpp⟩:(m=l.length∧l.length+l2.length≤1048576)∧p:=hp'
         subst hm
         have hR:=hRd hpp
         have hid:i≠nm:=λe=>by rw [e,hn] at hb;cases hb
         have FK:live τ i:=eD hb (by intro e;cases e)
         obtain⟨cs,te,mq,fA,zz,I3,hzz⟩:=hh.boxes i _ hb (by intro e;cases e)
         have fin:∀{w':World} {val:Value} {T':bb} {β':Nat→Nat},(Builtin.append_ #[t,t] ty #[a.eval x,a.eval y]).run P w= .ok val w'→Holds N c T' β' ((τ.ap [(.b i,.zz)]).ap [(.b nm,.rs my (l++l2))]) a w'→(SV.xs nm my.length 0 (l.length+l2.length)).rel T' β' val→Oper.wp P ⟨some d,.call ⟨.builtin .append,#[x,y],#[t,t]⟩,ty,pos,af,g⟩ a w K Q':=by
          intro w' val T' β' zR hh' c6
          unfold Oper.wp
          rw [KF rfl rfl zR]
          show K (a.put (some d) val) w'
          refine hK [(.s d,.s (.xs nm my.length 0 (l.length+l2.length))),(.b nm,.rs my (l++l2)),(.b i,.zz)] _ _ ?_ ⟨_,_,hh'.put hd (av:=.s (.xs nm my.length 0 (l.length+l2.length))) c6 (by simp [AV.boxes,A0.boxes,SV.boxes,uj])⟩
          rw [fk]
          simp only [Q.run,hn]
          rfl
         by_cases h2:l2=[]
         ·
          subst h2
          have h0:(Builtin.append_ #[t,t] ty #[a.eval x,a.eval y]).run P w= .ok (a.eval x) w:=by
           rcases hR with ⟨_,p2,c2,e2⟩ |⟨b2,o2,c2,_,_,_,e2,_⟩
           ·rcases hv with ⟨za,p1,e1⟩ |⟨cap,n,e1,hmc,_⟩
            ·rw [e1,e2];exact r6 hf w (ZB5 _) (λ_=>rfl)
            ·rw [e1,e2];exact r6 hf w hmc (by simp)
           ·rcases hv with ⟨za,p1,e1⟩ |⟨cap,n,e1,hmc,_⟩
            ·rw [e1,e2];exact r6 hf w (ZB5 _) (λ_=>rfl)
            ·rw [e1,e2];exact r6 hf w hmc (by simp)
          have hmv:=hh.SS (i:=i) (d:=nm) ad9 ahQ hn (av:=.rs my (l++[])) FK mq (w':=w) ⟨mq,λ_ _=>rfl,rfl,rfl,rfl,rfl⟩ rfl ⟨fA,zz,by simpa using I3,hzz⟩ rfl
          refine fin h0 hmv ?_
          rcases hv with ⟨za,p1,e1⟩ |⟨cap,n,e1,hmc,hT,hcn⟩
          ·exact .inl ⟨by simpa using za,p1,e1⟩
          ·refine .inr ⟨cap,n,?_,by simpa using hmc,?_,hcn⟩
           ·rw [e1];unfold oo;rw [if_pos rfl];simp
           ·unfold oo;rw [if_pos rfl];exact hT
         ·rcases hv with ⟨za,p1,e1⟩ |⟨cap,n,e1,hmc,hT,hcn⟩
          ·
           have hl:l=[]:=ZD4.1 za
           subst hl
           obtain⟨w',yV,z',mg,e',zR,hpu,TN,hz',D6⟩:=zm (ty:=ty) hf (p:=p1) (cap:=0) (l1:=[]) (.inl ⟨rfl,λ_=>rfl⟩) hR h2 (by have:=List.length_pos_iff.2 h2;simpa using this) (by simpa using hle)
           have h3:=(hh.kill (i:=i)).tD (d:=nm) ad9 (by rw [uj,if_neg (by simp;exact λh=>hid h.symm)];exact hn) (av:=.rs my ([]++l2)) hpu ⟨fA,z',TN,hz'⟩ (by simp [AV.boxes])
           refine fin (by rw [e1];exact zR) h3 (.inr ⟨yV,mg.size,?_,by rw [D6];omega,?_,?_⟩)
           ·unfold oo;rw [if_pos rfl,ZH0]
           ·unfold oo xi;rw [if_pos rfl,if_pos rfl]
           ·rw [←ZE4,TN,cA];simp [D6]
          ·rw [ZH0] at e1
           have hnn:=hh.YS hT mq
           by_cases n0:l.length+l2.length≤cap
           ·
            have EY:(l.length+l2.length)*my.length≤cap*my.length:=ZG6 _ n0
            rw [ZA6] at hcn
            obtain⟨w',zR,hw⟩:=QV (ty:=ty) hf (b:=β i) (o:=0) (m:=l.length) (cap:=cap) mq (I6 _) hR h2 n0 (by rw [ZA6];omega)
            rw [ZA6] at hw
            have hzl:(l++zz).length*my.length=cs.size:=by rw [←cA,←I3,ZE4]
            have amb:l2.length≤zz.length:=by
             have h1:(l.length+l2.length)*my.length≤(l++zz).length*my.length:=by omega
             have h2:=Nat.le_of_mul_le_mul_right h1 (List.length_pos_iff.2 fA)
             simp at h2;omega
            have akT:(spl cs (l.length*my.length) (flat my l2)).toList=flat my (l++l2++zz.drop l2.length):=by
             have e2:(l++zz).take l.length=l:=by simp
             have e3:(l++zz).drop (l.length+l2.length)=zz.drop l2.length:=by rw [ZF5]
             rw [mD _ _ _ (by rw [cA,←ZE3];omega),I3,cA,←ZE3,mX,ph,e2,e3,gD,gD]
            have hmv:=hh.SS (i:=i) (d:=nm) ad9 ahQ hn (av:=.rs my (l++l2)) FK mq hw (nE _ _ _) ⟨fA,zz.drop l2.length,akT,λx hx=>hzz x (ZF2 hx)⟩ rfl
            refine fin (by rw [e1];exact zR) hmv (.inr ⟨cap,n,?_,n0,?_,by rw [ZA6];exact hcn⟩)
            ·unfold oo;rw [if_pos rfl,ZH0]
            ·unfold oo;rw [if_pos rfl];exact hT
           ·obtain⟨w',yV,z',mg,e',zR,hpu,TN,hz',D6⟩:=zm (ty:=ty) hf (p:=some ⟨β i,0,none⟩) (cap:=cap) (l1:=l) (.inr ⟨β i,0,cs,te,(0,0),rfl,mq,UR I3⟩) hR h2 (by omega) hle
            have h3:=(hh.kill (i:=i)).tD (d:=nm) ad9 (by rw [uj,if_neg (by simp;exact λh=>hid h.symm)];exact hn) (av:=.rs my (l++l2)) hpu ⟨fA,z',TN,hz'⟩ (by simp [AV.boxes])
            refine fin (by rw [e1];exact zR) h3 (.inr ⟨yV,mg.size,?_,by rw [D6];omega,?_,?_⟩)
            ·unfold oo;rw [if_pos rfl,ZH0]
            ·unfold oo xi;rw [if_pos rfl,if_pos rfl]
            ·rw [←ZE4,TN,cA];simp [D6,ZF7]
       ·exact hp.elim
      ·exact hp.elim
   ·simp only at hK
    obtain⟨p,l2,fk,hRd⟩:=wB hh hu hp
    have hp':=hp
    rw [fk] at hp' hK
    simp only [Q.run] at hp' hK
    cases hn:τ (.b (1000+d)) with
    |some _=>rw [hn] at hp';exact hp'.elim
    |none=>
     rw [hn] at hp' hK
     obtain⟨⟨hm,hle⟩,hpp⟩:(0<l2.length∧l2.length≤1048576)∧p:=hp'
     have hR:=hRd hpp
     have e1:a.eval x= .slice none 0 0:=hv
     obtain⟨w',yV,z',mg,e',zR,hpu,TN,hz',D6⟩:=zm (ty:=ty) hf (p:=none) (cap:=0) (l1:=[]) (.inl ⟨rfl,λ_=>rfl⟩) hR (List.length_pos_iff.1 hm) (by simpa using hm) (by simpa using hle)
     have h3:=hh.tD (d:=1000+d) (by omega) hn (av:=.rs ek l2) hpu ⟨hf.ne,z',by simpa using TN,hz'⟩ (by simp [AV.boxes])
     unfold Oper.wp
     rw [KF (x:=x) (y:=y) e1 rfl zR]
     refine hK _ _ _ rfl ⟨_,_,h3.put hd (av:=.s (.xs (1000+d) ek.length 0 l2.length)) (.inr ⟨yV,mg.size,?_,by rw [D6];simp,?_,?_⟩) (by simp [AV.boxes,A0.boxes,SV.boxes,uj])⟩
     ·unfold oo;rw [if_pos rfl,ZH0];simp
     ·unfold oo xi;rw [if_pos rfl,if_pos rfl]
     ·rw [←ZE4,TN,cA];simp [D6]
   ·exact hp.elim
