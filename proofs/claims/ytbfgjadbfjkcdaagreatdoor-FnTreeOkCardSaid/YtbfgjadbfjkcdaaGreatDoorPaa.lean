/- FnTreeOk returns true for every code (its row lists package variables, tied by the card): part 1 of 39. -/
import Derived.Lib.ItoaNum
import Derived.RegionTactic
import Derived.WalkKit
set_option maxHeartbeats 20000000
set_option linter.all false
namespace Go.Proofs.YtbfgjadbfjkcdaaGreatDoor
namespace GL
theorem tv:True:=trivial
theorem ca {p:Prop} [Decidable p] (h:decide p=false):¬p:=of_decide_eq_false h
theorem cw {p:Prop} [Decidable p] (h:decide p=true):p:=of_decide_eq_true h
theorem cH {n m:Nat} (h:Nat.ble n m=true):n≤m:=Nat.le_of_ble_eq_true h
theorem sa {P:Prop} (h:P:=by first |omega |rfl |exact List.length_append.symm):P:=h
theorem rp {P:Prop} (h:P:=by repeat' (first |exact trivial |apply And.intro)):P:=h
inductive CP where
 |i64
 |row
 |u8
 |str (n:Nat)
 |bool
abbrev CP.Ty:CP→Type
 | .i64=>Int
 | .row=>Int
 | .u8=>Int
 | .str _=>ByteArray
 | .bool=>Bool
def CP.val:(c:CP)→c.Ty→Value
 | .i64,n=>.int .i64 n
 | .row,n=>.int .i64 n
 | .u8,n=>.int .u8 n
 | .str _,s=>.string s
 | .bool,b=>.bool b
def CP.ok:(c:CP)→c.Ty→Prop
 | .i64,n=> -9223372036854775808≤n∧n≤9223372036854775807
 | .row,n=>0≤n∧n≤63
 | .u8,n=>0≤n∧n≤255
 | .str m,s=>s.size≤m
 | .bool,_=>True
abbrev EK:=List CP
def CP.beq:CP→CP→Bool
 | .i64, .i64=>true
 | .row, .row=>true
 | .u8, .u8=>true
 | .str m, .str n=>Nat.beq m n
 | .bool, .bool=>true
 |_,_=>false
theorem CP.eq_of_beq {x y:CP} (h:x.beq y=true):x=y:=by
 cases x<;>cases y<;>simp [CP.beq] at h ⊢ <;>exact h
def EK.beq:List CP→List CP→Bool
 |[],[]=>true
 |x::l,y::m=>x.beq y&&EK.beq l m
 |_,_=>false
theorem EK.eq_of_beq:∀ {l m:List CP},EK.beq l m=true→l=m
 |[],[],_=>rfl
 |[],_::_,h=>by cases h
 |_::_,[],h=>by cases h
 |x::l,y::m,h=>by
  simp only [EK.beq,Bool.and_eq_true] at h
  rw [CP.eq_of_beq h.1,EK.eq_of_beq h.2]
abbrev EK.Ty:List CP→Type
 |[]=>Unit
 |[c]=>c.Ty
 |c::d::l=>c.Ty×EK.Ty (d::l)
def EK.cells:(ek:List CP)→EK.Ty ek→List Value
 |[],_=>[]
 |[c],x=>[c.val x]
 |c::d::l,x=>c.val x.1::EK.cells (d::l) x.2
def EK.ok:(ek:List CP)→EK.Ty ek→Prop
 |[],_=>True
 |[c],x=>c.ok x
 |c::d::l,x=>c.ok x.1∧EK.ok (d::l) x.2
def one (v:Value):Bool:=v.oneCell'
theorem CP.val_one (c:CP) (x:c.Ty):one (c.val x)=true:=by cases c<;>rfl
theorem EK.bF:∀(ek:List CP) (x:EK.Ty ek),(EK.cells ek x).length=ek.length
 |[],_=>rfl
 |[_],_=>rfl
 |_::d::l,x=>by simp [EK.cells,EK.bF (d::l) x.2]
theorem EK.NJ:∀(ek:List CP) (x:EK.Ty ek),∀v∈EK.cells ek x,one v=true
 |[],_,v,h=>by cases h
 |[c],x,v,h=>by
  simp only [EK.cells,List.mem_singleton] at h
  subst h;exact c.val_one x
 |c::d::l,x,v,h=>by
  simp only [EK.cells,List.mem_cons] at h
  rcases h with rfl |h
  ·exact c.val_one x.1
  ·exact EK.NJ (d::l) x.2 v h
def flat (ek:EK) (l:List (EK.Ty ek)):List Value:=l.flatMap (EK.cells ek)
theorem aeI (ek:EK):flat ek []=[]:=rfl
theorem iL (ek:EK) (x:EK.Ty ek) (l:List (EK.Ty ek)):flat ek (x::l)=EK.cells ek x++flat ek l:=rfl
theorem gu (ek:EK) (l m:List (EK.Ty ek)):flat ek (l++m)=flat ek l++flat ek m:=by simp [flat]
theorem ct (ek:EK):∀(l:List (EK.Ty ek)),(flat ek l).length=l.length * ek.length
 |[]=>by simp [flat]
 |x::l=>by simp [iL,EK.bF,ct ek l,Nat.add_mul,Nat.add_comm]
theorem aeH (ek:EK) (l:List (EK.Ty ek)):∀v∈flat ek l,one v=true:=by
 intro v hv
 obtain ⟨x,_,h⟩:=List.mem_flatMap.1 hv
 exact EK.NJ ek x v h
theorem o7 (ek:EK):∀(l:List (EK.Ty ek)) (k:Nat),(flat ek l).drop (k * ek.length)=flat ek (l.drop k)
 |_,0=>by simp
 |[],k+1=>by simp [flat]
 |x::l,k+1=>by
  rw [iL,Nat.add_mul,Nat.one_mul,Nat.add_comm,←List.drop_drop]
  have h:(EK.cells ek x++flat ek l).drop ek.length=flat ek l:=by
   rw [←EK.bF ek x];simp
  rw [h,List.drop_succ_cons,o7 ek l k]
theorem mX (ek:EK):∀(l:List (EK.Ty ek)) (k:Nat),(flat ek l).take (k * ek.length)=flat ek (l.take k)
 |_,0=>by simp [flat]
 |[],k+1=>by simp [flat]
 |x::l,k+1=>by
  rw [iL,List.take_succ_cons,iL,←mX ek l k,List.take_append,EK.bF,Nat.add_mul,Nat.one_mul]
  rw [List.take_of_length_le (by rw [EK.bF];omega)]
  congr 2
  omega
theorem aad (ek:EK) (l:List (EK.Ty ek)) (k:Nat) (x:EK.Ty ek) (h:l[k]?=some x):((flat ek l).drop (k * ek.length)).take ek.length=EK.cells ek x:=by
 rw [o7]
 obtain ⟨hk,rfl⟩:=List.getElem?_eq_some_iff.1 h
 rw [List.drop_eq_getElem_cons hk,iL,List.take_append_of_le_length (by rw [EK.bF];exact Nat.le_refl _),List.take_of_length_le (by rw [EK.bF];exact Nat.le_refl _)]
theorem T8 (ek:EK) (l:List (EK.Ty ek)) (k j:Nat) (x:EK.Ty ek) (h:l[k]?=some x) (hj:j < ek.length):(flat ek l)[k * ek.length+j]?=(EK.cells ek x)[j]?:=by
 rw [←aad ek l k x h,List.getElem?_take,if_pos hj,List.getElem?_drop]
inductive CV where
 |v (x:Value)
 |q (b:Bool)
 |vz (ek:EK) (l:List (EK.Ty ek))
inductive SV where
 |v (x:Value)
 |q (b:Bool)
 |bp (i off:Nat)
 |xp (i sz k j:Nat)
 |xs (i sz o m:Nat)
 |ep (ek:EK) (j:Nat)
 |sl (ek:EK) (len:Nat)
 |vw (ek:EK) (l:List (EK.Ty ek))
 |vz (ek:EK) (l:List (EK.Ty ek))
 |vp (ek:EK) (x:EK.Ty ek) (j:Nat)
 |vs (l:List CV) (j:Nat)
 |er (b:Bool)
 |e0
def CV.sv:CV→SV
 | .v x=>.v x
 | .q b=>.q b
 | .vz ek l=>.vz ek l
def cvs:List CV→List SV
 |[]=>[]
 |x::l=>x.sv::cvs l
inductive A0 where
 |s (x:SV)
 |a (l:List SV)
inductive AV where
 |o (x:A0)
 |t (l:List A0)
 |rs (ek:EK) (l:List (EK.Ty ek))
 |zz
 |fn (f:Nat) (C6:List (Nat×Nat))
abbrev AV.s (x:SV):AV:=.o (.s x)
abbrev AV.a (l:List SV):AV:=.o (.a l)
abbrev AV.int (n:Int):AV:=.o (.s (.v (.int .i64 n)))
abbrev AV.byte (n:Int):AV:=.o (.s (.v (.int .u8 n)))
abbrev AV.q (b:Bool):AV:=.o (.s (.q b))
abbrev AV.str (s:ByteArray):AV:=.o (.s (.v (.string s)))
abbrev SV.int (n:Int):SV:=.v (.int .i64 n)
abbrev SV.byte (n:Int):SV:=.v (.int .u8 n)
abbrev SV.str (s:ByteArray):SV:=.v (.string s)
def CP.sv:(c:CP)→c.Ty→SV
 | .i64,n=>.v (.int .i64 n)
 | .row,n=>.v (.int .i64 n)
 | .u8,n=>.v (.int .u8 n)
 | .str _,s=>.v (.string s)
 | .bool,b=>.q b
def EK.AU:(ek:List CP)→EK.Ty ek→List SV
 |[],_=>[]
 |[c],x=>[c.sv x]
 |c::d::l,x=>c.sv x.1::EK.AU (d::l) x.2
inductive BK where
 |ty (ek:EK) (n:Nat)
 |ro (cs:Array Value) (e:TypeId) (fr:Nat×Nat)
 |ln (cs:Array Value) (e:TypeId) (fr:Nat×Nat)
 |fz (ek:EK) (n:Nat) (cs:Array Value)
 |bx (n:Nat)
abbrev a7:=Nat→Option BK
def win (cs:Array Value) (o:Nat) (l:List Value):Prop:=∀j v,l[j]?=some v→cs[o+j]?=some v
def rdT (T:a7) (b:Nat) (cs:Array Value):Prop:=(∃e fr,T b=some (.ro cs e fr))∨(∃e fr,T b=some (.ln cs e fr))∨∃ek n,T b=some (.fz ek n cs)
def CV.rel (T:a7):CV→Value→Prop
 | .v x,y=>y=x
 | .q b,y=>y= .bool b
 | .vz ek l,y=>(l=[]∧∃p cap,y= .slice p 0 cap)∨∃b o cap cs,y= .slice (some ⟨b,o,none⟩) l.length cap∧l.length≤cap∧rdT T b cs∧win cs o (flat ek l)
def xj (T:a7):List CV→List Value→Prop
 |[],[]=>True
 |x::l,y::r=>x.rel T y∧xj T l r
 |_,_=>False
def SV.rel (T:a7) (β:Nat→Nat):SV→Value→Prop
 | .v x,y=>y=x
 | .q b,y=>y= .bool b
 | .bp i off,y=>y= .pointer (some ⟨β i,off,none⟩)
 | .xp i sz k j,y=>y= .pointer (some ⟨β i,k * sz+j,none⟩)∧j < sz
 | .xs i sz o m,y=>(m=0∧∃p,y= .slice p 0 0)∨∃cap n,y= .slice (some ⟨β i,o * sz,none⟩) m cap∧m≤cap∧T (β i)=some (.bx n)∧(o+cap) * sz≤n
 | .ep ek j,y=>∃b o n,y= .pointer (some ⟨b,o * ek.length+j,none⟩)∧T b=some (.ty ek n)∧o < n∧j < ek.length
 | .sl ek len,y=>(len=0∧∃p,y= .slice p 0 0)∨∃b o cap n,y= .slice (some ⟨b,o * ek.length,none⟩) len cap∧len≤cap∧T b=some (.ty ek n)∧o+cap≤n
 | .vw ek l,y=>(l=[]∧∃p cap,y= .slice p 0 cap)∨∃b o cap cs e fr,y= .slice (some ⟨b,o,none⟩) l.length cap∧l.length≤cap∧T b=some (.ro cs e fr)∧win cs o (flat ek l)
 | .vz ek l,y=>(l=[]∧∃p cap,y= .slice p 0 cap)∨∃b o cap cs,y= .slice (some ⟨b,o,none⟩) l.length cap∧l.length≤cap∧rdT T b cs∧win cs o (flat ek l)
 | .vp ek x j,y=>∃b o cs,y= .pointer (some ⟨b,o+j,none⟩)∧j < ek.length∧rdT T b cs∧win cs o (EK.cells ek x)
 | .vs l j,y=>∃b cs,y= .pointer (some ⟨b,j,none⟩)∧rdT T b cs∧xj T l cs.toList
 | .er b,y=>match b with
  |true=>y= .nilIface
  |false=>∃t v,y= .iface t v
 | .e0,y=>∃p,y= .slice p 0 0
def ee (T:a7) (β:Nat→Nat):List SV→List Value→Prop
 |[],[]=>True
 |x::l,y::r=>x.rel T β y∧ee T β l r
 |_,_=>False
def A0.rel (T:a7) (β:Nat→Nat):A0→Value→Prop
 | .s x,y=>x.rel T β y
 | .a l,y=>∃cs,y= .agg cs∧ee T β l cs.toList
def uE (T:a7) (β:Nat→Nat):List A0→List Value→Prop
 |[],[]=>True
 |x::l,y::r=>x.rel T β y∧uE T β l r
 |_,_=>False
def EW (β:Nat→Nat):List (Nat×Nat)→List Value
 |[]=>[]
 |p::l=>.pointer (some ⟨β p.1,p.2,none⟩)::EW β l
def AV.rel (T:a7) (β:Nat→Nat):AV→Value→Prop
 | .o x,y=>x.rel T β y
 | .t l,y=>∃vs,y= .tuple vs∧uE T β l vs.toList
 | .fn f l,y=>∃cs,y= .func (.func f) #[] cs∧cs.toList=EW β l
 |_,_=>False
def AV.rN (T:a7) (β:Nat→Nat):AV→Array Value→Prop
 | .o (.a l),cs=>ee T β l cs.toList
 | .rs ek l,cs=>ek≠[]∧∃z,cs.toList=flat ek (l++z)∧∀x∈z,EK.ok ek x
 |_,_=>False
def SV.boxes:SV→List Nat
 | .bp i _=>[i]
 | .xp i _ _ _=>[i]
 | .xs i _ _ _=>[i]
 |_=>[]
def bX:List SV→List Nat
 |[]=>[]
 |x::l=>x.boxes++bX l
def A0.boxes:A0→List Nat
 | .s x=>x.boxes
 | .a l=>bX l
def eN:List A0→List Nat
 |[]=>[]
 |x::l=>x.boxes++eN l
def jA:List (Nat×Nat)→List Nat
 |[]=>[]
 |p::l=>p.1::jA l
def AV.boxes:AV→List Nat
 | .o x=>x.boxes
 | .t l=>eN l
 | .fn _ l=>jA l
 |_=>[]
theorem gC {i:Nat}:∀ {l:List SV},i∈bX l↔∃x∈l,i∈x.boxes
 |[]=>by simp [bX]
 |x::l=>by simp [bX,gC (l:=l)]
theorem HX {i:Nat}:∀ {l:List A0},i∈eN l↔∃x∈l,i∈x.boxes
 |[]=>by simp [eN]
 |x::l=>by simp [eN,HX (l:=l)]
def SV.lx (g:Nat→Nat):SV→SV
 | .bp i o=>.bp (g i) o
 | .xp i sz k j=>.xp (g i) sz k j
 | .xs i sz o m=>.xs (g i) sz o m
 |x=>x
def BF (g:Nat→Nat):List SV→List SV
 |[]=>[]
 |x::l=>x.lx g::BF g l
def A0.lx (g:Nat→Nat):A0→A0
 | .s x=>.s (x.lx g)
 | .a l=>.a (BF g l)
def BE (g:Nat→Nat):List A0→List A0
 |[]=>[]
 |x::l=>x.lx g::BE g l
def BG (g:Nat→Nat):List (Nat×Nat)→List (Nat×Nat)
 |[]=>[]
 |p::l=>(g p.1,p.2)::BG g l
def AV.lx (g:Nat→Nat):AV→AV
 | .o x=>.o (x.lx g)
 | .t l=>.t (BE g l)
 | .fn f l=>.fn f (BG g l)
 |x=>x
section
variable {T T':a7} {β β':Nat→Nat} {g:Nat→Nat}
def uR (T T':a7):Prop:=∀b k,T b=some k→T' b=some k
theorem zv (h:uR T T') {b:Nat} {cs:Array Value} (hr:rdT T b cs):rdT T' b cs:=by
 rcases hr with ⟨e,fr,h1⟩ |⟨e,fr,h1⟩ |⟨ek,n,h1⟩
 ·exact .inl ⟨e,fr,h _ _ h1⟩
 ·exact .inr (.inl ⟨e,fr,h _ _ h1⟩)
 ·exact .inr (.inr ⟨ek,n,h _ _ h1⟩)
theorem CV.acU {x:CV} {v:Value}:x.rel T v↔x.sv.rel T β v:=by cases x<;>exact Iff.rfl
theorem zt:∀ {l:List CV} {cs:List Value},xj T l cs→ee T β (cvs l) cs
 |[],[],_=>trivial
 |_::_,[],h=>h.elim
 |[],_::_,h=>h.elim
 |_::_,_::_,h=>⟨CV.acU.1 h.1,zt h.2⟩
theorem CV.acV (h:∀b cs,rdT T b cs→rdT T' b cs) {x:CV} {v:Value} (hr:x.rel T v):x.rel T' v:=by
 cases x with
 |v x=>exact hr
 |q b=>exact hr
 |vz ek l=>
  rcases hr with hr |⟨b,o,cap,cs,h1,h2,h3,h4⟩
  ·exact .inl hr
  ·exact .inr ⟨b,o,cap,cs,h1,h2,h _ _ h3,h4⟩
theorem E5 (h:∀b cs,rdT T b cs→rdT T' b cs):∀ {l:List CV} {cs:List Value},xj T l cs→xj T' l cs
 |[],[],_=>trivial
 |_::_,[],h'=>h'.elim
 |[],_::_,h'=>h'.elim
 |_::_,_::_,h'=>⟨CV.acV h h'.1,E5 h h'.2⟩
theorem SV.nJ (h:uR T T') {x:SV} {v:Value} (hr:x.rel T β v):x.rel T' β v:=by
 cases x with
 |v x=>exact hr
 |q b=>exact hr
 |bp i o=>exact hr
 |xp i sz k j=>exact hr
 |xs i sz o m=>
  rcases hr with hr |⟨cap,n,h1,h2,h3,h4⟩
  ·exact .inl hr
  ·exact .inr ⟨cap,n,h1,h2,h _ _ h3,h4⟩
 |ep ek j=>obtain ⟨b,o,n,h1,h2,h3⟩:=hr;exact ⟨b,o,n,h1,h _ _ h2,h3⟩
 |sl ek len=>
  rcases hr with hr |⟨b,o,cap,n,h1,h2,h3,h4⟩
  ·exact .inl hr
  ·exact .inr ⟨b,o,cap,n,h1,h2,h _ _ h3,h4⟩
 |vw ek l=>
  rcases hr with hr |⟨b,o,cap,cs,e,fr,h1,h2,h3,h4⟩
  ·exact .inl hr
  ·exact .inr ⟨b,o,cap,cs,e,fr,h1,h2,h _ _ h3,h4⟩
 |vz ek l=>
  rcases hr with hr |⟨b,o,cap,cs,h1,h2,h3,h4⟩
  ·exact .inl hr
  ·exact .inr ⟨b,o,cap,cs,h1,h2,zv h h3,h4⟩
 |vp ek x j=>
  obtain ⟨b,o,cs,h1,h2,h3,h4⟩:=hr
  exact ⟨b,o,cs,h1,h2,zv h h3,h4⟩
 |vs l j=>
  obtain ⟨b,cs,h1,h2,h3⟩:=hr
  exact ⟨b,cs,h1,zv h h2,E5 (fun _ _=>zv h) h3⟩
 |er b=>exact hr
 |e0=>exact hr
theorem BI (h:uR T T'):∀ {l:List SV} {cs:List Value},ee T β l cs→ee T' β l cs
 |[],[],_=>trivial
 |_::_,[],h'=>h'.elim
 |[],_::_,h'=>h'.elim
 |_::_,_::_,h'=>⟨SV.nJ h h'.1,BI h h'.2⟩
theorem A0.nJ (h:uR T T') {x:A0} {v:Value} (hr:x.rel T β v):x.rel T' β v:=by
 cases x with
 |s x=>exact SV.nJ h hr
 |a l=>obtain ⟨cs,e,hl⟩:=hr;exact ⟨cs,e,BI h hl⟩
theorem LJ (h:uR T T'):∀ {l:List A0} {cs:List Value},uE T β l cs→uE T' β l cs
 |[],[],_=>trivial
 |_::_,[],h'=>h'.elim
 |[],_::_,h'=>h'.elim
 |_::_,_::_,h'=>⟨A0.nJ h h'.1,LJ h h'.2⟩
theorem AV.nJ (h:uR T T') {x:AV} {v:Value} (hr:x.rel T β v):x.rel T' β v:=by
 cases x with
 |o x=>exact A0.nJ h hr
 |t l=>obtain ⟨cs,e,hl⟩:=hr;exact ⟨cs,e,LJ h hl⟩
 |rs ek l=>exact hr
 |zz=>exact hr
 |fn f l=>exact hr
theorem AV.JR (h:uR T T') {x:AV} {cs:Array Value} (hr:x.rN T β cs):x.rN T' β cs:=by
 cases x with
 |o x=>
  cases x with
  |s x=>exact hr
  |a l=>exact BI h hr
 |_=>exact hr
theorem SV.np {x:SV} (h:∀i∈x.boxes,β' (g i)=β i) {v:Value} (hr:x.rel T β v):(x.lx g).rel T β' v:=by
 cases x with
 |bp i o=>
  have:=h i (by simp [SV.boxes])
  show v=_
  rw [this];exact hr
 |xp i sz k j=>
  have:=h i (by simp [SV.boxes])
  show v=_∧_
  rw [this];exact hr
 |xs i sz o m=>
  have:=h i (by simp [SV.boxes])
  rcases hr with hr |⟨cap,n,h1,h2,h3,h4⟩
  ·exact .inl hr
  ·exact .inr ⟨cap,n,by rw [this];exact h1,h2,by rw [this];exact h3,h4⟩
 |_=>exact hr
theorem G0:∀ {l:List SV} {cs:List Value},(∀i∈bX l,β' (g i)=β i)→ee T β l cs→ee T β' (BF g l) cs
 |[],[],_,_=>trivial
 |_::_,[],_,h'=>h'.elim
 |[],_::_,_,h'=>h'.elim
 |_::_,_::_,hd,h'=>by
  simp only [bX,List.mem_append] at hd
  exact ⟨SV.np (fun i hi=>hd i (.inl hi)) h'.1,G0 (fun i hi=>hd i (.inr hi)) h'.2⟩
theorem A0.np {x:A0} (h:∀i∈x.boxes,β' (g i)=β i) {v:Value} (hr:x.rel T β v):(x.lx g).rel T β' v:=by
 cases x with
 |s x=>exact SV.np h hr
 |a l=>obtain ⟨cs,e,hl⟩:=hr;exact ⟨cs,e,G0 h hl⟩
theorem RJ:∀ {l:List A0} {cs:List Value},(∀i∈eN l,β' (g i)=β i)→uE T β l cs→uE T β' (BE g l) cs
 |[],[],_,_=>trivial
 |_::_,[],_,h'=>h'.elim
 |[],_::_,_,h'=>h'.elim
 |_::_,_::_,hd,h'=>by
  simp only [eN,List.mem_append] at hd
  exact ⟨A0.np (fun i hi=>hd i (.inl hi)) h'.1,RJ (fun i hi=>hd i (.inr hi)) h'.2⟩
theorem UP:∀ {l:List (Nat×Nat)},(∀i∈jA l,β' (g i)=β i)→EW β' (BG g l)=EW β l
 |[],_=>rfl
 |p::l,h=>by
  simp only [jA,List.mem_cons] at h
  simp only [EW,BG]
  rw [h _ (.inl rfl),UP (fun i hi=>h i (.inr hi))]
theorem AV.np {x:AV} (h:∀i∈x.boxes,β' (g i)=β i) {v:Value} (hr:x.rel T β v):(x.lx g).rel T β' v:=by
 cases x with
 |o x=>exact A0.np h hr
 |t l=>obtain ⟨cs,e,hl⟩:=hr;exact ⟨cs,e,RJ h hl⟩
 |rs ek l=>exact hr
 |zz=>exact hr
 |fn f l=>obtain ⟨cs,e,hl⟩:=hr;exact ⟨cs,e,hl.trans (UP h).symm⟩
theorem AV.FQ {x:AV} (h:∀i∈x.boxes,β' (g i)=β i) {cs:Array Value} (hr:x.rN T β cs):(x.lx g).rN T β' cs:=by
 cases x with
 |o x=>
  cases x with
  |s x=>exact hr
  |a l=>exact G0 h hr
 |_=>exact hr
theorem SV.u9 {x:SV}:x.lx (fun i=>i)=x:=by cases x<;>rfl
theorem Y9:∀ {l:List SV},BF (fun i=>i) l=l
 |[]=>rfl
 |x::l=>by simp [BF,SV.u9,Y9 (l:=l)]
theorem A0.u9 {x:A0}:x.lx (fun i=>i)=x:=by
 cases x with
 |s x=>simp [A0.lx,SV.u9]
 |a l=>simp [A0.lx,Y9]
theorem Y8:∀ {l:List A0},BE (fun i=>i) l=l
 |[]=>rfl
 |x::l=>by simp [BE,A0.u9,Y8 (l:=l)]
theorem ZA:∀ {l:List (Nat×Nat)},BG (fun i=>i) l=l
 |[]=>rfl
 |p::l=>by simp [BG,ZA (l:=l)]
theorem AV.u9 {x:AV}:x.lx (fun i=>i)=x:=by
 cases x with
 |o x=>simp [AV.lx,A0.u9]
 |t l=>simp [AV.lx,Y8]
 |fn f l=>simp [AV.lx,ZA]
 |_=>rfl
theorem AV.acW {x:AV} (h:∀i∈x.boxes,β' i=β i) {v:Value} (hr:x.rel T β v):x.rel T β' v:=by
 have:=AV.np (g:=fun i=>i) h hr
 rwa [AV.u9] at this
theorem AV.YC {x:AV} (h:∀i∈x.boxes,β' i=β i) {cs:Array Value} (hr:x.rN T β cs):x.rN T β' cs:=by
 have:=AV.FQ (g:=fun i=>i) h hr
 rwa [AV.u9] at this
theorem SV.fY {x:SV} {i:Nat} (h:i∈(x.lx g).boxes):∃j∈x.boxes,i=g j:=by
 cases x<;>simp [SV.lx,SV.boxes] at h ⊢ <;>exact h
theorem GY {i:Nat}:∀ {l:List SV},i∈bX (BF g l)→∃j∈bX l,i=g j
 |[],h=>by simp [BF,bX] at h
 |x::l,h=>by
  simp only [BF,bX,List.mem_append] at h
  rcases h with h |h
  ·obtain ⟨j,hj,e⟩:=SV.fY h;exact ⟨j,by simp [bX,hj],e⟩
  ·obtain ⟨j,hj,e⟩:=GY h;exact ⟨j,by simp [bX,hj],e⟩
theorem A0.fY {x:A0} {i:Nat} (h:i∈(x.lx g).boxes):∃j∈x.boxes,i=g j:=by
 cases x with
 |s x=>exact SV.fY h
 |a l=>exact GY h
theorem GX {i:Nat}:∀ {l:List A0},i∈eN (BE g l)→∃j∈eN l,i=g j
 |[],h=>by simp [BE,eN] at h
 |x::l,h=>by
  simp only [BE,eN,List.mem_append] at h
  rcases h with h |h
  ·obtain ⟨j,hj,e⟩:=A0.fY h;exact ⟨j,by simp [eN,hj],e⟩
  ·obtain ⟨j,hj,e⟩:=GX h;exact ⟨j,by simp [eN,hj],e⟩
theorem GZ {i:Nat}:∀ {l:List (Nat×Nat)},i∈jA (BG g l)→∃j∈jA l,i=g j
 |[],h=>by simp [BG,jA] at h
 |p::l,h=>by
  simp only [BG,jA,List.mem_cons] at h
  rcases h with h |h
  ·exact ⟨p.1,by simp [jA],h⟩
  ·obtain ⟨j,hj,e⟩:=GZ h;exact ⟨j,by simp [jA,hj],e⟩
theorem AV.fY {x:AV} {i:Nat} (h:i∈(x.lx g).boxes):∃j∈x.boxes,i=g j:=by
 cases x with
 |o x=>exact A0.fY h
 |t l=>exact GX h
 |fn f l=>exact GZ h
 |rs ek l=>simp [AV.lx,AV.boxes] at h
 |zz=>simp [AV.lx,AV.boxes] at h
end
section
variable {T:a7} {β:Nat→Nat}
theorem kf:∀ {l:List SV} {cs:List Value},ee T β l cs→l.length=cs.length
 |[],[],_=>rfl
 |_::_,[],h=>h.elim
 |[],_::_,h=>h.elim
 |_::l,_::cs,h=>by simp [kf h.2]
theorem tb:∀ {l:List SV} {cs:List Value},ee T β l cs→∀ {i:Nat} {x:SV},l[i]?=some x→∃v,cs[i]?=some v∧x.rel T β v
 |[],[],_,i,x,hx=>by simp at hx
 |_::_,[],h,_,_,_=>h.elim
 |[],_::_,h,_,_,_=>h.elim
 |y::l,v::cs,h,i,x,hx=>by
  cases i with
  |zero=>simp at hx;subst hx;exact ⟨v,by simp,h.1⟩
  |succ i=>simpa using tb h.2 (by simpa using hx)
theorem wA:∀ {l:List SV} {cs:List Value} (n:Nat),ee T β l cs→ee T β (l.take n) (cs.take n)
 |_,_,0,_=>by simp [ee]
 |[],[],_,_=>by simp [ee]
 |_::_,[],_,h=>h.elim
 |[],_::_,_,h=>h.elim
 |_::l,_::cs,n+1,h=>⟨h.1,wA n h.2⟩
theorem wB:∀ {l:List SV} {cs:List Value} (n:Nat),ee T β l cs→ee T β (l.drop n) (cs.drop n)
 |_,_,0,h=>by simpa using h
 |[],[],_,_=>by simp [ee]
 |_::_,[],_,h=>h.elim
 |[],_::_,_,h=>h.elim
 |_::l,_::cs,n+1,h=>by simpa using wB n h.2
theorem ZB:∀ {l:List A0} {cs:List Value},uE T β l cs→∀ {i:Nat} {x:A0},l[i]?=some x→∃v,cs[i]?=some v∧x.rel T β v
 |[],[],_,i,x,hx=>by simp at hx
 |_::_,[],h,_,_,_=>h.elim
 |[],_::_,h,_,_,_=>h.elim
 |y::l,v::cs,h,i,x,hx=>by
  cases i with
  |zero=>simp at hx;subst hx;exact ⟨v,by simp,h.1⟩
  |succ i=>simpa using ZB h.2 (by simpa using hx)
theorem RL:∀ {l:List A0} {cs:List Value},uE T β l cs→l.length=cs.length
 |[],[],_=>rfl
 |_::_,[],h=>h.elim
 |[],_::_,h=>h.elim
 |_::l,_::cs,h=>by simp [RL h.2]
theorem CP.U5 (c:CP) (x:c.Ty):(c.sv x).rel T β (c.val x):=by cases c<;>rfl
theorem EK.E1:∀(ek:List CP) (x:EK.Ty ek),ee T β (EK.AU ek x) (EK.cells ek x)
 |[],_=>trivial
 |[c],x=>⟨c.U5 x,trivial⟩
 |c::d::l,x=>⟨c.U5 x.1,EK.E1 (d::l) x.2⟩
theorem EK.A4:∀(ek:List CP) (x:EK.Ty ek),bX (EK.AU ek x)=[]
 |[],_=>rfl
 |[c],x=>by cases c<;>rfl
 |c::d::l,x=>by
  have:=EK.A4 (d::l) x.2
  cases c<;>simp [EK.AU,bX,CP.sv,SV.boxes,this]
end
inductive fC where
 |s (n:Nat)
 |b (n:Nat)
 deriving DecidableEq
def fC.beq:fC→fC→Bool
 | .s m, .s n=>Nat.beq m n
 | .b m, .b n=>Nat.beq m n
 |_,_=>false
theorem fC.beq_iff {x y:fC}:x.beq y=true↔x=y:=by
 cases x<;>cases y<;>simp [fC.beq]
theorem fC.beq_false {x y:fC}:x.beq y=false↔x≠y:=by
 rw [←Bool.not_eq_true,ne_eq,fC.beq_iff]
theorem fC.US (x:fC):x.beq x=true:=fC.beq_iff.2 rfl
abbrev St:=fC→Option AV
abbrev AM:=List (fC×AV)
def St.ap (τ:St):AM→St
 |[]=>τ
 |(k,v)::u=>fun r=>bif fC.beq k r then some v else St.ap τ u r
def agree (R:List fC) (τ τ':St):Prop:=∀r∈R,τ r=τ' r
theorem St.wi {τ:St} {u:AM} {r:fC} (h:∀p∈u,p.1≠r):τ.ap u r=τ r:=by
 induction u with
 |nil=>rfl
 |cons p u ih=>
  obtain ⟨k,v⟩:=p
  have hk:fC.beq k r=false:=fC.beq_false.2 (h (k,v) (by simp))
  show (bif fC.beq k r then some v else St.ap τ u r)=_
  rw [hk]
  exact ih fun p hp=>h p (by simp [hp])
theorem St.AL {τ:St} {u:AM} {r:fC}:(∃v,τ.ap u r=some v∧(r,v)∈u)∨(τ.ap u r=τ r∧∀p∈u,p.1≠r):=by
 induction u with
 |nil=>exact .inr ⟨rfl,fun _ h=>by cases h⟩
 |cons p u ih=>
  obtain ⟨k,v⟩:=p
  cases hk:fC.beq k r with
  |true=>
   obtain rfl:=fC.beq_iff.1 hk
   exact .inl ⟨v,by show (bif fC.beq k k then some v else St.ap τ u k)=_;rw [hk];rfl,by simp⟩
  |false=>
   have e:St.ap τ ((k,v)::u) r=St.ap τ u r:=by
    show (bif fC.beq k r then some v else St.ap τ u r)=_
    rw [hk];rfl
   rcases ih with ⟨x,hx,hm⟩ |⟨hx,hn⟩
   ·exact .inl ⟨x,by rw [e,hx],by simp [hm]⟩
   ·refine .inr ⟨by rw [e,hx],fun p hp=>?_⟩
    rcases List.mem_cons.1 hp with rfl |hp
    ·exact fC.beq_false.1 hk
    ·exact hn p hp
theorem St.aaG {τ τ':St} {r:fC}:∀ {v:AM},(∃p∈v,p.1=r)→τ.ap v r=τ'.ap v r:=by
 intro v
 induction v with
 |nil=>intro ⟨p,hp,_⟩;cases hp
 |cons p v ih=>
  obtain ⟨k,z⟩:=p
  intro hex
  show (bif fC.beq k r then some z else St.ap τ v r)=(bif fC.beq k r then some z else St.ap τ' v r)
  cases hk:fC.beq k r with
  |true=>rfl
  |false=>
   refine ih ?_
   obtain ⟨p,hp,e⟩:=hex
   rcases List.mem_cons.1 hp with rfl |hp
   ·exact absurd e (fC.beq_false.1 hk)
   ·exact ⟨p,hp,e⟩
theorem St.agD {τ:St} {u v:AM} (h:∀p∈u,∀q∈v,p.1≠q.1):(τ.ap u).ap v=(τ.ap v).ap u:=by
 funext r
 rcases St.AL (τ:=τ.ap u) (u:=v) (r:=r) with ⟨x,hx,hm⟩ |⟨hx,hn⟩
 ·have hu:∀p∈u,p.1≠r:=fun p hp e=>h p hp _ hm e
  rw [St.wi hu]
  exact St.aaG ⟨_,hm,rfl⟩
 ·rw [hx]
  rcases St.AL (τ:=τ.ap v) (u:=u) (r:=r) with ⟨y,hy,hm⟩ |⟨hy,hn'⟩
  ·exact St.aaG ⟨_,hm,rfl⟩
  ·rw [hy,St.wi hn,St.wi hn']
theorem afD {R:List fC} {τ:St} {u:AM} (h:∀p∈u,p.1∉R):agree R (τ.ap u) τ:=fun _ hr=>
 St.wi fun p hp e=>h p hp (e ▸ hr)
def X7 (x y:List fC):Bool:=x.all fun r=>y.all fun q=> !fC.beq r q
def indep (R W R' W':List fC):Bool:=X7 W R'&&X7 W W'&&X7 W' R
theorem FO {x y:List fC} (h:X7 x y=true) {r q:fC} (hr:r∈x) (hq:q∈y):r≠q:=by
 have:=List.all_eq_true.1 (List.all_eq_true.1 h r hr) q hq
 exact fC.beq_false.1 (by simpa using this)
end GL
namespace GL
def uB:List (Nat×(Array Value→Prop)):=
 (0,fun cs=>∃n,cs= #[.int .i64 n])::
 (3,fun cs=>∃t v,cs= #[.iface t v])::
 (4,fun cs=>∃t v,cs= #[.iface t v])::
 (5,fun cs=>cs=(Lib.pow10Tab.map fun z=>Value.int .u64 z).toArray)::
 []
end GL
namespace GL
def free (fr:Nat×Nat) (n:Nat):Prop:=fr.1=fr.2∨(n≤fr.1∧fr.1≤fr.2)
theorem I5 (n:Nat):free (0,0) n:=.inl rfl
theorem agk {fr:Nat×Nat} {n:Nat} (h:free fr n):∀i,i < n→(decide (fr.1≤i)&&decide (i < fr.2))=false:=by
 intro i hi
 rw [Bool.and_eq_false_iff]
 simp only [decide_eq_false_iff_not]
 rcases h with h |h<;>omega
def agI (ek:EK) (n:Nat) (l:List (EK.Ty ek)) (cs:Array Value):Prop:=l.length=n∧(∀x∈l,EK.ok ek x)∧cs.toList=flat ek l
def BK.holds (w:World) (b:Nat):BK→Prop
 | .ty ek n=>ek≠[]∧∃cs e fr l,w.heap[b]?=some (.cells cs e fr)∧free fr cs.size∧agI ek n l cs
 | .ro cs e fr=>w.heap[b]?=some (.cells cs e fr)
 | .ln cs e fr=>w.heap[b]?=some (.cells cs e fr)
 | .fz ek n cs=>ek≠[]∧∃e fr l,w.heap[b]?=some (.cells cs e fr)∧free fr cs.size∧agI ek n l cs
 | .bx n=>∃cs e,w.heap[b]?=some (.cells cs e (0,0))∧cs.size=n
def BK.un:BK→BK
 | .fz ek n _=>.ty ek n
 |k=>k
def WT (T:a7) (w:World):Prop:=∀b k,T b=some k→k.holds w b
theorem BK.lt {w:World} {b:Nat} {k:BK} (h:k.holds w b):b < w.heap.size:=by
 cases k with
 |ty ek n=>obtain ⟨_,cs,e,fr,l,h,_⟩:=h;exact (Array.getElem?_eq_some_iff.1 h).1
 |ro cs e fr=>exact (Array.getElem?_eq_some_iff.1 h).1
 |ln cs e fr=>exact (Array.getElem?_eq_some_iff.1 h).1
 |fz ek n cs=>obtain ⟨_,e,fr,l,h,_⟩:=h;exact (Array.getElem?_eq_some_iff.1 h).1
 |bx n=>obtain ⟨cs,e,h,_⟩:=h;exact (Array.getElem?_eq_some_iff.1 h).1
theorem BK.sw {w w':World} {b:Nat} {k:BK} (h:k.holds w b) (e:w'.heap[b]?=w.heap[b]?):k.holds w' b:=by
 cases k with
 |ty ek n=>exact ⟨h.1,by rw [e];exact h.2⟩
 |ro cs e' fr=>show w'.heap[b]?=_;rw [e];exact h
 |ln cs e' fr=>show w'.heap[b]?=_;rw [e];exact h
 |fz ek n cs=>exact ⟨h.1,by rw [e];exact h.2⟩
 |bx n=>show∃cs e,_∧_;rw [e];exact h
theorem E6 {T:a7} {w:World} (h:WT T w) {b:Nat} {cs:Array Value} (hr:rdT T b cs):∃e fr,w.heap[b]?=some (.cells cs e fr):=by
 rcases hr with ⟨e,fr,h1⟩ |⟨e,fr,h1⟩ |⟨ek,n,h1⟩
 ·exact ⟨e,fr,h _ _ h1⟩
 ·exact ⟨e,fr,h _ _ h1⟩
 ·obtain ⟨_,e,fr,l,h2,_⟩:=h _ _ h1;exact ⟨e,fr,h2⟩
structure Ctx where
 W:World
 T:a7
 H:List Nat
def quiet:Option BK→Prop
 |none=>True
 |some (.bx _)=>True
 |_=>False
def live (τ:St) (i:Nat):Prop:=match τ (.b i) with
 |none=>False
 |some .zz=>False
 |_=>True
theorem kB {τ:St} {i:Nat} (h:live τ i):τ (.b i)≠none:=fun e=>by simp only [live,e] at h
theorem ey {τ:St} {i:Nat} {av:AV} (h:τ (.b i)=some av) (hz:av≠.zz):live τ i:=by
 unfold live
 rw [h]
 cases av<;>first |trivial |exact absurd rfl hz
def aiV (c:Ctx) (i b:Nat):Prop:=(i < 1000→b∈c.H)∧(1000≤i→i < 1000000000→c.W.heap.size≤b)∧(c.W.heap.size≤b∨b∈c.H)
def YS (T:a7):Prop:=∀g∈uB,∃cs e fr,T g.1=some (.ro cs e fr)∧g.2 cs
theorem YS.mono {T T':a7} (h:uR T T') (hg:YS T):YS T':=fun g hm=>by
 obtain ⟨cs,e,fr,h1,h2⟩:=hg g hm
 exact ⟨cs,e,fr,h _ _ h1,h2⟩
structure Holds (N:Nat) (c:Ctx) (T:a7) (β:Nat→Nat) (τ:St) (a:Act) (w:World):Prop where
 defs:a.defers=[]
 size:a.tmps.size=N
 D8:c.H.length≤1000
 iC:∀i av,τ (.s i)=some av→∃v,a.tmps[i]?=some v∧av.rel T β v
 boxes:∀i av,τ (.b i)=some av→av≠.zz→∃cs e,w.heap[β i]?=some (.cells cs e (0,0))∧av.rN T β cs
 apart:∀i,live τ i→(∃n,T (β i)=some (.bx n))∧aiV c i (β i)
 handed:∀i b,c.H[i]?=some b→live τ i→β i=b
 inj:∀i j,live τ i→live τ j→β i=β j→i=j
 named:∀r av,τ r=some av→∀i∈av.boxes,τ (.b i)≠none
 typed:WT T w
 old:∀b,b < c.W.heap.size→(T b).map BK.un=c.T b
 frame:∀b,b < c.W.heap.size→b∉c.H→quiet (c.T b)→w.heap[b]?=c.W.heap[b]?
 gG:c.W.heap.size≤w.heap.size
 os:w.os=c.W.os
 tape:w.tape=c.W.tape
 output:w.output=c.W.output
 qF:YS T
def Rel (N:Nat) (c:Ctx) (τ:St) (a:Act) (w:World):Prop:=∃T β,Holds N c T β τ a w
section
variable {N:Nat} {c:Ctx} {T:a7} {β:Nat→Nat} {τ:St} {a:Act} {w w':World}
theorem Holds.drew (h:Holds N c T β τ a w):Holds N c T β τ a { w with drawn:=w.drawn+1 }:=
 {h with
  boxes:=h.boxes
  typed:=fun b k hb=>BK.sw (h.typed b k hb) rfl
  frame:=h.frame }
theorem Rel.drew (h:Rel N c τ a w):Rel N c τ a { w with drawn:=w.drawn+1 }:=by
 obtain ⟨T,β,h⟩:=h
 exact ⟨T,β,h.drew⟩
theorem ui {r q:fC} {av:AV}:(τ.ap [(r,av)]) q=if q=r then some av else τ q:=by
 show (bif fC.beq r q then some av else τ q)=_
 by_cases e:q=r
 ·subst e;rw [fC.US,if_pos rfl];rfl
 ·rw [fC.beq_false.2 (fun h=>e h.symm),if_neg e];rfl
theorem wJ {d:Nat} {av:AV} {i:Nat}:live (τ.ap [(.s d,av)]) i=live τ i:=by
 unfold live
 rw [ui,if_neg (by simp)]
theorem Holds.put (h:Holds N c T β τ a w) {d:Nat} (hd:d < N) {av:AV} {v:Value}
  (hav:av.rel T β v) (hsc:∀i∈av.boxes,τ (.b i)≠none)
  :Holds N c T β (τ.ap [(.s d,av)]) (a.put (some d) v) w where
 defs:=h.defs
 size:=by simp [Act.put,h.size]
 D8:=h.D8
 iC:=fun i x hx=>by
  rw [ui] at hx
  by_cases e:i=d
  ·subst e
   rw [if_pos rfl] at hx;cases hx
   refine ⟨v,?_,hav⟩
   simp [Act.put,h.size,hd]
  ·rw [if_neg (by simp [e])] at hx
   obtain ⟨y,hy,hr⟩:=h.iC i x hx
   refine ⟨y,?_,hr⟩
   simp only [Act.put]
   rw [Array.getElem?_setIfInBounds_ne (by omega)]
   exact hy
 boxes:=fun i x hx=>h.boxes i x (by rwa [ui,if_neg (by simp)] at hx)
 apart:=fun i hi=>h.apart i (by rwa [wJ] at hi)
 handed:=fun i b hb h0=>h.handed i b hb (by rwa [wJ] at h0)
 inj:=fun i j hi hj e=>h.inj i j (by rwa [wJ] at hi) (by rwa [wJ] at hj) e
 named:=fun r x hx i hi=>by
  rw [ui,if_neg (by simp)]
  rw [ui] at hx
  by_cases e:r= .s d
  ·rw [if_pos e] at hx;cases hx;exact hsc i hi
  ·rw [if_neg e] at hx;exact h.named r x hx i hi
 typed:=h.typed
 old:=h.old
 frame:=h.frame
 gG:=h.gG
 os:=h.os
 tape:=h.tape
 output:=h.output
 qF:=h.qF
def GN (x:Option AV):AV→Prop
 | .o (.s (.q c))=>match x with
  |some (.o (.s (.v (.bool b))))=>b=c
  |x=>x=some (.o (.s (.q c)))
 |y=>x=some y
theorem VD {y:AV}:GN (some y) y:=by
 unfold GN
 split
 ·split
  ·rename_i h;cases h
  ·rfl
 ·rfl
theorem aaS {x:Option AV} {y:AV} (h:GN x y):∃z,x=some z∧∀ {T:a7} {β:Nat→Nat} {v:Value},z.rel T β v→y.rel T β v:=by
 unfold GN at h
 split at h
 ·split at h
  ·rename_i b
   subst h
   exact ⟨_,rfl,fun hr=>hr⟩
  ·exact ⟨_,h,fun hr=>hr⟩
 ·exact ⟨_,h,fun hr=>hr⟩
structure Sub (σ:Nat→Nat) (τ' τ:St):Prop where
 slot:∀i av,τ' (.s i)=some av→GN (τ (.s i)) (av.lx σ)
 box:∀i av,τ' (.b i)=some av→τ (.b (σ i))=some (av.lx σ)
 named:∀r av,τ' r=some av→∀i∈av.boxes,τ' (.b i)≠none
 inj:∀i j,τ' (.b i)≠none→τ' (.b j)≠none→σ i=σ j→i=j
 low:∀i,τ' (.b i)≠none→σ i=i∨((1000≤i∧i < 1000000000)∧1000≤σ i∧σ i < 1000000000)∨1000000000≤i
theorem acT {g:Nat→Nat} {av:AV} (h:av≠.zz):av.lx g≠.zz:=by
 cases av with
 |zz=>exact absurd rfl h
 |o x=>intro e;cases e
 |t l=>intro e;cases e
 |rs ek l=>intro e;cases e
 |fn f l=>intro e;cases e
theorem SV.pH {σ:Nat→Nat} {x:SV} {v:Value} (hr:(x.lx σ).rel T β v):x.rel T (fun i=>β (σ i)) v:=by
 cases x<;>exact hr
theorem BL {σ:Nat→Nat}:∀ {l:List SV} {cs:List Value},ee T β (BF σ l) cs→ee T (fun i=>β (σ i)) l cs
 |[],[],_=>trivial
 |_::_,[],h'=>h'.elim
 |[],_::_,h'=>h'.elim
 |_::_,_::_,h'=>⟨SV.pH h'.1,BL h'.2⟩
theorem A0.pH {σ:Nat→Nat} {x:A0} {v:Value} (hr:(x.lx σ).rel T β v):x.rel T (fun i=>β (σ i)) v:=by
 cases x with
 |s x=>exact SV.pH hr
 |a l=>obtain ⟨cs,e,hl⟩:=hr;exact ⟨cs,e,BL hl⟩
theorem LL {σ:Nat→Nat}:∀ {l:List A0} {cs:List Value},uE T β (BE σ l) cs→uE T (fun i=>β (σ i)) l cs
 |[],[],_=>trivial
 |_::_,[],h'=>h'.elim
 |[],_::_,h'=>h'.elim
 |_::_,_::_,h'=>⟨A0.pH h'.1,LL h'.2⟩
theorem NL {σ:Nat→Nat}:∀ {l:List (Nat×Nat)},EW β (BG σ l)=EW (fun i=>β (σ i)) l
 |[]=>rfl
 |p::l=>by simp only [EW,BG];rw [NL]
theorem AV.pH {σ:Nat→Nat} {x:AV} {v:Value} (hr:(x.lx σ).rel T β v):x.rel T (fun i=>β (σ i)) v:=by
 cases x with
 |o x=>exact A0.pH hr
 |t l=>obtain ⟨cs,e,hl⟩:=hr;exact ⟨cs,e,LL hl⟩
 |rs ek l=>exact hr
 |zz=>exact hr
 |fn f l=>obtain ⟨cs,e,hl⟩:=hr;exact ⟨cs,e,hl.trans NL⟩
theorem AV.afh {σ:Nat→Nat} {x:AV} {cs:Array Value} (hr:(x.lx σ).rN T β cs):x.rN T (fun i=>β (σ i)) cs:=by
 cases x with
 |o x=>
  cases x with
  |s x=>exact hr
  |a l=>exact BL hr
 |_=>exact hr
theorem Sub.live {σ:Nat→Nat} {τ':St} (h:Sub σ τ' τ) {i:Nat} (hl:live τ' i):GL.live τ (σ i):=by
 cases hb:τ' (.b i) with
 |none=>exact absurd hb (kB hl)
 |some av=>
  refine ey (h.box i av hb) (acT fun e=>?_)
  subst e
  unfold GL.live at hl
  rw [hb] at hl
  exact hl
theorem Rel.sub {σ:Nat→Nat} {τ':St} (h:Sub σ τ' τ) (hr:Rel N c τ a w):Rel N c τ' a w:=by
 obtain ⟨T,β,hh⟩:=hr
 refine ⟨T,fun i=>β (σ i),{ hh with
  iC:=fun i av hs=>by
   obtain ⟨z,hz,hzr⟩:=aaS (h.slot i av hs)
   obtain ⟨v,hv,hr⟩:=hh.iC i _ hz
   exact ⟨v,hv,AV.pH (hzr hr)⟩
  boxes:=fun i av hs hz=>by
   obtain ⟨cs,e,h1,h2⟩:=hh.boxes _ _ (h.box i av hs) (acT hz)
   exact ⟨cs,e,h1,AV.afh h2⟩
  apart:=fun i hi=>by
   obtain ⟨h1,h2,h3,h4⟩:=hh.apart _ (h.live hi)
   refine ⟨h1,fun h5=>?_,fun h5 h6=>?_,h4⟩
   ·rcases h.low i (kB hi) with e |e |e
    ·exact h2 (by omega)
    ·omega
    ·omega
   ·rcases h.low i (kB hi) with e |e |e
    ·exact h3 (by omega) (by omega)
    ·exact h3 e.2.1 e.2.2
    ·omega
  handed:=fun i b hb hi=>by
   have bM:i < c.H.length:=(List.getElem?_eq_some_iff.1 hb).1
   have CS:=h.live hi
   rcases h.low i (kB hi) with e |e |e
   ·show β (σ i)=b
    rw [e] at CS ⊢
    exact hh.handed i b hb CS
   ·exact absurd hh.D8 (by omega)
   ·exact absurd hh.D8 (by omega)
  inj:=fun i j hi hj e=>h.inj i j (kB hi) (kB hj) (hh.inj _ _ (h.live hi) (h.live hj) e)
  named:=h.named }⟩
structure QB (w:World) (b:Nat) (o:Obj) (w':World):Prop where
 at_:w'.heap[b]?=some o
 other:∀k,k≠b→w'.heap[k]?=w.heap[k]?
 size:w'.heap.size=w.heap.size
 os:w'.os=w.os
 tape:w'.tape=w.tape
 output:w'.output=w.output
theorem Holds.lt (h:Holds N c T β τ a w) {i:Nat} (hi:live τ i):β i < w.heap.size:=by
 obtain ⟨⟨n,hn⟩,_⟩:=h.apart i hi
 exact BK.lt (h.typed _ _ hn)
theorem Holds.Y4 (h:Holds N c T β τ a w) {i n:Nat} {cs:Array Value} {e:TypeId} {fr:Nat×Nat} (hn:T (β i)=some (.bx n)) (hb:w.heap[β i]?=some (.cells cs e fr)):cs.size=n:=by
 obtain ⟨mg,e',h1,h2⟩:=h.typed _ _ hn
 rw [hb] at h1
 cases h1
 exact h2
theorem lj {j:Nat} {av:AV} {i:Nat} (h:live (τ.ap [(.b j,av)]) i):i=j∨(i≠j∧live τ i):=by
 by_cases e:i=j
 ·exact .inl e
 ·unfold live at h
  rw [ui,if_neg (by simp [e])] at h
  exact .inr ⟨e,h⟩
theorem Holds.DG (h:Holds N c T β τ a w) {i:Nat} {av:AV} {cs mg:Array Value} {e e':TypeId} (hi:live τ i) (ho:w.heap[β i]?=some (.cells cs e (0,0))) (hw:QB w (β i) (.cells mg e' (0,0)) w') (db:mg.size=cs.size) (hl:av.rN T β mg) (hsc:∀j∈av.boxes,τ (.b j)≠none):
  Holds N c T β (τ.ap [(.b i,av)]) a w':=by
 have age:∀r,τ r≠none→(τ.ap [(.b i,av)]) r≠none:=by
  intro r hr
  rw [ui]
  split
  ·simp
  ·exact hr
 have FH:∀k,live (τ.ap [(.b i,av)]) k→live τ k:=fun k hk=>by
  rcases lj hk with rfl |⟨_,h⟩
  ·exact hi
  ·exact h
 obtain ⟨⟨n,hn⟩,oa⟩:=h.apart i hi
 have j7:=h.Y4 hn ho
 exact {
  defs:=h.defs
  size:=h.size
  D8:=h.D8
  iC:=fun k x hk=>h.iC k x (by rwa [ui,if_neg (by simp)] at hk)
  boxes:=fun k x hk hz=>by
   rw [ui] at hk
   by_cases ek:k=i
   ·subst ek
    rw [if_pos rfl] at hk;cases hk
    exact ⟨mg,e',hw.at_,hl⟩
   ·rw [if_neg (by simp [ek])] at hk
    obtain ⟨ds,e2,h2,h3⟩:=h.boxes k x hk hz
    refine ⟨ds,e2,?_,h3⟩
    rw [hw.other _ (fun he=>ek (h.inj k i (ey hk hz) hi he))]
    exact h2
  apart:=fun k hk=>h.apart k (FH k hk)
  handed:=fun k b hb h0=>h.handed k b hb (FH k h0)
  inj:=fun k j hk hj e=>h.inj k j (FH k hk) (FH j hj) e
  named:=fun r x hr k hk=>by
   refine age _ ?_
   rw [ui] at hr
   by_cases e:r= .b i
   ·rw [if_pos e] at hr;cases hr;exact hsc k hk
   ·rw [if_neg e] at hr;exact h.named r x hr k hk
  typed:=fun b k hb=>by
   by_cases e:b=β i
   ·subst e
    rw [hn] at hb;cases hb
    exact ⟨mg,e',hw.at_,db.trans j7⟩
   ·exact BK.sw (h.typed b k hb) (hw.other b e)
  old:=h.old
  frame:=fun b hb hH hq=>by
   have fq:b≠β i:=fun e=>by
    rcases oa.2.2 with h1 |h1
    ·omega
    ·rw [e] at hH;exact hH h1
   rw [hw.other b fq]
   exact h.frame b hb hH hq
  gG:=by rw [hw.size];exact h.gG
  os:=hw.os.trans h.os
  tape:=hw.tape.trans h.tape
  output:=hw.output.trans h.output
  qF:=h.qF }
theorem Holds.uQ (h:Holds N c T β τ a w) {b:Nat} {ek:EK} {n:Nat} (hb:T b=some (.ty ek n)) {cs:Array Value} {e:TypeId} {fr:Nat×Nat} {l:List (EK.Ty ek)} (hw:QB w b (.cells cs e fr) w') (j6:free fr cs.size) (cq:agI ek n l cs):
  Holds N c T β τ a w':=
 {h with
  boxes:=fun k x hk hz=>by
   obtain ⟨mg,e',h2,h3⟩:=h.boxes k x hk hz
   refine ⟨mg,e',?_,h3⟩
   rw [hw.other _ (fun he=>by obtain ⟨n',hn'⟩:=(h.apart k (ey hk hz)).1;rw [he,hb] at hn';cases hn')]
   exact h2
  typed:=fun b' k hb'=>by
   by_cases he:b'=b
   ·subst he
    rw [hb] at hb';cases hb'
    exact ⟨(h.typed b' _ hb).1,cs,e,fr,l,hw.at_,j6,cq⟩
   ·exact BK.sw (h.typed b' k hb') (hw.other b' he)
  frame:=fun k hk hH hq=>by
   have fq:k≠b:=fun e=>by
    subst e
    have:=h.old k hk
    rw [hb] at this
    rw [←this] at hq
    exact hq
   rw [hw.other k fq]
   exact h.frame k hk hH hq
  gG:=by rw [hw.size];exact h.gG
  os:=hw.os.trans h.os
  tape:=hw.tape.trans h.tape
  output:=hw.output.trans h.output
  qF:=h.qF }
structure oG (w:World) (o:Obj) (w':World):Prop where
 heap:w'.heap=w.heap.push o
 os:w'.os=w.os
 tape:w'.tape=w.tape
 output:w'.output=w.output
theorem oG.old {o:Obj} (h:oG w o w') {k:Nat} (hk:k < w.heap.size):w'.heap[k]?=w.heap[k]?:=by
 rw [h.heap,Array.getElem?_push,if_neg (by omega)]
theorem oG.new {o:Obj} (h:oG w o w'):w'.heap[w.heap.size]?=some o:=by
 rw [h.heap,Array.getElem?_push,if_pos rfl]
theorem oG.size {o:Obj} (h:oG w o w'):w'.heap.size=w.heap.size+1:=by rw [h.heap];simp
def oo (β:Nat→Nat) (d n:Nat):Nat→Nat:=fun i=>if i=d then n else β i
def xi (T:a7) (b:Nat) (k:BK):a7:=fun i=>if i=b then some k else T i
theorem K9 {b:Nat} (hT:T b=none) {k:BK}:uR T (xi T b k):=fun i k' hi=>by
 unfold xi
 by_cases e:i=b
 ·subst e;rw [hT] at hi;cases hi
 ·rw [if_neg e];exact hi
theorem WT.fresh (h:WT T w):T w.heap.size=none:=by
 cases hT:T w.heap.size with
 |none=>rfl
 |some k=>exact absurd (BK.lt (h _ k hT)) (by omega)
theorem Holds.CA (h:Holds N c T β τ a w) {k:BK} {o:Obj} (hp:oG w o w') (hk:k.holds w' w.heap.size):
  Holds N c (xi T w.heap.size k) β τ a w':=by
 have zT:uR T (xi T w.heap.size k):=K9 h.typed.fresh
 exact {
  defs:=h.defs
  size:=h.size
  D8:=h.D8
  iC:=fun i av hi=>by obtain ⟨v,hv,hr⟩:=h.iC i av hi;exact ⟨v,hv,AV.nJ zT hr⟩
  boxes:=fun i av hi hz=>by
   obtain ⟨mg,e',h2,h3⟩:=h.boxes i av hi hz
   exact ⟨mg,e',by rw [hp.old (h.lt (ey hi hz))];exact h2,AV.JR zT h3⟩
  apart:=fun i hi=>by
   obtain ⟨⟨n,hn⟩,ho⟩:=h.apart i hi
   exact ⟨⟨n,zT _ _ hn⟩,ho⟩
  handed:=h.handed
  inj:=h.inj
  named:=h.named
  typed:=fun b k' hb=>by
   unfold xi at hb
   by_cases he:b=w.heap.size
   ·rw [if_pos he] at hb;cases hb
    subst he
    exact hk
   ·rw [if_neg he] at hb
    have hb':=h.typed b k' hb
    exact BK.sw hb' (hp.old (BK.lt hb'))
  old:=fun b hb=>by
   have:xi T w.heap.size k b=T b:=by unfold xi;rw [if_neg (by have:=h.gG;omega)]
   rw [this]
   exact h.old b hb
  frame:=fun b hb hH hq=>by
   rw [hp.old (Nat.lt_of_lt_of_le hb h.gG)]
   exact h.frame b hb hH hq
  gG:=by rw [hp.size];have:=h.gG;omega
  os:=hp.os.trans h.os
  tape:=hp.tape.trans h.tape
  output:=hp.output.trans h.output
  qF:=h.qF.mono zT }
theorem Holds.S1 (h:Holds N c T β τ a w) {d b n:Nat} {av:AV} {cs:Array Value} {e:TypeId} (hd:1000≤d) (uA:τ (.b d)=none) (hT:T b=some (.bx n)) (vF:aiV c d b) (hun:∀i,live τ i→β i≠b) (hb:w.heap[b]?=some (.cells cs e (0,0)))
  (hl:av.rN T β cs) (hsc:∀j∈av.boxes,τ (.b j)≠none):Holds N c T (oo β d b) (τ.ap [(.b d,av)]) a w:=by
 have agc:∀(r:fC) (av:AV),τ r=some av→d∉av.boxes:=fun r av hr hm=>h.named r av hr d hm uA
 have hβ:∀i,i≠d→oo β d b i=β i:=fun i hi=>by unfold oo;rw [if_neg hi]
 have hβd:oo β d b d=b:=by unfold oo;rw [if_pos rfl]
 have hnd:d∉av.boxes:=fun hm=>hsc d hm uA
 have xE:∀ {x:AV},d∉x.boxes→∀i∈x.boxes,oo β d b i=β i:=fun hx i hi=>hβ i fun e=>hx (e ▸ hi)
 exact {
  defs:=h.defs
  size:=h.size
  D8:=h.D8
  iC:=fun i x hi=>by
   rw [ui,if_neg (by simp)] at hi
   obtain ⟨v,hv,hr⟩:=h.iC i x hi
   exact ⟨v,hv,AV.acW (xE (agc _ _ hi)) hr⟩
  boxes:=fun i x hi hz=>by
   rw [ui] at hi
   by_cases ei:i=d
   ·subst ei
    rw [if_pos rfl] at hi;cases hi
    exact ⟨cs,e,by rw [hβd];exact hb,AV.YC (xE hnd) hl⟩
   ·rw [if_neg (by simp [ei])] at hi
    obtain ⟨mg,e',h2,h3⟩:=h.boxes i x hi hz
    exact ⟨mg,e',by rw [hβ i ei];exact h2,AV.YC (xE (agc _ _ hi)) h3⟩
  apart:=fun i hi=>by
   rcases lj hi with rfl |⟨e,CS⟩
   ·rw [hβd];exact ⟨⟨n,hT⟩,vF⟩
   ·rw [hβ i e];exact h.apart i CS
  handed:=fun i b' hb' hi=>by
   rcases lj hi with rfl |⟨e,CS⟩
   ·have:i < c.H.length:=(List.getElem?_eq_some_iff.1 hb').1
    exact absurd h.D8 (by omega)
   ·rw [hβ i e];exact h.handed i b' hb' CS
  inj:=fun i j hi hj e=>by
   rcases lj hi with rfl |⟨ei,CS⟩
   ·rcases lj hj with rfl |⟨ej,CR⟩
    ·rfl
    ·rw [hβd,hβ j ej] at e
     exact absurd e.symm (hun j CR)
   ·rcases lj hj with rfl |⟨ej,CR⟩
    ·rw [hβd,hβ i ei] at e
     exact absurd e (hun i CS)
    ·rw [hβ i ei,hβ j ej] at e
     exact h.inj i j CS CR e
  named:=fun r x hr k hk=>by
   rw [ui]
   by_cases ek:fC.b k= .b d
   ·rw [if_pos ek];simp
   ·rw [if_neg ek]
    rw [ui] at hr
    by_cases e2:r= .b d
    ·rw [if_pos e2] at hr;cases hr
     exact hsc k hk
    ·rw [if_neg e2] at hr
     exact h.named r x hr k hk
  typed:=h.typed
  old:=h.old
  frame:=h.frame
  gG:=h.gG
  os:=h.os
  tape:=h.tape
  output:=h.output
  qF:=h.qF }
theorem Holds.tB (h:Holds N c T β τ a w) {d:Nat} (hd:1000≤d) (uA:τ (.b d)=none) {av:AV} {cs:Array Value} {e:TypeId} (hp:oG w (.cells cs e (0,0)) w') (hl:av.rN T β cs) (hsc:∀j∈av.boxes,τ (.b j)≠none):
  Holds N c (xi T w.heap.size (.bx cs.size)) (oo β d w.heap.size) (τ.ap [(.b d,av)]) a w':=by
 have h1:=h.CA (k:=.bx cs.size) hp ⟨cs,e,hp.new,rfl⟩
 refine h1.S1 hd uA (n:=cs.size) (by unfold xi;rw [if_pos rfl]) ⟨fun h=>by omega,fun _ _=>h.gG, .inl h.gG⟩ (fun i hi e=>?_) hp.new (AV.JR (K9 h.typed.fresh) hl) hsc
 have:=h.lt hi
 omega
theorem Holds.kill (h:Holds N c T β τ a w) {i:Nat}:Holds N c T β (τ.ap [(.b i, .zz)]) a w:=by
 have FH:∀k,live (τ.ap [(.b i, .zz)]) k→k≠i∧live τ k:=fun k hk=>by
  rcases lj hk with rfl |h
  ·unfold live at hk;rw [ui,if_pos rfl] at hk;exact hk.elim
  ·exact h
 exact { h with
  iC:=fun k x hk=>h.iC k x (by rwa [ui,if_neg (by simp)] at hk)
  boxes:=fun k x hk hz=>by
   rw [ui] at hk
   by_cases e:fC.b k= .b i
   ·rw [if_pos e] at hk;cases hk;exact absurd rfl hz
   ·rw [if_neg e] at hk;exact h.boxes k x hk hz
  apart:=fun k hk=>h.apart k (FH k hk).2
  handed:=fun k b hb h0=>h.handed k b hb (FH k h0).2
  inj:=fun k j hk hj e=>h.inj k j (FH k hk).2 (FH j hj).2 e
  named:=fun r x hr k hk=>by
   rw [ui]
   split
   ·simp
   ·rw [ui] at hr
    by_cases e:r= .b i
    ·rw [if_pos e] at hr;cases hr;simp [AV.boxes] at hk
    ·rw [if_neg e] at hr;exact h.named r x hr k hk }
theorem Holds.S3 (h:Holds N c T β τ a w) {i d:Nat} (hd:1000≤d) (hi0:1000000000≤d∨(1000≤i∧i < 1000000000)) (uA:τ (.b d)=none) {av:AV} {cs mg:Array Value} {e e':TypeId} (hi:live τ i) (ho:w.heap[β i]?=some (.cells cs e (0,0))) (hw:QB w (β i) (.cells mg e' (0,0)) w') (db:mg.size=cs.size) (hl:av.rN T β mg) (hsc:av.boxes=[]):
  Holds N c T (oo β d (β i)) ((τ.ap [(.b i, .zz)]).ap [(.b d,av)]) a w':=by
 have hid:i≠d:=fun e=>by subst e;exact kB hi uA
 obtain ⟨⟨n,hn⟩,oa⟩:=h.apart i hi
 have h1:=(h.DG (av:=av) hi ho hw db hl (by rw [hsc];simp)).kill (i:=i)
 have e1:(τ.ap [(.b i,av)]).ap [(.b i, .zz)]=τ.ap [(.b i, .zz)]:=by
  funext r
  rw [ui,ui,ui]
  split<;>rfl
 rw [e1] at h1
 refine h1.S1 hd (by rw [ui,if_neg (by simp;exact fun h=>hid h.symm)];exact uA) hn ⟨fun h=>by omega,fun h1 h2=>oa.2.1 (by omega) (by omega),oa.2.2⟩ (fun j hj e=>?_) hw.at_ hl (by rw [hsc];simp)
 rcases lj hj with rfl |⟨ej,CR⟩
 ·unfold live at hj;rw [ui,if_pos rfl] at hj;exact hj.elim
 ·exact ej (h.inj j i CR hi e)
end
end GL
end Go.Proofs.YtbfgjadbfjkcdaaGreatDoor
