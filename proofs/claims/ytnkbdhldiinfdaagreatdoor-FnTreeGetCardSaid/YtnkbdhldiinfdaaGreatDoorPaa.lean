/- A drawn law returns true for every code (its row lists package variables, tied by the card): part 1. -/
import Derived.Lib.ItoaNum
import Derived.RegionTactic
import Derived.WalkKit
set_option maxHeartbeats 20000000
set_option maxRecDepth 100000
set_option linter.all false
namespace Go.Proofs.YtnkbdhldiinfdaaGreatDoor
theorem aa:True:=trivial
theorem tv2:True∧True:=⟨aa,aa⟩
theorem tv3:True∧True∧True:=⟨aa,aa,aa⟩
theorem tv4:True∧True∧True∧True:=⟨aa,aa,aa,aa⟩
theorem tv5:True∧True∧True∧True∧True:=⟨aa,aa,aa,aa,aa⟩
theorem tv6:True∧True∧True∧True∧True∧True:=⟨aa,aa,aa,aa,aa,aa⟩
theorem tv7:True∧True∧True∧True∧True∧True∧True:=⟨aa,aa,aa,aa,aa,aa,aa⟩
theorem tv8:True∧True∧True∧True∧True∧True∧True∧True:=⟨aa,aa,aa,aa,aa,aa,aa,aa⟩
theorem tv9:True∧True∧True∧True∧True∧True∧True∧True∧True:=⟨aa,aa,aa,aa,aa,aa,aa,aa,aa⟩
theorem tv10:True∧True∧True∧True∧True∧True∧True∧True∧True∧True:=⟨aa,aa,aa,aa,aa,aa,aa,aa,aa,aa⟩
theorem tv11:True∧True∧True∧True∧True∧True∧True∧True∧True∧True∧True:=⟨aa,aa,aa,aa,aa,aa,aa,aa,aa,aa,aa⟩
theorem tv12:True∧True∧True∧True∧True∧True∧True∧True∧True∧True∧True∧True:=⟨aa,aa,aa,aa,aa,aa,aa,aa,aa,aa,aa,aa⟩
theorem tv13:True∧True∧True∧True∧True∧True∧True∧True∧True∧True∧True∧True∧True:=⟨aa,aa,aa,aa,aa,aa,aa,aa,aa,aa,aa,aa,aa⟩
theorem tv14:True∧True∧True∧True∧True∧True∧True∧True∧True∧True∧True∧True∧True∧True:=⟨aa,aa,aa,aa,aa,aa,aa,aa,aa,aa,aa,aa,aa,aa⟩
theorem tv15:True∧True∧True∧True∧True∧True∧True∧True∧True∧True∧True∧True∧True∧True∧True:=⟨aa,aa,aa,aa,aa,aa,aa,aa,aa,aa,aa,aa,aa,aa,aa⟩
theorem tv16:True∧True∧True∧True∧True∧True∧True∧True∧True∧True∧True∧True∧True∧True∧True∧True:=⟨aa,aa,aa,aa,aa,aa,aa,aa,aa,aa,aa,aa,aa,aa,aa,aa⟩
theorem tv17:True∧True∧True∧True∧True∧True∧True∧True∧True∧True∧True∧True∧True∧True∧True∧True∧True:=⟨aa,aa,aa,aa,aa,aa,aa,aa,aa,aa,aa,aa,aa,aa,aa,aa,aa⟩
theorem tv18:True∧True∧True∧True∧True∧True∧True∧True∧True∧True∧True∧True∧True∧True∧True∧True∧True∧True:=⟨aa,aa,aa,aa,aa,aa,aa,aa,aa,aa,aa,aa,aa,aa,aa,aa,aa,aa⟩
theorem tv19:True∧True∧True∧True∧True∧True∧True∧True∧True∧True∧True∧True∧True∧True∧True∧True∧True∧True∧True:=⟨aa,aa,aa,aa,aa,aa,aa,aa,aa,aa,aa,aa,aa,aa,aa,aa,aa,aa,aa⟩
theorem tv20:True∧True∧True∧True∧True∧True∧True∧True∧True∧True∧True∧True∧True∧True∧True∧True∧True∧True∧True∧True:=⟨aa,aa,aa,aa,aa,aa,aa,aa,aa,aa,aa,aa,aa,aa,aa,aa,aa,aa,aa,aa⟩
theorem aA {p:Prop}[Decidable p] (h:decide p=false):¬p:=of_decide_eq_false h
theorem aJ {p:Prop}[Decidable p] (h:decide p=true):p:=of_decide_eq_true h
theorem zqNlb {n m:Nat}(h:Nat.ble n m=true):n≤m:=Nat.le_of_ble_eq_true h
theorem a8 {P:Prop}(h:P:=by first|omega|rfl|exact List.length_append.symm):P:=h
theorem az {P:Prop}(h:P:=by repeat' (first|exact trivial|apply And.intro)):P:=h
theorem ZA0:type_of% @List.length_append:= @List.length_append
theorem ZA1:type_of% @List.length_cons:= @List.length_cons
theorem ZA2:type_of% @Option.getD_some:= @Option.getD_some
theorem ZA3:type_of% @Option.getD_none:= @Option.getD_none
theorem ZA4:type_of% @List.length_nil:= @List.length_nil
theorem ZA5:type_of% @Int.toNat_natCast:= @Int.toNat_natCast
theorem ZA6:type_of% @Nat.zero_add:= @Nat.zero_add
theorem ZA7:type_of% @Nat.zero_le:= @Nat.zero_le
theorem ZA8:type_of% @Nat.le_of_eq:= @Nat.le_of_eq
theorem ZA9:type_of% @Bool.and_eq_true:= @Bool.and_eq_true
theorem ZB0:type_of% @Nat.le_trans:= @Nat.le_trans
theorem ZB1:type_of% @List.getElem?_eq_getElem:= @List.getElem?_eq_getElem
theorem ZB2:type_of% @ByteArray.size_append:= @ByteArray.size_append
theorem ZB3:type_of% @List.drop_eq_nil_of_le:= @List.drop_eq_nil_of_le
theorem ZB4:type_of% @List.mem_append:= @List.mem_append
theorem ZB5:type_of% @Nat.le_refl:= @Nat.le_refl
theorem ZB6:type_of% @List.mem_of_getElem?:= @List.mem_of_getElem?
theorem ZB7:type_of% @Nat.le_of_ble_eq_true:= @Nat.le_of_ble_eq_true
theorem ZB8:type_of% @List.mem_cons:= @List.mem_cons
theorem ZB9:type_of% @List.length_take:= @List.length_take
theorem ZC0:type_of% @List.getElem?_eq_some_iff:= @List.getElem?_eq_some_iff
theorem ZC1:type_of% @Int.le_refl:= @Int.le_refl
theorem ZC2:type_of% @List.getElem?_append_left:= @List.getElem?_append_left
theorem ZC3:type_of% @List.length_set:= @List.length_set
theorem ZC4:type_of% @Bool.or_true:= @Bool.or_true
theorem ZC5:type_of% @ByteArray.size_extract:= @ByteArray.size_extract
theorem ZC6:type_of% @List.getElem?_append_right:= @List.getElem?_append_right
theorem ZC7:type_of% @List.mem_singleton:= @List.mem_singleton
theorem ZC8:type_of% @List.length_drop:= @List.length_drop
theorem ZC9:type_of% @List.all_eq_true:= @List.all_eq_true
theorem ZD0:type_of% @List.nil_append:= @List.nil_append
theorem ZD1:type_of% @List.take_of_length_le:= @List.take_of_length_le
theorem ZD2:type_of% @List.append_assoc:= @List.append_assoc
theorem ZD3:type_of% @Nat.le_add_right:= @Nat.le_add_right
theorem ZD4:type_of% @List.length_eq_zero_iff:= @List.length_eq_zero_iff
theorem ZD5:type_of% @List.flatMap_cons:= @List.flatMap_cons
theorem ZD6:type_of% @List.mem_replicate:= @List.mem_replicate
theorem ZD7:type_of% @Bool.and_false:= @Bool.and_false
theorem ZD8:type_of% @List.getElem?_eq_none:= @List.getElem?_eq_none
theorem ZD9:type_of% @Nat.lt_succ_self:= @Nat.lt_succ_self
theorem ZE0:type_of% @Int.le_trans:= @Int.le_trans
theorem ZE1:type_of% @Bool.or_eq_false_iff:= @Bool.or_eq_false_iff
theorem ZE2:type_of% @List.mem_range:= @List.mem_range
theorem ZE3:type_of% @Nat.add_mul:= @Nat.add_mul
theorem ZE4:type_of% @Array.length_toList:= @Array.length_toList
theorem ZE5:type_of% @List.append_nil:= @List.append_nil
theorem ZE6:type_of% @List.mem_of_mem_take:= @List.mem_of_mem_take
theorem ZE7:type_of% @List.map_cons:= @List.map_cons
theorem ZE8:type_of% @Array.getD_eq_getD_getElem?:= @Array.getD_eq_getD_getElem?
theorem ZE9:type_of% @Decidable.not_not:= @Decidable.not_not
theorem ZF0:type_of% @List.drop_zero:= @List.drop_zero
theorem ZF1:type_of% @Array.getElem?_eq_some_iff:= @Array.getElem?_eq_some_iff
theorem ZF2:type_of% @List.mem_of_mem_drop:= @List.mem_of_mem_drop
theorem ZF3:type_of% @List.getElem?_of_mem:= @List.getElem?_of_mem
theorem ZF4:type_of% @List.mem_filter:= @List.mem_filter
theorem ZF5:type_of% @List.drop_length_add_append:= @List.drop_length_add_append
theorem ZF6:type_of% @List.not_mem_nil:= @List.not_mem_nil
theorem ZF7:type_of% @Nat.add_assoc:= @Nat.add_assoc
theorem ZF8:type_of% @Bool.not_eq_true':= @Bool.not_eq_true'
theorem ZF9:type_of% @List.drop_drop:= @List.drop_drop
theorem ZG0:type_of% @Array.getElem?_eq_getElem:= @Array.getElem?_eq_getElem
theorem ZG1:type_of% @List.take_append_drop:= @List.take_append_drop
theorem ZG2:type_of% @List.length_replicate:= @List.length_replicate
theorem ZG3:type_of% @Nat.lt_of_lt_of_le:= @Nat.lt_of_lt_of_le
theorem ZG4:type_of% @Nat.add_sub_cancel_left:= @Nat.add_sub_cancel_left
theorem ZG5:type_of% @List.length_map:= @List.length_map
theorem ZG6:type_of% @Nat.mul_le_mul_right:= @Nat.mul_le_mul_right
theorem ZG7:type_of% @List.cons_append:= @List.cons_append
theorem ZG8:type_of% @Option.some.inj:= @Option.some.inj
theorem ZG9:type_of% @List.cons.injEq:= @List.cons.injEq
theorem ZH0:type_of% @Nat.zero_mul:= @Nat.zero_mul
theorem ZH1:type_of% @Int.not_lt:= @Int.not_lt
namespace GL
inductive CP where
 |i64
 |row
 |u8
 |str (n:Nat)
 |bool
abbrev CP.Ty:CP→Type
 |.i64=>Int
 |.row=>Int
 |.u8=>Int
 |.str _=>ByteArray
 |.bool=>Bool
def CP.val:(c:CP)→c.Ty→Value
 |.i64,n=>.int .i64 n
 |.row,n=>.int .i64 n
 |.u8,n=>.int .u8 n
 |.str _,s=>.string s
 |.bool,b=>.bool b
def CP.ok:(c:CP)→c.Ty→Prop
 |.i64,n=> -9223372036854775808≤n∧n≤9223372036854775807
 |.row,n=>0≤n∧n≤63
 |.u8,n=>0≤n∧n≤255
 |.str m,s=>s.size≤m
 |.bool,_=>True
abbrev EK:=List CP
def CP.beq:CP→CP→Bool
 |.i64,.i64=>true
 |.row,.row=>true
 |.u8,.u8=>true
 |.str m,.str n=>Nat.beq m n
 |.bool,.bool=>true
 |_,_=>false
theorem CP.eq_of_beq {x y:CP}(h:x.beq y=true):x=y:=by
 cases x<;>cases y<;>simp [CP.beq] at h ⊢ <;>exact h
def EK.beq:List CP→List CP→Bool
 |[],[]=>true
 |x::l,y::m=>x.beq y&&EK.beq l m
 |_,_=>false
theorem EK.eq_of_beq:∀{l m:List CP},EK.beq l m=true→l=m
 |[],[],_=>rfl
 |[],_::_,h=>by cases h
 |_::_,[],h=>by cases h
 |x::l,y::m,h=>by
  simp only [EK.beq,ZA9] at h
  rw [CP.eq_of_beq h.1,EK.eq_of_beq h.2]
abbrev EK.Ty:List CP→Type
 |[]=>Unit
 |[c]=>c.Ty
 |c::d::l=>c.Ty×EK.Ty (d::l)
def EK.cells:(ek:List CP)→EK.Ty ek→List Value
 |[],_=>[]
 |[c],x=>[c.val x]
 |c::d::l,x=>c.val x.1::EK.cells (d::l) x.2
def EK.ok:(ek:List CP)→EK.Ty ek→Prop
 |[],_=>True
 |[c],x=>c.ok x
 |c::d::l,x=>c.ok x.1∧EK.ok (d::l) x.2
def one (v:Value):Bool:=v.oneCell'
theorem CP.val_one (c:CP) (x:c.Ty):one (c.val x)=true:=by cases c<;>rfl
theorem EK.bK:∀(ek:List CP) (x:EK.Ty ek),(EK.cells ek x).length=ek.length
 |[],_=>rfl
 |[_],_=>rfl
 |_::d::l,x=>by simp [EK.cells,EK.bK (d::l) x.2]
theorem EK.NI:∀(ek:List CP) (x:EK.Ty ek),∀v∈EK.cells ek x,one v=true
 |[],_,v,h=>by cases h
 |[c],x,v,h=>by
  simp only [EK.cells,ZC7] at h
  subst h;exact c.val_one x
 |c::d::l,x,v,h=>by
  simp only [EK.cells,ZB8] at h
  rcases h with rfl |h
  ·exact c.val_one x.1
  ·exact EK.NI (d::l) x.2 v h
def flat (ek:EK) (l:List (EK.Ty ek)):List Value:=l.flatMap (EK.cells ek)
theorem aew (ek:EK):flat ek []=[]:=rfl
theorem iS (ek:EK) (x:EK.Ty ek) (l:List (EK.Ty ek)):flat ek (x::l)=EK.cells ek x++flat ek l:=rfl
theorem gD (ek:EK) (l m:List (EK.Ty ek)):flat ek (l++m)=flat ek l++flat ek m:=by simp [flat]
theorem cA (ek:EK):∀(l:List (EK.Ty ek)),(flat ek l).length=l.length*ek.length
 |[]=>by simp [flat]
 |x::l=>by simp [iS,EK.bK,cA ek l,ZE3,Nat.add_comm]
theorem aev (ek:EK) (l:List (EK.Ty ek)):∀v∈flat ek l,one v=true:=by
 intro v hv
 obtain⟨x,_,h⟩:=List.mem_flatMap.1 hv
 exact EK.NI ek x v h
theorem ph (ek:EK):∀(l:List (EK.Ty ek)) (k:Nat),(flat ek l).drop (k*ek.length)=flat ek (l.drop k)
 |_,0=>by simp
 |[],k+1=>by simp [flat]
 |x::l,k+1=>by
  rw [iS,ZE3,Nat.one_mul,Nat.add_comm,←ZF9]
  have h:(EK.cells ek x++flat ek l).drop ek.length=flat ek l:=by
   rw [←EK.bK ek x];simp
  rw [h,List.drop_succ_cons,ph ek l k]
theorem mX (ek:EK):∀(l:List (EK.Ty ek)) (k:Nat),(flat ek l).take (k*ek.length)=flat ek (l.take k)
 |_,0=>by simp [flat]
 |[],k+1=>by simp [flat]
 |x::l,k+1=>by
  rw [iS,List.take_succ_cons,iS,←mX ek l k,List.take_append,EK.bK,ZE3,Nat.one_mul]
  rw [ZD1 (by rw [EK.bK];omega)]
  congr 2
  omega
theorem Z3 (ek:EK) (l:List (EK.Ty ek)) (k:Nat) (x:EK.Ty ek) (h:l[k]?=some x):((flat ek l).drop (k*ek.length)).take ek.length=EK.cells ek x:=by
 rw [ph]
 obtain⟨hk,rfl⟩:=ZC0.1 h
 rw [List.drop_eq_getElem_cons hk,iS,List.take_append_of_le_length (by rw [EK.bK];exact ZB5 _),ZD1 (by rw [EK.bK];exact ZB5 _)]
theorem TY (ek:EK) (l:List (EK.Ty ek)) (k j:Nat) (x:EK.Ty ek) (h:l[k]?=some x) (hj:j<ek.length):(flat ek l)[k*ek.length+j]?=(EK.cells ek x)[j]?:=by
 rw [←Z3 ek l k x h,List.getElem?_take,if_pos hj,List.getElem?_drop]
inductive CV where
 |v (x:Value)
 |q (b:Bool)
 |vz (ek:EK) (l:List (EK.Ty ek))
inductive SV where
 |v (x:Value)
 |q (b:Bool)
 |bp (i off:Nat)
 |xp (i sz k j:Nat)
 |xs (i sz o m:Nat)
 |ep (ek:EK) (j:Nat)
 |sl (ek:EK) (len:Nat)
 |vw (ek:EK) (l:List (EK.Ty ek))
 |vz (ek:EK) (l:List (EK.Ty ek))
 |vp (ek:EK) (x:EK.Ty ek) (j:Nat)
 |vs (l:List CV) (j:Nat)
 |er (b:Bool)
 |e0
def CV.sv:CV→SV
 |.v x=>.v x
 |.q b=>.q b
 |.vz ek l=>.vz ek l
def cvs:List CV→List SV
 |[]=>[]
 |x::l=>x.sv::cvs l
inductive A0 where
 |s (x:SV)
 |a (l:List SV)
inductive AV where
 |o (x:A0)
 |t (l:List A0)
 |rs (ek:EK) (l:List (EK.Ty ek))
 |zz
 |fn (f:Nat) (DA:List (Nat×Nat))
abbrev AV.s (x:SV):AV:=.o (.s x)
abbrev AV.a (l:List SV):AV:=.o (.a l)
abbrev AV.int (n:Int):AV:=.o (.s (.v (.int .i64 n)))
abbrev AV.byte (n:Int):AV:=.o (.s (.v (.int .u8 n)))
abbrev AV.q (b:Bool):AV:=.o (.s (.q b))
abbrev AV.str (s:ByteArray):AV:=.o (.s (.v (.string s)))
abbrev SV.int (n:Int):SV:=.v (.int .i64 n)
abbrev SV.byte (n:Int):SV:=.v (.int .u8 n)
abbrev SV.str (s:ByteArray):SV:=.v (.string s)
def CP.sv:(c:CP)→c.Ty→SV
 |.i64,n=>.v (.int .i64 n)
 |.row,n=>.v (.int .i64 n)
 |.u8,n=>.v (.int .u8 n)
 |.str _,s=>.v (.string s)
 |.bool,b=>.q b
def EK.AX:(ek:List CP)→EK.Ty ek→List SV
 |[],_=>[]
 |[c],x=>[c.sv x]
 |c::d::l,x=>c.sv x.1::EK.AX (d::l) x.2
inductive BK where
 |ty (ek:EK) (n:Nat)
 |ro (cs:Array Value) (e:TypeId) (fr:Nat×Nat)
 |ln (cs:Array Value) (e:TypeId) (fr:Nat×Nat)
 |fz (ek:EK) (n:Nat) (cs:Array Value)
 |bx (n:Nat)
abbrev bb:=Nat→Option BK
def win (cs:Array Value) (o:Nat) (l:List Value):Prop:=∀j v,l[j]?=some v→cs[o+j]?=some v
def rdT (T:bb) (b:Nat) (cs:Array Value):Prop:=(∃e fr,T b=some (.ro cs e fr))∨(∃e fr,T b=some (.ln cs e fr))∨∃ek n,T b=some (.fz ek n cs)
def CV.rel (T:bb):CV→Value→Prop
 |.v x,y=>y=x
 |.q b,y=>y= .bool b
 |.vz ek l,y=>(l=[]∧∃p cap,y= .slice p 0 cap)∨∃b o cap cs,y= .slice (some ⟨b,o,none⟩) l.length cap∧l.length≤cap∧rdT T b cs∧win cs o (flat ek l)
def xl (T:bb):List CV→List Value→Prop
 |[],[]=>True
 |x::l,y::r=>x.rel T y∧xl T l r
 |_,_=>False
def SV.rel (T:bb) (β:Nat→Nat):SV→Value→Prop
 |.v x,y=>y=x
 |.q b,y=>y= .bool b
 |.bp i off,y=>y= .pointer (some ⟨β i,off,none⟩)
 |.xp i sz k j,y=>y= .pointer (some ⟨β i,k*sz+j,none⟩)∧j<sz
 |.xs i sz o m,y=>(m=0∧∃p,y= .slice p 0 0)∨∃cap n,y= .slice (some ⟨β i,o*sz,none⟩) m cap∧m≤cap∧T (β i)=some (.bx n)∧(o+cap)*sz≤n
 |.ep ek j,y=>∃b o n,y= .pointer (some ⟨b,o*ek.length+j,none⟩)∧T b=some (.ty ek n)∧o<n∧j<ek.length
 |.sl ek len,y=>(len=0∧∃p,y= .slice p 0 0)∨∃b o cap n,y= .slice (some ⟨b,o*ek.length,none⟩) len cap∧len≤cap∧T b=some (.ty ek n)∧o+cap≤n
 |.vw ek l,y=>(l=[]∧∃p cap,y= .slice p 0 cap)∨∃b o cap cs e fr,y= .slice (some ⟨b,o,none⟩) l.length cap∧l.length≤cap∧T b=some (.ro cs e fr)∧win cs o (flat ek l)
 |.vz ek l,y=>(l=[]∧∃p cap,y= .slice p 0 cap)∨∃b o cap cs,y= .slice (some ⟨b,o,none⟩) l.length cap∧l.length≤cap∧rdT T b cs∧win cs o (flat ek l)
 |.vp ek x j,y=>∃b o cs,y= .pointer (some ⟨b,o+j,none⟩)∧j<ek.length∧rdT T b cs∧win cs o (EK.cells ek x)
 |.vs l j,y=>∃b cs,y= .pointer (some ⟨b,j,none⟩)∧rdT T b cs∧xl T l cs.toList
 |.er b,y=>match b with
  |true=>y= .nilIface
  |false=>∃t v,y= .iface t v
 |.e0,y=>∃p,y= .slice p 0 0
def dN (T:bb) (β:Nat→Nat):List SV→List Value→Prop
 |[],[]=>True
 |x::l,y::r=>x.rel T β y∧dN T β l r
 |_,_=>False
def A0.rel (T:bb) (β:Nat→Nat):A0→Value→Prop
 |.s x,y=>x.rel T β y
 |.a l,y=>∃cs,y= .agg cs∧dN T β l cs.toList
def uD (T:bb) (β:Nat→Nat):List A0→List Value→Prop
 |[],[]=>True
 |x::l,y::r=>x.rel T β y∧uD T β l r
 |_,_=>False
def E1 (β:Nat→Nat):List (Nat×Nat)→List Value
 |[]=>[]
 |p::l=>.pointer (some ⟨β p.1,p.2,none⟩)::E1 β l
def AV.rel (T:bb) (β:Nat→Nat):AV→Value→Prop
 |.o x,y=>x.rel T β y
 |.t l,y=>∃vs,y= .tuple vs∧uD T β l vs.toList
 |.fn f l,y=>∃cs,y= .func (.func f) #[] cs∧cs.toList=E1 β l
 |_,_=>False
def AV.rU (T:bb) (β:Nat→Nat):AV→Array Value→Prop
 |.o (.a l),cs=>dN T β l cs.toList
 |.rs ek l,cs=>ek≠[]∧∃z,cs.toList=flat ek (l++z)∧∀x∈z,EK.ok ek x
 |_,_=>False
def SV.boxes:SV→List Nat
 |.bp i _=>[i]
 |.xp i _ _ _=>[i]
 |.xs i _ _ _=>[i]
 |_=>[]
def cc:List SV→List Nat
 |[]=>[]
 |x::l=>x.boxes++cc l
def A0.boxes:A0→List Nat
 |.s x=>x.boxes
 |.a l=>cc l
def eS:List A0→List Nat
 |[]=>[]
 |x::l=>x.boxes++eS l
def jH:List (Nat×Nat)→List Nat
 |[]=>[]
 |p::l=>p.1::jH l
def AV.boxes:AV→List Nat
 |.o x=>x.boxes
 |.t l=>eS l
 |.fn _ l=>jH l
 |_=>[]
theorem gJ {i:Nat}:∀{l:List SV},i∈cc l↔∃x∈l,i∈x.boxes
 |[]=>by simp [cc]
 |x::l=>by simp [cc,gJ (l:=l)]
theorem HY {i:Nat}:∀{l:List A0},i∈eS l↔∃x∈l,i∈x.boxes
 |[]=>by simp [eS]
 |x::l=>by simp [eS,HY (l:=l)]
def SV.ly (g:Nat→Nat):SV→SV
 |.bp i o=>.bp (g i) o
 |.xp i sz k j=>.xp (g i) sz k j
 |.xs i sz o m=>.xs (g i) sz o m
 |x=>x
def BL (g:Nat→Nat):List SV→List SV
 |[]=>[]
 |x::l=>x.ly g::BL g l
def A0.ly (g:Nat→Nat):A0→A0
 |.s x=>.s (x.ly g)
 |.a l=>.a (BL g l)
def BJ (g:Nat→Nat):List A0→List A0
 |[]=>[]
 |x::l=>x.ly g::BJ g l
def BM (g:Nat→Nat):List (Nat×Nat)→List (Nat×Nat)
 |[]=>[]
 |p::l=>(g p.1,p.2)::BM g l
def AV.ly (g:Nat→Nat):AV→AV
 |.o x=>.o (x.ly g)
 |.t l=>.t (BJ g l)
 |.fn f l=>.fn f (BM g l)
 |x=>x
section
variable {T T':bb}{β β':Nat→Nat}{g:Nat→Nat}
def uS (T T':bb):Prop:=∀b k,T b=some k→T' b=some k
theorem zq (h:uS T T') {b:Nat}{cs:Array Value}(hr:rdT T b cs):rdT T' b cs:=by
 rcases hr with ⟨e,fr,h1⟩ |⟨e,fr,h1⟩ |⟨ek,n,h1⟩
 ·exact .inl ⟨e,fr,h _ _ h1⟩
 ·exact .inr (.inl ⟨e,fr,h _ _ h1⟩)
 ·exact .inr (.inr ⟨ek,n,h _ _ h1⟩)
theorem CV.acM {x:CV}{v:Value}:x.rel T v↔x.sv.rel T β v:=by cases x<;>exact Iff.rfl
theorem zo:∀{l:List CV}{cs:List Value},xl T l cs→dN T β (cvs l) cs
 |[],[],_=>trivial
 |_::_,[],h=>h.elim
 |[],_::_,h=>h.elim
 |_::_,_::_,h=>⟨CV.acM.1 h.1,zo h.2⟩
theorem CV.acN (h:∀b cs,rdT T b cs→rdT T' b cs) {x:CV}{v:Value}(hr:x.rel T v):x.rel T' v:=by
 cases x with
 |v x=>exact hr
 |q b=>exact hr
 |vz ek l=>
  rcases hr with hr |⟨b,o,cap,cs,h1,h2,h3,h4⟩
  ·exact .inl hr
  ·exact .inr ⟨b,o,cap,cs,h1,h2,h _ _ h3,h4⟩
theorem E9 (h:∀b cs,rdT T b cs→rdT T' b cs):∀{l:List CV}{cs:List Value},xl T l cs→xl T' l cs
 |[],[],_=>trivial
 |_::_,[],h'=>h'.elim
 |[],_::_,h'=>h'.elim
 |_::_,_::_,h'=>⟨CV.acN h h'.1,E9 h h'.2⟩
theorem SV.nJ (h:uS T T') {x:SV}{v:Value}(hr:x.rel T β v):x.rel T' β v:=by
 cases x with
 |v x=>exact hr
 |q b=>exact hr
 |bp i o=>exact hr
 |xp i sz k j=>exact hr
 |xs i sz o m=>
  rcases hr with hr |⟨cap,n,h1,h2,h3,h4⟩
  ·exact .inl hr
  ·exact .inr ⟨cap,n,h1,h2,h _ _ h3,h4⟩
 |ep ek j=>obtain⟨b,o,n,h1,h2,h3⟩:=hr;exact⟨b,o,n,h1,h _ _ h2,h3⟩
 |sl ek len=>
  rcases hr with hr |⟨b,o,cap,n,h1,h2,h3,h4⟩
  ·exact .inl hr
  ·exact .inr ⟨b,o,cap,n,h1,h2,h _ _ h3,h4⟩
 |vw ek l=>
  rcases hr with hr |⟨b,o,cap,cs,e,fr,h1,h2,h3,h4⟩
  ·exact .inl hr
  ·exact .inr ⟨b,o,cap,cs,e,fr,h1,h2,h _ _ h3,h4⟩
 |vz ek l=>
  rcases hr with hr |⟨b,o,cap,cs,h1,h2,h3,h4⟩
  ·exact .inl hr
  ·exact .inr ⟨b,o,cap,cs,h1,h2,zq h h3,h4⟩
 |vp ek x j=>
  obtain⟨b,o,cs,h1,h2,h3,h4⟩:=hr
  exact⟨b,o,cs,h1,h2,zq h h3,h4⟩
 |vs l j=>
  obtain⟨b,cs,h1,h2,h3⟩:=hr
  exact⟨b,cs,h1,zq h h2,E9 (fun _ _=>zq h) h3⟩
 |er b=>exact hr
 |e0=>exact hr
theorem BO (h:uS T T'):∀{l:List SV}{cs:List Value},dN T β l cs→dN T' β l cs
 |[],[],_=>trivial
 |_::_,[],h'=>h'.elim
 |[],_::_,h'=>h'.elim
 |_::_,_::_,h'=>⟨SV.nJ h h'.1,BO h h'.2⟩
theorem A0.nJ (h:uS T T') {x:A0}{v:Value}(hr:x.rel T β v):x.rel T' β v:=by
 cases x with
 |s x=>exact SV.nJ h hr
 |a l=>obtain⟨cs,e,hl⟩:=hr;exact⟨cs,e,BO h hl⟩
theorem LI (h:uS T T'):∀{l:List A0}{cs:List Value},uD T β l cs→uD T' β l cs
 |[],[],_=>trivial
 |_::_,[],h'=>h'.elim
 |[],_::_,h'=>h'.elim
 |_::_,_::_,h'=>⟨A0.nJ h h'.1,LI h h'.2⟩
theorem AV.nJ (h:uS T T') {x:AV}{v:Value}(hr:x.rel T β v):x.rel T' β v:=by
 cases x with
 |o x=>exact A0.nJ h hr
 |t l=>obtain⟨cs,e,hl⟩:=hr;exact⟨cs,e,LI h hl⟩
 |rs ek l=>exact hr
 |zz=>exact hr
 |fn f l=>exact hr
theorem AV.JS (h:uS T T') {x:AV}{cs:Array Value}(hr:x.rU T β cs):x.rU T' β cs:=by
 cases x with
 |o x=>
  cases x with
  |s x=>exact hr
  |a l=>exact BO h hr
 |_=>exact hr
theorem SV.np {x:SV}(h:∀i∈x.boxes,β' (g i)=β i) {v:Value}(hr:x.rel T β v):(x.ly g).rel T β' v:=by
 cases x with
 |bp i o=>
  have:=h i (by simp [SV.boxes])
  show v=_
  rw [this];exact hr
 |xp i sz k j=>
  have:=h i (by simp [SV.boxes])
  show v=_∧_
  rw [this];exact hr
 |xs i sz o m=>
  have:=h i (by simp [SV.boxes])
  rcases hr with hr |⟨cap,n,h1,h2,h3,h4⟩
  ·exact .inl hr
  ·exact .inr ⟨cap,n,by rw [this];exact h1,h2,by rw [this];exact h3,h4⟩
 |_=>exact hr
theorem zn:∀{l:List SV}{cs:List Value},(∀i∈cc l,β' (g i)=β i)→dN T β l cs→dN T β' (BL g l) cs
 |[],[],_,_=>trivial
 |_::_,[],_,h'=>h'.elim
 |[],_::_,_,h'=>h'.elim
 |_::_,_::_,hd,h'=>by
  simp only [cc,ZB4] at hd
  exact⟨SV.np (fun i hi=>hd i (.inl hi)) h'.1,zn (fun i hi=>hd i (.inr hi)) h'.2⟩
theorem A0.np {x:A0}(h:∀i∈x.boxes,β' (g i)=β i) {v:Value}(hr:x.rel T β v):(x.ly g).rel T β' v:=by
 cases x with
 |s x=>exact SV.np h hr
 |a l=>obtain⟨cs,e,hl⟩:=hr;exact⟨cs,e,zn h hl⟩
theorem RB:∀{l:List A0}{cs:List Value},(∀i∈eS l,β' (g i)=β i)→uD T β l cs→uD T β' (BJ g l) cs
 |[],[],_,_=>trivial
 |_::_,[],_,h'=>h'.elim
 |[],_::_,_,h'=>h'.elim
 |_::_,_::_,hd,h'=>by
  simp only [eS,ZB4] at hd
  exact⟨A0.np (fun i hi=>hd i (.inl hi)) h'.1,RB (fun i hi=>hd i (.inr hi)) h'.2⟩
theorem UH:∀{l:List (Nat×Nat)},(∀i∈jH l,β' (g i)=β i)→E1 β' (BM g l)=E1 β l
 |[],_=>rfl
 |p::l,h=>by
  simp only [jH,ZB8] at h
  simp only [E1,BM]
  rw [h _ (.inl rfl),UH (fun i hi=>h i (.inr hi))]
theorem AV.np {x:AV}(h:∀i∈x.boxes,β' (g i)=β i) {v:Value}(hr:x.rel T β v):(x.ly g).rel T β' v:=by
 cases x with
 |o x=>exact A0.np h hr
 |t l=>obtain⟨cs,e,hl⟩:=hr;exact⟨cs,e,RB h hl⟩
 |rs ek l=>exact hr
 |zz=>exact hr
 |fn f l=>obtain⟨cs,e,hl⟩:=hr;exact⟨cs,e,hl.trans (UH h).symm⟩
theorem AV.FT {x:AV}(h:∀i∈x.boxes,β' (g i)=β i) {cs:Array Value}(hr:x.rU T β cs):(x.ly g).rU T β' cs:=by
 cases x with
 |o x=>
  cases x with
  |s x=>exact hr
  |a l=>exact zn h hr
 |_=>exact hr
theorem SV.va {x:SV}:x.ly (fun i=>i)=x:=by cases x<;>rfl
theorem N8:∀{l:List SV},BL (fun i=>i) l=l
 |[]=>rfl
 |x::l=>by simp [BL,SV.va,N8 (l:=l)]
theorem A0.va {x:A0}:x.ly (fun i=>i)=x:=by
 cases x with
 |s x=>simp [A0.ly,SV.va]
 |a l=>simp [A0.ly,N8]
theorem YX:∀{l:List A0},BJ (fun i=>i) l=l
 |[]=>rfl
 |x::l=>by simp [BJ,A0.va,YX (l:=l)]
theorem YY:∀{l:List (Nat×Nat)},BM (fun i=>i) l=l
 |[]=>rfl
 |p::l=>by simp [BM,YY (l:=l)]
theorem AV.va {x:AV}:x.ly (fun i=>i)=x:=by
 cases x with
 |o x=>simp [AV.ly,A0.va]
 |t l=>simp [AV.ly,YX]
 |fn f l=>simp [AV.ly,YY]
 |_=>rfl
theorem AV.acO {x:AV}(h:∀i∈x.boxes,β' i=β i) {v:Value}(hr:x.rel T β v):x.rel T β' v:=by
 have:=AV.np (g:=fun i=>i) h hr
 rwa [AV.va] at this
theorem AV.X2 {x:AV}(h:∀i∈x.boxes,β' i=β i) {cs:Array Value}(hr:x.rU T β cs):x.rU T β' cs:=by
 have:=AV.FT (g:=fun i=>i) h hr
 rwa [AV.va] at this
theorem aiO {l:List SV}(h:∀i∈cc l,β' i=β i) {cs:List Value}(hr:dN T β l cs):dN T β' l cs:=by
 have:=zn (g:=fun i=>i) h hr
 rwa [N8] at this
theorem SV.gl {x:SV}{i:Nat}(h:i∈(x.ly g).boxes):∃j∈x.boxes,i=g j:=by
 cases x<;>simp [SV.ly,SV.boxes] at h ⊢ <;>exact h
theorem GY {i:Nat}:∀{l:List SV},i∈cc (BL g l)→∃j∈cc l,i=g j
 |[],h=>by simp [BL,cc] at h
 |x::l,h=>by
  simp only [BL,cc,ZB4] at h
  rcases h with h |h
  ·obtain⟨j,hj,e⟩:=SV.gl h;exact⟨j,by simp [cc,hj],e⟩
  ·obtain⟨j,hj,e⟩:=GY h;exact⟨j,by simp [cc,hj],e⟩
theorem A0.gl {x:A0}{i:Nat}(h:i∈(x.ly g).boxes):∃j∈x.boxes,i=g j:=by
 cases x with
 |s x=>exact SV.gl h
 |a l=>exact GY h
theorem GX {i:Nat}:∀{l:List A0},i∈eS (BJ g l)→∃j∈eS l,i=g j
 |[],h=>by simp [BJ,eS] at h
 |x::l,h=>by
  simp only [BJ,eS,ZB4] at h
  rcases h with h |h
  ·obtain⟨j,hj,e⟩:=A0.gl h;exact⟨j,by simp [eS,hj],e⟩
  ·obtain⟨j,hj,e⟩:=GX h;exact⟨j,by simp [eS,hj],e⟩
theorem GZ {i:Nat}:∀{l:List (Nat×Nat)},i∈jH (BM g l)→∃j∈jH l,i=g j
 |[],h=>by simp [BM,jH] at h
 |p::l,h=>by
  simp only [BM,jH,ZB8] at h
  rcases h with h |h
  ·exact⟨p.1,by simp [jH],h⟩
  ·obtain⟨j,hj,e⟩:=GZ h;exact⟨j,by simp [jH,hj],e⟩
theorem AV.gl {x:AV}{i:Nat}(h:i∈(x.ly g).boxes):∃j∈x.boxes,i=g j:=by
 cases x with
 |o x=>exact A0.gl h
 |t l=>exact GX h
 |fn f l=>exact GZ h
 |rs ek l=>simp [AV.ly,AV.boxes] at h
 |zz=>simp [AV.ly,AV.boxes] at h
end
section
variable {T:bb}{β:Nat→Nat}
theorem jj:∀{l:List SV}{cs:List Value},dN T β l cs→l.length=cs.length
 |[],[],_=>rfl
 |_::_,[],h=>h.elim
 |[],_::_,h=>h.elim
 |_::l,_::cs,h=>by simp [jj h.2]
theorem qU:∀{l:List SV}{cs:List Value},dN T β l cs→∀{i:Nat}{x:SV},l[i]?=some x→∃v,cs[i]?=some v∧x.rel T β v
 |[],[],_,i,x,hx=>by simp at hx
 |_::_,[],h,_,_,_=>h.elim
 |[],_::_,h,_,_,_=>h.elim
 |y::l,v::cs,h,i,x,hx=>by
  cases i with
  |zero=>simp at hx;subst hx;exact⟨v,by simp,h.1⟩
  |succ i=>simpa using qU h.2 (by simpa using hx)
theorem wz:∀{l:List SV}{cs:List Value}(n:Nat),dN T β l cs→dN T β (l.take n) (cs.take n)
 |_,_,0,_=>by simp [dN]
 |[],[],_,_=>by simp [dN]
 |_::_,[],_,h=>h.elim
 |[],_::_,_,h=>h.elim
 |_::l,_::cs,n+1,h=>⟨h.1,wz n h.2⟩
theorem wA:∀{l:List SV}{cs:List Value}(n:Nat),dN T β l cs→dN T β (l.drop n) (cs.drop n)
 |_,_,0,h=>by simpa using h
 |[],[],_,_=>by simp [dN]
 |_::_,[],_,h=>h.elim
 |[],_::_,_,h=>h.elim
 |_::l,_::cs,n+1,h=>by simpa using wA n h.2
theorem RG:∀{l m:List SV}{cs ds:List Value},dN T β l cs→dN T β m ds→dN T β (l++m) (cs++ds)
 |[],_,[],_,_,h=>h
 |_::_,_,[],_,h,_=>h.elim
 |[],_,_::_,_,h,_=>h.elim
 |_::_,_,_::_,_,h,h'=>⟨h.1,RG h.2 h'⟩
theorem YZ:∀{l:List A0}{cs:List Value},uD T β l cs→∀{i:Nat}{x:A0},l[i]?=some x→∃v,cs[i]?=some v∧x.rel T β v
 |[],[],_,i,x,hx=>by simp at hx
 |_::_,[],h,_,_,_=>h.elim
 |[],_::_,h,_,_,_=>h.elim
 |y::l,v::cs,h,i,x,hx=>by
  cases i with
  |zero=>simp at hx;subst hx;exact⟨v,by simp,h.1⟩
  |succ i=>simpa using YZ h.2 (by simpa using hx)
theorem RC:∀{l:List A0}{cs:List Value},uD T β l cs→l.length=cs.length
 |[],[],_=>rfl
 |_::_,[],h=>h.elim
 |[],_::_,h=>h.elim
 |_::l,_::cs,h=>by simp [RC h.2]
theorem CP.UX (c:CP) (x:c.Ty):(c.sv x).rel T β (c.val x):=by cases c<;>rfl
theorem EK.E4:∀(ek:List CP) (x:EK.Ty ek),dN T β (EK.AX ek x) (EK.cells ek x)
 |[],_=>trivial
 |[c],x=>⟨c.UX x,trivial⟩
 |c::d::l,x=>⟨c.UX x.1,EK.E4 (d::l) x.2⟩
theorem EK.A9:∀(ek:List CP) (x:EK.Ty ek),cc (EK.AX ek x)=[]
 |[],_=>rfl
 |[c],x=>by cases c<;>rfl
 |c::d::l,x=>by
  have:=EK.A9 (d::l) x.2
  cases c<;>simp [EK.AX,cc,CP.sv,SV.boxes,this]
end
inductive fJ where
 |s (n:Nat)
 |b (n:Nat)
 deriving DecidableEq
def fJ.beq:fJ→fJ→Bool
 |.s m,.s n=>Nat.beq m n
 |.b m,.b n=>Nat.beq m n
 |_,_=>false
theorem fJ.beq_iff {x y:fJ}:x.beq y=true↔x=y:=by
 cases x<;>cases y<;>simp [fJ.beq]
theorem fJ.beq_false {x y:fJ}:x.beq y=false↔x≠y:=by
 rw [←Bool.not_eq_true,ne_eq,fJ.beq_iff]
theorem fJ.UK (x:fJ):x.beq x=true:=fJ.beq_iff.2 rfl
abbrev St:=fJ→Option AV
abbrev AO:=List (fJ×AV)
def St.ap (τ:St):AO→St
 |[]=>τ
 |(k,v)::u=>fun r=>bif fJ.beq k r then some v else St.ap τ u r
def agree (R:List fJ) (τ τ':St):Prop:=∀r∈R,τ r=τ' r
theorem St.wh {τ:St}{u:AO}{r:fJ}(h:∀p∈u,p.1≠r):τ.ap u r=τ r:=by
 induction u with
 |nil=>rfl
 |cons p u ih=>
  obtain⟨k,v⟩:=p
  have hk:fJ.beq k r=false:=fJ.beq_false.2 (h (k,v) (by simp))
  show (bif fJ.beq k r then some v else St.ap τ u r)=_
  rw [hk]
  exact ih fun p hp=>h p (by simp [hp])
theorem St.AN {τ:St}{u:AO}{r:fJ}:(∃v,τ.ap u r=some v∧(r,v)∈u)∨(τ.ap u r=τ r∧∀p∈u,p.1≠r):=by
 induction u with
 |nil=>exact .inr ⟨rfl,fun _ h=>by cases h⟩
 |cons p u ih=>
  obtain⟨k,v⟩:=p
  cases hk:fJ.beq k r with
  |true=>
   obtain rfl:=fJ.beq_iff.1 hk
   exact .inl ⟨v,by show (bif fJ.beq k k then some v else St.ap τ u k)=_;rw [hk];rfl,by simp⟩
  |false=>
   have e:St.ap τ ((k,v)::u) r=St.ap τ u r:=by
    show (bif fJ.beq k r then some v else St.ap τ u r)=_
    rw [hk];rfl
   rcases ih with ⟨x,hx,hm⟩ |⟨hx,hn⟩
   ·exact .inl ⟨x,by rw [e,hx],by simp [hm]⟩
   ·refine .inr ⟨by rw [e,hx],fun p hp=>?_⟩
    rcases ZB8.1 hp with rfl |hp
    ·exact fJ.beq_false.1 hk
    ·exact hn p hp
theorem St.aax {τ τ':St}{r:fJ}:∀{v:AO},(∃p∈v,p.1=r)→τ.ap v r=τ'.ap v r:=by
 intro v
 induction v with
 |nil=>intro ⟨p,hp,_⟩;cases hp
 |cons p v ih=>
  obtain⟨k,z⟩:=p
  intro hex
  show (bif fJ.beq k r then some z else St.ap τ v r)=(bif fJ.beq k r then some z else St.ap τ' v r)
  cases hk:fJ.beq k r with
  |true=>rfl
  |false=>
   refine ih ?_
   obtain⟨p,hp,e⟩:=hex
   rcases ZB8.1 hp with rfl |hp
   ·exact absurd e (fJ.beq_false.1 hk)
   ·exact⟨p,hp,e⟩
theorem St.agt {τ:St}{u v:AO}(h:∀p∈u,∀q∈v,p.1≠q.1):(τ.ap u).ap v=(τ.ap v).ap u:=by
 funext r
 rcases St.AN (τ:=τ.ap u) (u:=v) (r:=r) with ⟨x,hx,hm⟩ |⟨hx,hn⟩
 ·have hu:∀p∈u,p.1≠r:=fun p hp e=>h p hp _ hm e
  rw [St.wh hu]
  exact St.aax ⟨_,hm,rfl⟩
 ·rw [hx]
  rcases St.AN (τ:=τ.ap v) (u:=u) (r:=r) with ⟨y,hy,hm⟩ |⟨hy,hn'⟩
  ·exact St.aax ⟨_,hm,rfl⟩
  ·rw [hy,St.wh hn,St.wh hn']
theorem afv {R:List fJ}{τ:St}{u:AO}(h:∀p∈u,p.1∉R):agree R (τ.ap u) τ:=fun _ hr=>
 St.wh fun p hp e=>h p hp (e ▸ hr)
def XX (x y:List fJ):Bool:=x.all fun r=>y.all fun q=> !fJ.beq r q
def indep (R W R' W':List fJ):Bool:=XX W R'&&XX W W'&&XX W' R
theorem FQ {x y:List fJ}(h:XX x y=true) {r q:fJ}(hr:r∈x) (hq:q∈y):r≠q:=by
 have:=ZC9.1 (ZC9.1 h r hr) q hq
 exact fJ.beq_false.1 (by simpa using this)
end GL
namespace GL
def zU:List (Nat×(Array Value→Prop)):=
 (1,fun cs=>∃n,cs= #[.int .i64 n])::
 (2,fun cs=>∃t v,cs= #[.iface t v])::
 (3,fun cs=>∃t v,cs= #[.iface t v])::
 (0,fun cs=>cs=(Lib.pow10Tab.map fun z=>Value.int .u64 z).toArray)::
 []
end GL
end Go.Proofs.YtnkbdhldiinfdaaGreatDoor
