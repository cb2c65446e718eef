/- Part 1 of the proof of a drawn law. -/
import Derived.Lib.ItoaNum
import Derived.RegionTactic
import Derived.WalkKit
set_option maxHeartbeats 20000000
set_option maxRecDepth 100000
set_option linter.all false
namespace Go.Proofs.YtnkbdhldiinfdaaGreatDoor
theorem aa:True:=trivial
theorem tv2:True∧True:=⟨aa,aa⟩
theorem tv3:True∧True∧True:=⟨aa,aa,aa⟩
theorem tv4:True∧True∧True∧True:=⟨aa,aa,aa,aa⟩
theorem tv5:True∧True∧True∧True∧True:=⟨aa,aa,aa,aa,aa⟩
theorem tv6:True∧True∧True∧True∧True∧True:=⟨aa,aa,aa,aa,aa,aa⟩
theorem tv7:True∧True∧True∧True∧True∧True∧True:=⟨aa,aa,aa,aa,aa,aa,aa⟩
theorem tv8:True∧True∧True∧True∧True∧True∧True∧True:=⟨aa,aa,aa,aa,aa,aa,aa,aa⟩
theorem tv9:True∧True∧True∧True∧True∧True∧True∧True∧True:=⟨aa,aa,aa,aa,aa,aa,aa,aa,aa⟩
theorem tv10:True∧True∧True∧True∧True∧True∧True∧True∧True∧True:=⟨aa,aa,aa,aa,aa,aa,aa,aa,aa,aa⟩
theorem tv11:True∧True∧True∧True∧True∧True∧True∧True∧True∧True∧True:=⟨aa,aa,aa,aa,aa,aa,aa,aa,aa,aa,aa⟩
theorem tv12:True∧True∧True∧True∧True∧True∧True∧True∧True∧True∧True∧True:=⟨aa,aa,aa,aa,aa,aa,aa,aa,aa,aa,aa,aa⟩
theorem tv13:True∧True∧True∧True∧True∧True∧True∧True∧True∧True∧True∧True∧True:=⟨aa,aa,aa,aa,aa,aa,aa,aa,aa,aa,aa,aa,aa⟩
theorem tv14:True∧True∧True∧True∧True∧True∧True∧True∧True∧True∧True∧True∧True∧True:=⟨aa,aa,aa,aa,aa,aa,aa,aa,aa,aa,aa,aa,aa,aa⟩
theorem tv15:True∧True∧True∧True∧True∧True∧True∧True∧True∧True∧True∧True∧True∧True∧True:=⟨aa,aa,aa,aa,aa,aa,aa,aa,aa,aa,aa,aa,aa,aa,aa⟩
theorem tv16:True∧True∧True∧True∧True∧True∧True∧True∧True∧True∧True∧True∧True∧True∧True∧True:=⟨aa,aa,aa,aa,aa,aa,aa,aa,aa,aa,aa,aa,aa,aa,aa,aa⟩
theorem tv17:True∧True∧True∧True∧True∧True∧True∧True∧True∧True∧True∧True∧True∧True∧True∧True∧True:=⟨aa,aa,aa,aa,aa,aa,aa,aa,aa,aa,aa,aa,aa,aa,aa,aa,aa⟩
theorem tv18:True∧True∧True∧True∧True∧True∧True∧True∧True∧True∧True∧True∧True∧True∧True∧True∧True∧True:=⟨aa,aa,aa,aa,aa,aa,aa,aa,aa,aa,aa,aa,aa,aa,aa,aa,aa,aa⟩
theorem tv19:True∧True∧True∧True∧True∧True∧True∧True∧True∧True∧True∧True∧True∧True∧True∧True∧True∧True∧True:=⟨aa,aa,aa,aa,aa,aa,aa,aa,aa,aa,aa,aa,aa,aa,aa,aa,aa,aa,aa⟩
theorem tv20:True∧True∧True∧True∧True∧True∧True∧True∧True∧True∧True∧True∧True∧True∧True∧True∧True∧True∧True∧True:=⟨aa,aa,aa,aa,aa,aa,aa,aa,aa,aa,aa,aa,aa,aa,aa,aa,aa,aa,aa,aa⟩
theorem aA {p:Prop}[Decidable p] (h:decide p=false):¬p:=of_decide_eq_false h
theorem aJ {p:Prop}[Decidable p] (h:decide p=true):p:=of_decide_eq_true h
theorem zqNlb {n m:Nat}(h:Nat.ble n m=true):n≤m:=Nat.le_of_ble_eq_true h
theorem a8 {P:Prop}(h:P:=by first|omega|rfl|exact List.length_append.symm):P:=h
theorem az {P:Prop}(h:P:=by repeat' (first|exact trivial|apply And.intro)):P:=h
theorem ZA0:type_of% @List.length_append:= @List.length_append
theorem ZA1:type_of% @List.length_cons:= @List.length_cons
theorem ZA2:type_of% @Option.getD_some:= @Option.getD_some
theorem ZA3:type_of% @Option.getD_none:= @Option.getD_none
theorem ZA4:type_of% @List.length_nil:= @List.length_nil
theorem ZA5:type_of% @Int.toNat_natCast:= @Int.toNat_natCast
theorem ZA6:type_of% @Nat.zero_add:= @Nat.zero_add
theorem ZA7:type_of% @Nat.zero_le:= @Nat.zero_le
theorem ZA8:type_of% @Nat.le_of_eq:= @Nat.le_of_eq
theorem ZA9:type_of% @Bool.and_eq_true:= @Bool.and_eq_true
theorem ZB0:type_of% @Nat.le_trans:= @Nat.le_trans
theorem ZB1:type_of% @List.getElem?_eq_getElem:= @List.getElem?_eq_getElem
theorem ZB2:type_of% @ByteArray.size_append:= @ByteArray.size_append
theorem ZB3:type_of% @List.drop_eq_nil_of_le:= @List.drop_eq_nil_of_le
theorem ZB4:type_of% @List.mem_append:= @List.mem_append
theorem ZB5:type_of% @Nat.le_refl:= @Nat.le_refl
theorem ZB6:type_of% @List.mem_of_getElem?:= @List.mem_of_getElem?
theorem ZB7:type_of% @Nat.le_of_ble_eq_true:= @Nat.le_of_ble_eq_true
theorem ZB8:type_of% @List.mem_cons:= @List.mem_cons
theorem ZB9:type_of% @List.length_take:= @List.length_take
theorem ZC0:type_of% @List.getElem?_eq_some_iff:= @List.getElem?_eq_some_iff
theorem ZC1:type_of% @Int.le_refl:= @Int.le_refl
theorem ZC2:type_of% @List.getElem?_append_left:= @List.getElem?_append_left
theorem ZC3:type_of% @List.length_set:= @List.length_set
theorem ZC4:type_of% @Bool.or_true:= @Bool.or_true
theorem ZC5:type_of% @ByteArray.size_extract:= @ByteArray.size_extract
theorem ZC6:type_of% @List.getElem?_append_right:= @List.getElem?_append_right
theorem ZC7:type_of% @List.mem_singleton:= @List.mem_singleton
theorem ZC8:type_of% @List.length_drop:= @List.length_drop
theorem ZC9:type_of% @List.all_eq_true:= @List.all_eq_true
theorem ZD0:type_of% @List.nil_append:= @List.nil_append
theorem ZD1:type_of% @List.take_of_length_le:= @List.take_of_length_le
theorem ZD2:type_of% @List.append_assoc:= @List.append_assoc
theorem ZD3:type_of% @Nat.le_add_right:= @Nat.le_add_right
theorem ZD4:type_of% @List.length_eq_zero_iff:= @List.length_eq_zero_iff
theorem ZD5:type_of% @List.flatMap_cons:= @List.flatMap_cons
theorem ZD6:type_of% @List.mem_replicate:= @List.mem_replicate
theorem ZD7:type_of% @Bool.and_false:= @Bool.and_false
theorem ZD8:type_of% @List.getElem?_eq_none:= @List.getElem?_eq_none
theorem ZD9:type_of% @Nat.lt_succ_self:= @Nat.lt_succ_self
theorem ZE0:type_of% @Int.le_trans:= @Int.le_trans
theorem ZE1:type_of% @Bool.or_eq_false_iff:= @Bool.or_eq_false_iff
theorem ZE2:type_of% @List.mem_range:= @List.mem_range
theorem ZE3:type_of% @Nat.add_mul:= @Nat.add_mul
theorem ZE4:type_of% @Array.length_toList:= @Array.length_toList
theorem ZE5:type_of% @List.append_nil:= @List.append_nil
theorem ZE6:type_of% @List.mem_of_mem_take:= @List.mem_of_mem_take
theorem ZE7:type_of% @List.map_cons:= @List.map_cons
theorem ZE8:type_of% @Array.getD_eq_getD_getElem?:= @Array.getD_eq_getD_getElem?
theorem ZE9:type_of% @Decidable.not_not:= @Decidable.not_not
theorem ZF0:type_of% @List.drop_zero:= @List.drop_zero
theorem ZF1:type_of% @Array.getElem?_eq_some_iff:= @Array.getElem?_eq_some_iff
theorem ZF2:type_of% @List.mem_of_mem_drop:= @List.mem_of_mem_drop
theorem ZF3:type_of% @List.getElem?_of_mem:= @List.getElem?_of_mem
theorem ZF4:type_of% @List.mem_filter:= @List.mem_filter
theorem ZF5:type_of% @List.drop_length_add_append:= @List.drop_length_add_append
theorem ZF6:type_of% @List.not_mem_nil:= @List.not_mem_nil
theorem ZF7:type_of% @Nat.add_assoc:= @Nat.add_assoc
theorem ZF8:type_of% @Bool.not_eq_true':= @Bool.not_eq_true'
theorem ZF9:type_of% @List.drop_drop:= @List.drop_drop
theorem ZG0:type_of% @Array.getElem?_eq_getElem:= @Array.getElem?_eq_getElem
theorem ZG1:type_of% @List.take_append_drop:= @List.take_append_drop
theorem ZG2:type_of% @List.length_replicate:= @List.length_replicate
theorem ZG3:type_of% @Nat.lt_of_lt_of_le:= @Nat.lt_of_lt_of_le
theorem ZG4:type_of% @Nat.add_sub_cancel_left:= @Nat.add_sub_cancel_left
theorem ZG5:type_of% @List.length_map:= @List.length_map
theorem ZG6:type_of% @Nat.mul_le_mul_right:= @Nat.mul_le_mul_right
theorem ZG7:type_of% @List.cons_append:= @List.cons_append
theorem ZG8:type_of% @Option.some.inj:= @Option.some.inj
theorem ZG9:type_of% @List.cons.injEq:= @List.cons.injEq
theorem ZH0:type_of% @Nat.zero_mul:= @Nat.zero_mul
theorem ZH1:type_of% @Int.not_lt:= @Int.not_lt
theorem ζ {α:Sort _}{a:α}:a=a:=rfl
namespace GL
inductive CP where
 |i64
 |row
 |u8
 |str (n:Nat)
 |bool
abbrev CP.Ty:CP→Type
 |.i64=>Int
 |.row=>Int
 |.u8=>Int
 |.str _=>ByteArray
 |.bool=>Bool
def CP.val:(c:CP)→c.Ty→Value
 |.i64,n=>.int .i64 n
 |.row,n=>.int .i64 n
 |.u8,n=>.int .u8 n
 |.str _,s=>.string s
 |.bool,b=>.bool b
def CP.ok:(c:CP)→c.Ty→Prop
 |.i64,n=> -9223372036854775808≤n∧n≤9223372036854775807
 |.row,n=>0≤n∧n≤63
 |.u8,n=>0≤n∧n≤255
 |.str m,s=>s.size≤m
 |.bool,_=>True
abbrev EK:=List CP
def CP.beq:CP→CP→Bool
 |.i64,.i64=>true
 |.row,.row=>true
 |.u8,.u8=>true
 |.str m,.str n=>Nat.beq m n
 |.bool,.bool=>true
 |_,_=>false
theorem CP.eq_of_beq {x y:CP}(h:x.beq y=true):x=y:=by
 cases x<;>cases y<;>simp [CP.beq] at h ⊢ <;>exact h
def EK.beq:List CP→List CP→Bool
 |[],[]=>true
 |x::l,y::m=>x.beq y&&EK.beq l m
 |_,_=>false
theorem EK.eq_of_beq:∀{l m:List CP},EK.beq l m=true→l=m
 |[],[],_=>rfl
 |[],_::_,h=>by cases h
 |_::_,[],h=>by cases h
 |x::l,y::m,h=>by
  simp only [EK.beq,ZA9] at h
  rw [CP.eq_of_beq h.1,EK.eq_of_beq h.2]
abbrev EK.Ty:List CP→Type
 |[]=>Unit
 |[c]=>c.Ty
 |c::d::l=>c.Ty×EK.Ty (d::l)
def EK.cells:(ek:List CP)→EK.Ty ek→List Value
 |[],_=>[]
 |[c],x=>[c.val x]
 |c::d::l,x=>c.val x.1::EK.cells (d::l) x.2
def EK.ok:(ek:List CP)→EK.Ty ek→Prop
 |[],_=>True
 |[c],x=>c.ok x
 |c::d::l,x=>c.ok x.1∧EK.ok (d::l) x.2
def one (v:Value):Bool:=v.oneCell'
theorem CP.val_one (c:CP) (x:c.Ty):one (c.val x)=true:=by cases c<;>rfl
theorem EK.bK:∀(ek:List CP) (x:EK.Ty ek),(EK.cells ek x).length=ek.length
 |[],_=>rfl
 |[_],_=>rfl
 |_::d::l,x=>by simp [EK.cells,EK.bK (d::l) x.2]
theorem EK.NI:∀(ek:List CP) (x:EK.Ty ek),∀v∈EK.cells ek x,one v=true
 |[],_,v,h=>by cases h
 |[c],x,v,h=>by
  simp only [EK.cells,ZC7] at h
  subst h;exact c.val_one x
 |c::d::l,x,v,h=>by
  simp only [EK.cells,ZB8] at h
  rcases h with rfl |h
  ·exact c.val_one x.1
  ·exact EK.NI (d::l) x.2 v h
def flat (ek:EK) (l:List (EK.Ty ek)):List Value:=l.flatMap (EK.cells ek)
theorem aew (ek:EK):flat ek []=[]:=rfl
theorem iS (ek:EK) (x:EK.Ty ek) (l:List (EK.Ty ek)):flat ek (x::l)=EK.cells ek x++flat ek l:=rfl
theorem gD (ek:EK) (l m:List (EK.Ty ek)):flat ek (l++m)=flat ek l++flat ek m:=by simp [flat]
theorem cA (ek:EK):∀(l:List (EK.Ty ek)),(flat ek l).length=l.length*ek.length
 |[]=>by simp [flat]
 |x::l=>by simp [iS,EK.bK,cA ek l,ZE3,Nat.add_comm]
theorem aev (ek:EK) (l:List (EK.Ty ek)):∀v∈flat ek l,one v=true:=by
 intro v hv
 obtain⟨x,_,h⟩:=List.mem_flatMap.1 hv
 exact EK.NI ek x v h
theorem ph (ek:EK):∀(l:List (EK.Ty ek)) (k:Nat),(flat ek l).drop (k*ek.length)=flat ek (l.drop k)
 |_,0=>by simp
 |[],k+1=>by simp [flat]
 |x::l,k+1=>by
  rw [iS,ZE3,Nat.one_mul,Nat.add_comm,←ZF9]
  have h:(EK.cells ek x++flat ek l).drop ek.length=flat ek l:=by
   rw [←EK.bK ek x];simp
  rw [h,List.drop_succ_cons,ph ek l k]
theorem mX (ek:EK):∀(l:List (EK.Ty ek)) (k:Nat),(flat ek l).take (k*ek.length)=flat ek (l.take k)
 |_,0=>by simp [flat]
 |[],k+1=>by simp [flat]
 |x::l,k+1=>by
  rw [iS,List.take_succ_cons,iS,←mX ek l k,List.take_append,EK.bK,ZE3,Nat.one_mul]
  rw [ZD1 (by rw [EK.bK];omega)]
  congr 2
  omega
theorem Z3 (ek:EK) (l:List (EK.Ty ek)) (k:Nat) (x:EK.Ty ek) (h:l[k]?=some x):((flat ek l).drop (k*ek.length)).take ek.length=EK.cells ek x:=by
 rw [ph]
 obtain⟨hk,rfl⟩:=ZC0.1 h
 rw [List.drop_eq_getElem_cons hk,iS,List.take_append_of_le_length (by rw [EK.bK];exact ZB5 _),ZD1 (by rw [EK.bK];exact ZB5 _)]
theorem TY (ek:EK) (l:List (EK.Ty ek)) (k j:Nat) (x:EK.Ty ek) (h:l[k]?=some x) (hj:j<ek.length):(flat ek l)[k*ek.length+j]?=(EK.cells ek x)[j]?:=by
 rw [←Z3 ek l k x h,List.getElem?_take,if_pos hj,List.getElem?_drop]
inductive CV where
 |v (x:Value)
 |q (b:Bool)
 |vz (ek:EK) (l:List (EK.Ty ek))
inductive SV where
 |v (x:Value)
 |q (b:Bool)
 |bp (i off:Nat)
 |xp (i sz k j:Nat)
 |xs (i sz o m:Nat)
 |ep (ek:EK) (j:Nat)
 |sl (ek:EK) (len:Nat)
 |vw (ek:EK) (l:List (EK.Ty ek))
 |vz (ek:EK) (l:List (EK.Ty ek))
 |vp (ek:EK) (x:EK.Ty ek) (j:Nat)
 |vs (l:List CV) (j:Nat)
 |er (b:Bool)
 |e0
def CV.sv:CV→SV
 |.v x=>.v x
 |.q b=>.q b
 |.vz ek l=>.vz ek l
def cvs:List CV→List SV
 |[]=>[]
 |x::l=>x.sv::cvs l
inductive A0 where
 |s (x:SV)
 |a (l:List SV)
inductive AV where
 |o (x:A0)
 |t (l:List A0)
 |rs (ek:EK) (l:List (EK.Ty ek))
 |zz
 |fn (f:Nat) (DA:List (Nat×Nat))
abbrev AV.s (x:SV):AV:=.o (.s x)
abbrev AV.a (l:List SV):AV:=.o (.a l)
abbrev AV.int (n:Int):AV:=.o (.s (.v (.int .i64 n)))
abbrev AV.byte (n:Int):AV:=.o (.s (.v (.int .u8 n)))
abbrev AV.q (b:Bool):AV:=.o (.s (.q b))
abbrev AV.str (s:ByteArray):AV:=.o (.s (.v (.string s)))
abbrev SV.int (n:Int):SV:=.v (.int .i64 n)
abbrev SV.byte (n:Int):SV:=.v (.int .u8 n)
abbrev SV.str (s:ByteArray):SV:=.v (.string s)
def CP.sv:(c:CP)→c.Ty→SV
 |.i64,n=>.v (.int .i64 n)
 |.row,n=>.v (.int .i64 n)
 |.u8,n=>.v (.int .u8 n)
 |.str _,s=>.v (.string s)
 |.bool,b=>.q b
def EK.AX:(ek:List CP)→EK.Ty ek→List SV
 |[],_=>[]
 |[c],x=>[c.sv x]
 |c::d::l,x=>c.sv x.1::EK.AX (d::l) x.2
inductive BK where
 |ty (ek:EK) (n:Nat)
 |ro (cs:Array Value) (e:TypeId) (fr:Nat×Nat)
 |ln (cs:Array Value) (e:TypeId) (fr:Nat×Nat)
 |fz (ek:EK) (n:Nat) (cs:Array Value)
 |bx (n:Nat)
abbrev bb:=Nat→Option BK
def win (cs:Array Value) (o:Nat) (l:List Value):Prop:=∀j v,l[j]?=some v→cs[o+j]?=some v
def rdT (T:bb) (b:Nat) (cs:Array Value):Prop:=(∃e fr,T b=some (.ro cs e fr))∨(∃e fr,T b=some (.ln cs e fr))∨∃ek n,T b=some (.fz ek n cs)
def CV.rel (T:bb):CV→Value→Prop
 |.v x,y=>y=x
 |.q b,y=>y= .bool b
 |.vz ek l,y=>(l=[]∧∃p cap,y= .slice p 0 cap)∨∃b o cap cs,y= .slice (some ⟨b,o,none⟩) l.length cap∧l.length≤cap∧rdT T b cs∧win cs o (flat ek l)
def xl (T:bb):List CV→List Value→Prop
 |[],[]=>True
 |x::l,y::r=>x.rel T y∧xl T l r
 |_,_=>False
def SV.rel (T:bb) (β:Nat→Nat):SV→Value→Prop
 |.v x,y=>y=x
 |.q b,y=>y= .bool b
 |.bp i off,y=>y= .pointer (some ⟨β i,off,none⟩)
 |.xp i sz k j,y=>y= .pointer (some ⟨β i,k*sz+j,none⟩)∧j<sz
 |.xs i sz o m,y=>(m=0∧∃p,y= .slice p 0 0)∨∃cap n,y= .slice (some ⟨β i,o*sz,none⟩) m cap∧m≤cap∧T (β i)=some (.bx n)∧(o+cap)*sz≤n
 |.ep ek j,y=>∃b o n,y= .pointer (some ⟨b,o*ek.length+j,none⟩)∧T b=some (.ty ek n)∧o<n∧j<ek.length
 |.sl ek len,y=>(len=0∧∃p,y= .slice p 0 0)∨∃b o cap n,y= .slice (some ⟨b,o*ek.length,none⟩) len cap∧len≤cap∧T b=some (.ty ek n)∧o+cap≤n
 |.vw ek l,y=>(l=[]∧∃p cap,y= .slice p 0 cap)∨∃b o cap cs e fr,y= .slice (some ⟨b,o,none⟩) l.length cap∧l.length≤cap∧T b=some (.ro cs e fr)∧win cs o (flat ek l)
 |.vz ek l,y=>(l=[]∧∃p cap,y= .slice p 0 cap)∨∃b o cap cs,y= .slice (some ⟨b,o,none⟩) l.length cap∧l.length≤cap∧rdT T b cs∧win cs o (flat ek l)
 |.vp ek x j,y=>∃b o cs,y= .pointer (some ⟨b,o+j,none⟩)∧j<ek.length∧rdT T b cs∧win cs o (EK.cells ek x)
 |.vs l j,y=>∃b cs,y= .pointer (some ⟨b,j,none⟩)∧rdT T b cs∧xl T l cs.toList
 |.er b,y=>match b with
  |true=>y= .nilIface
  |false=>∃t v,y= .iface t v
 |.e0,y=>∃p,y= .slice p 0 0
def dN (T:bb) (β:Nat→Nat):List SV→List Value→Prop
 |[],[]=>True
 |x::l,y::r=>x.rel T β y∧dN T β l r
 |_,_=>False
def A0.rel (T:bb) (β:Nat→Nat):A0→Value→Prop
 |.s x,y=>x.rel T β y
 |.a l,y=>∃cs,y= .agg cs∧dN T β l cs.toList
def uD (T:bb) (β:Nat→Nat):List A0→List Value→Prop
 |[],[]=>True
 |x::l,y::r=>x.rel T β y∧uD T β l r
 |_,_=>False
def E1 (β:Nat→Nat):List (Nat×Nat)→List Value
 |[]=>[]
 |p::l=>.pointer (some ⟨β p.1,p.2,none⟩)::E1 β l
def AV.rel (T:bb) (β:Nat→Nat):AV→Value→Prop
 |.o x,y=>x.rel T β y
 |.t l,y=>∃vs,y= .tuple vs∧uD T β l vs.toList
 |.fn f l,y=>∃cs,y= .func (.func f) #[] cs∧cs.toList=E1 β l
 |_,_=>False
def AV.rU (T:bb) (β:Nat→Nat):AV→Array Value→Prop
 |.o (.a l),cs=>dN T β l cs.toList
 |.rs ek l,cs=>ek≠[]∧∃z,cs.toList=flat ek (l++z)∧∀x∈z,EK.ok ek x
 |_,_=>False
def SV.boxes:SV→List Nat
 |.bp i _=>[i]
 |.xp i _ _ _=>[i]
 |.xs i _ _ _=>[i]
 |_=>[]
def cc:List SV→List Nat
 |[]=>[]
 |x::l=>x.boxes++cc l
def A0.boxes:A0→List Nat
 |.s x=>x.boxes
 |.a l=>cc l
def eS:List A0→List Nat
 |[]=>[]
 |x::l=>x.boxes++eS l
def jH:List (Nat×Nat)→List Nat
 |[]=>[]
 |p::l=>p.1::jH l
def AV.boxes:AV→List Nat
 |.o x=>x.boxes
 |.t l=>eS l
 |.fn _ l=>jH l
 |_=>[]
theorem gJ {i:Nat}:∀{l:List SV},i∈cc l↔∃x∈l,i∈x.boxes
 |[]=>by simp [cc]
 |x::l=>by simp [cc,gJ (l:=l)]
theorem HY {i:Nat}:∀{l:List A0},i∈eS l↔∃x∈l,i∈x.boxes
 |[]=>by simp [eS]
 |x::l=>by simp [eS,HY (l:=l)]
def SV.ly (g:Nat→Nat):SV→SV
 |.bp i o=>.bp (g i) o
 |.xp i sz k j=>.xp (g i) sz k j
 |.xs i sz o m=>.xs (g i) sz o m
 |x=>x
def BL (g:Nat→Nat):List SV→List SV
 |[]=>[]
 |x::l=>x.ly g::BL g l
def A0.ly (g:Nat→Nat):A0→A0
 |.s x=>.s (x.ly g)
 |.a l=>.a (BL g l)
def BJ (g:Nat→Nat):List A0→List A0
 |[]=>[]
 |x::l=>x.ly g::BJ g l
def BM (g:Nat→Nat):List (Nat×Nat)→List (Nat×Nat)
 |[]=>[]
 |p::l=>(g p.1,p.2)::BM g l
def AV.ly (g:Nat→Nat):AV→AV
 |.o x=>.o (x.ly g)
 |.t l=>.t (BJ g l)
 |.fn f l=>.fn f (BM g l)
 |x=>x
section
variable {T T':bb}{β β':Nat→Nat}{g:Nat→Nat}
def uS (T T':bb):Prop:=∀b k,T b=some k→T' b=some k
theorem zq (h:uS T T') {b:Nat}{cs:Array Value}(hr:rdT T b cs):rdT T' b cs:=by
 rcases hr with ⟨e,fr,h1⟩ |⟨e,fr,h1⟩ |⟨ek,n,h1⟩
 ·exact .inl ⟨e,fr,h _ _ h1⟩
 ·exact .inr (.inl ⟨e,fr,h _ _ h1⟩)
 ·exact .inr (.inr ⟨ek,n,h _ _ h1⟩)
theorem CV.acM {x:CV}{v:Value}:x.rel T v↔x.sv.rel T β v:=by cases x<;>exact Iff.rfl
theorem zo:∀{l:List CV}{cs:List Value},xl T l cs→dN T β (cvs l) cs
 |[],[],_=>trivial
 |_::_,[],h=>h.elim
 |[],_::_,h=>h.elim
 |_::_,_::_,h=>⟨CV.acM.1 h.1,zo h.2⟩
theorem CV.acN (h:∀b cs,rdT T b cs→rdT T' b cs) {x:CV}{v:Value}(hr:x.rel T v):x.rel T' v:=by
 cases x with
 |v x=>exact hr
 |q b=>exact hr
 |vz ek l=>
  rcases hr with hr |⟨b,o,cap,cs,h1,h2,h3,h4⟩
  ·exact .inl hr
  ·exact .inr ⟨b,o,cap,cs,h1,h2,h _ _ h3,h4⟩
theorem E9 (h:∀b cs,rdT T b cs→rdT T' b cs):∀{l:List CV}{cs:List Value},xl T l cs→xl T' l cs
 |[],[],_=>trivial
 |_::_,[],h'=>h'.elim
 |[],_::_,h'=>h'.elim
 |_::_,_::_,h'=>⟨CV.acN h h'.1,E9 h h'.2⟩
theorem SV.nJ (h:uS T T') {x:SV}{v:Value}(hr:x.rel T β v):x.rel T' β v:=by
 cases x with
 |v x=>exact hr
 |q b=>exact hr
 |bp i o=>exact hr
 |xp i sz k j=>exact hr
 |xs i sz o m=>
  rcases hr with hr |⟨cap,n,h1,h2,h3,h4⟩
  ·exact .inl hr
  ·exact .inr ⟨cap,n,h1,h2,h _ _ h3,h4⟩
 |ep ek j=>obtain⟨b,o,n,h1,h2,h3⟩:=hr;exact⟨b,o,n,h1,h _ _ h2,h3⟩
 |sl ek len=>
  rcases hr with hr |⟨b,o,cap,n,h1,h2,h3,h4⟩
  ·exact .inl hr
  ·exact .inr ⟨b,o,cap,n,h1,h2,h _ _ h3,h4⟩
 |vw ek l=>
  rcases hr with hr |⟨b,o,cap,cs,e,fr,h1,h2,h3,h4⟩
  ·exact .inl hr
  ·exact .inr ⟨b,o,cap,cs,e,fr,h1,h2,h _ _ h3,h4⟩
 |vz ek l=>
  rcases hr with hr |⟨b,o,cap,cs,h1,h2,h3,h4⟩
  ·exact .inl hr
  ·exact .inr ⟨b,o,cap,cs,h1,h2,zq h h3,h4⟩
 |vp ek x j=>
  obtain⟨b,o,cs,h1,h2,h3,h4⟩:=hr
  exact⟨b,o,cs,h1,h2,zq h h3,h4⟩
 |vs l j=>
  obtain⟨b,cs,h1,h2,h3⟩:=hr
  exact⟨b,cs,h1,zq h h2,E9 (λ_ _=>zq h) h3⟩
 |er b=>exact hr
 |e0=>exact hr
theorem BO (h:uS T T'):∀{l:List SV}{cs:List Value},dN T β l cs→dN T' β l cs
 |[],[],_=>trivial
 |_::_,[],h'=>h'.elim
 |[],_::_,h'=>h'.elim
 |_::_,_::_,h'=>⟨SV.nJ h h'.1,BO h h'.2⟩
theorem A0.nJ (h:uS T T') {x:A0}{v:Value}(hr:x.rel T β v):x.rel T' β v:=by
 cases x with
 |s x=>exact SV.nJ h hr
 |a l=>obtain⟨cs,e,hl⟩:=hr;exact⟨cs,e,BO h hl⟩
theorem LI (h:uS T T'):∀{l:List A0}{cs:List Value},uD T β l cs→uD T' β l cs
 |[],[],_=>trivial
 |_::_,[],h'=>h'.elim
 |[],_::_,h'=>h'.elim
 |_::_,_::_,h'=>⟨A0.nJ h h'.1,LI h h'.2⟩
theorem AV.nJ (h:uS T T') {x:AV}{v:Value}(hr:x.rel T β v):x.rel T' β v:=by
 cases x with
 |o x=>exact A0.nJ h hr
 |t l=>obtain⟨cs,e,hl⟩:=hr;exact⟨cs,e,LI h hl⟩
 |rs ek l=>exact hr
 |zz=>exact hr
 |fn f l=>exact hr
theorem AV.JS (h:uS T T') {x:AV}{cs:Array Value}(hr:x.rU T β cs):x.rU T' β cs:=by
 cases x with
 |o x=>
  cases x with
  |s x=>exact hr
  |a l=>exact BO h hr
 |_=>exact hr
theorem SV.np {x:SV}(h:∀i∈x.boxes,β' (g i)=β i) {v:Value}(hr:x.rel T β v):(x.ly g).rel T β' v:=by
 cases x with
 |bp i o=>
  have:=h i (by simp [SV.boxes])
  show v=_
  rw [this];exact hr
 |xp i sz k j=>
  have:=h i (by simp [SV.boxes])
  show v=_∧_
  rw [this];exact hr
 |xs i sz o m=>
  have:=h i (by simp [SV.boxes])
  rcases hr with hr |⟨cap,n,h1,h2,h3,h4⟩
  ·exact .inl hr
  ·exact .inr ⟨cap,n,by rw [this];exact h1,h2,by rw [this];exact h3,h4⟩
 |_=>exact hr
theorem zn:∀{l:List SV}{cs:List Value},(∀i∈cc l,β' (g i)=β i)→dN T β l cs→dN T β' (BL g l) cs
 |[],[],_,_=>trivial
 |_::_,[],_,h'=>h'.elim
 |[],_::_,_,h'=>h'.elim
 |_::_,_::_,hd,h'=>by
  simp only [cc,ZB4] at hd
  exact⟨SV.np (λi hi=>hd i (.inl hi)) h'.1,zn (λi hi=>hd i (.inr hi)) h'.2⟩
theorem A0.np {x:A0}(h:∀i∈x.boxes,β' (g i)=β i) {v:Value}(hr:x.rel T β v):(x.ly g).rel T β' v:=by
 cases x with
 |s x=>exact SV.np h hr
 |a l=>obtain⟨cs,e,hl⟩:=hr;exact⟨cs,e,zn h hl⟩
theorem RB:∀{l:List A0}{cs:List Value},(∀i∈eS l,β' (g i)=β i)→uD T β l cs→uD T β' (BJ g l) cs
 |[],[],_,_=>trivial
 |_::_,[],_,h'=>h'.elim
 |[],_::_,_,h'=>h'.elim
 |_::_,_::_,hd,h'=>by
  simp only [eS,ZB4] at hd
  exact⟨A0.np (λi hi=>hd i (.inl hi)) h'.1,RB (λi hi=>hd i (.inr hi)) h'.2⟩
theorem UH:∀{l:List (Nat×Nat)},(∀i∈jH l,β' (g i)=β i)→E1 β' (BM g l)=E1 β l
 |[],_=>rfl
 |p::l,h=>by
  simp only [jH,ZB8] at h
  simp only [E1,BM]
  rw [h _ (.inl rfl),UH (λi hi=>h i (.inr hi))]
theorem AV.np {x:AV}(h:∀i∈x.boxes,β' (g i)=β i) {v:Value}(hr:x.rel T β v):(x.ly g).rel T β' v:=by
 cases x with
 |o x=>exact A0.np h hr
 |t l=>obtain⟨cs,e,hl⟩:=hr;exact⟨cs,e,RB h hl⟩
 |rs ek l=>exact hr
 |zz=>exact hr
 |fn f l=>obtain⟨cs,e,hl⟩:=hr;exact⟨cs,e,hl.trans (UH h).symm⟩
theorem AV.FT {x:AV}(h:∀i∈x.boxes,β' (g i)=β i) {cs:Array Value}(hr:x.rU T β cs):(x.ly g).rU T β' cs:=by
 cases x with
 |o x=>
  cases x with
  |s x=>exact hr
  |a l=>exact zn h hr
 |_=>exact hr
theorem SV.va {x:SV}:x.ly (λi=>i)=x:=by cases x<;>rfl
theorem N8:∀{l:List SV},BL (λi=>i) l=l
 |[]=>rfl
 |x::l=>by simp [BL,SV.va,N8 (l:=l)]
theorem A0.va {x:A0}:x.ly (λi=>i)=x:=by
 cases x with
 |s x=>simp [A0.ly,SV.va]
 |a l=>simp [A0.ly,N8]
theorem YX:∀{l:List A0},BJ (λi=>i) l=l
 |[]=>rfl
 |x::l=>by simp [BJ,A0.va,YX (l:=l)]
theorem YY:∀{l:List (Nat×Nat)},BM (λi=>i) l=l
 |[]=>rfl
 |p::l=>by simp [BM,YY (l:=l)]
theorem AV.va {x:AV}:x.ly (λi=>i)=x:=by
 cases x with
 |o x=>simp [AV.ly,A0.va]
 |t l=>simp [AV.ly,YX]
 |fn f l=>simp [AV.ly,YY]
 |_=>rfl
theorem AV.acO {x:AV}(h:∀i∈x.boxes,β' i=β i) {v:Value}(hr:x.rel T β v):x.rel T β' v:=by
 have:=AV.np (g:=λi=>i) h hr
 rwa [AV.va] at this
theorem AV.X2 {x:AV}(h:∀i∈x.boxes,β' i=β i) {cs:Array Value}(hr:x.rU T β cs):x.rU T β' cs:=by
 have:=AV.FT (g:=λi=>i) h hr
 rwa [AV.va] at this
theorem SV.gl {x:SV}{i:Nat}(h:i∈(x.ly g).boxes):∃j∈x.boxes,i=g j:=by
 cases x<;>simp [SV.ly,SV.boxes] at h ⊢ <;>exact h
theorem GY {i:Nat}:∀{l:List SV},i∈cc (BL g l)→∃j∈cc l,i=g j
 |[],h=>by simp [BL,cc] at h
 |x::l,h=>by
  simp only [BL,cc,ZB4] at h
  rcases h with h |h
  ·obtain⟨j,hj,e⟩:=SV.gl h;exact⟨j,by simp [cc,hj],e⟩
  ·obtain⟨j,hj,e⟩:=GY h;exact⟨j,by simp [cc,hj],e⟩
theorem A0.gl {x:A0}{i:Nat}(h:i∈(x.ly g).boxes):∃j∈x.boxes,i=g j:=by
 cases x with
 |s x=>exact SV.gl h
 |a l=>exact GY h
theorem GX {i:Nat}:∀{l:List A0},i∈eS (BJ g l)→∃j∈eS l,i=g j
 |[],h=>by simp [BJ,eS] at h
 |x::l,h=>by
  simp only [BJ,eS,ZB4] at h
  rcases h with h |h
  ·obtain⟨j,hj,e⟩:=A0.gl h;exact⟨j,by simp [eS,hj],e⟩
  ·obtain⟨j,hj,e⟩:=GX h;exact⟨j,by simp [eS,hj],e⟩
theorem GZ {i:Nat}:∀{l:List (Nat×Nat)},i∈jH (BM g l)→∃j∈jH l,i=g j
 |[],h=>by simp [BM,jH] at h
 |p::l,h=>by
  simp only [BM,jH,ZB8] at h
  rcases h with h |h
  ·exact⟨p.1,by simp [jH],h⟩
  ·obtain⟨j,hj,e⟩:=GZ h;exact⟨j,by simp [jH,hj],e⟩
theorem AV.gl {x:AV}{i:Nat}(h:i∈(x.ly g).boxes):∃j∈x.boxes,i=g j:=by
 cases x with
 |o x=>exact A0.gl h
 |t l=>exact GX h
 |fn f l=>exact GZ h
 |rs ek l=>simp [AV.ly,AV.boxes] at h
 |zz=>simp [AV.ly,AV.boxes] at h
end
section
variable {T:bb}{β:Nat→Nat}
theorem jj:∀{l:List SV}{cs:List Value},dN T β l cs→l.length=cs.length
 |[],[],_=>rfl
 |_::_,[],h=>h.elim
 |[],_::_,h=>h.elim
 |_::l,_::cs,h=>by simp [jj h.2]
theorem qU:∀{l:List SV}{cs:List Value},dN T β l cs→∀{i:Nat}{x:SV},l[i]?=some x→∃v,cs[i]?=some v∧x.rel T β v
 |[],[],_,i,x,hx=>by simp at hx
 |_::_,[],h,_,_,_=>h.elim
 |[],_::_,h,_,_,_=>h.elim
 |y::l,v::cs,h,i,x,hx=>by
  cases i with
  |zero=>simp at hx;subst hx;exact⟨v,by simp,h.1⟩
  |succ i=>simpa using qU h.2 (by simpa using hx)
theorem wz:∀{l:List SV}{cs:List Value}(n:Nat),dN T β l cs→dN T β (l.take n) (cs.take n)
 |_,_,0,_=>by simp [dN]
 |[],[],_,_=>by simp [dN]
 |_::_,[],_,h=>h.elim
 |[],_::_,_,h=>h.elim
 |_::l,_::cs,n+1,h=>⟨h.1,wz n h.2⟩
theorem wA:∀{l:List SV}{cs:List Value}(n:Nat),dN T β l cs→dN T β (l.drop n) (cs.drop n)
 |_,_,0,h=>by simpa using h
 |[],[],_,_=>by simp [dN]
 |_::_,[],_,h=>h.elim
 |[],_::_,_,h=>h.elim
 |_::l,_::cs,n+1,h=>by simpa using wA n h.2
theorem YZ:∀{l:List A0}{cs:List Value},uD T β l cs→∀{i:Nat}{x:A0},l[i]?=some x→∃v,cs[i]?=some v∧x.rel T β v
 |[],[],_,i,x,hx=>by simp at hx
 |_::_,[],h,_,_,_=>h.elim
 |[],_::_,h,_,_,_=>h.elim
 |y::l,v::cs,h,i,x,hx=>by
  cases i with
  |zero=>simp at hx;subst hx;exact⟨v,by simp,h.1⟩
  |succ i=>simpa using YZ h.2 (by simpa using hx)
theorem RC:∀{l:List A0}{cs:List Value},uD T β l cs→l.length=cs.length
 |[],[],_=>rfl
 |_::_,[],h=>h.elim
 |[],_::_,h=>h.elim
 |_::l,_::cs,h=>by simp [RC h.2]
theorem CP.UX (c:CP) (x:c.Ty):(c.sv x).rel T β (c.val x):=by cases c<;>rfl
theorem EK.E4:∀(ek:List CP) (x:EK.Ty ek),dN T β (EK.AX ek x) (EK.cells ek x)
 |[],_=>trivial
 |[c],x=>⟨c.UX x,trivial⟩
 |c::d::l,x=>⟨c.UX x.1,EK.E4 (d::l) x.2⟩
theorem EK.A9:∀(ek:List CP) (x:EK.Ty ek),cc (EK.AX ek x)=[]
 |[],_=>rfl
 |[c],x=>by cases c<;>rfl
 |c::d::l,x=>by
  have:=EK.A9 (d::l) x.2
  cases c<;>simp [EK.AX,cc,CP.sv,SV.boxes,this]
end
inductive fJ where
 |s (n:Nat)
 |b (n:Nat)
 deriving DecidableEq
def fJ.beq:fJ→fJ→Bool
 |.s m,.s n=>Nat.beq m n
 |.b m,.b n=>Nat.beq m n
 |_,_=>false
theorem fJ.beq_iff {x y:fJ}:x.beq y=true↔x=y:=by
 cases x<;>cases y<;>simp [fJ.beq]
theorem fJ.beq_false {x y:fJ}:x.beq y=false↔x≠y:=by
 rw [←Bool.not_eq_true,ne_eq,fJ.beq_iff]
theorem fJ.UK (x:fJ):x.beq x=true:=fJ.beq_iff.2 rfl
abbrev St:=fJ→Option AV
abbrev AO:=List (fJ×AV)
def St.ap (τ:St):AO→St
 |[]=>τ
 |(k,v)::u=>λr=>bif fJ.beq k r then some v else St.ap τ u r
def agree (R:List fJ) (τ τ':St):Prop:=∀r∈R,τ r=τ' r
theorem St.wh {τ:St}{u:AO}{r:fJ}(h:∀p∈u,p.1≠r):τ.ap u r=τ r:=by
 induction u with
 |nil=>rfl
 |cons p u ih=>
  obtain⟨k,v⟩:=p
  have hk:fJ.beq k r=false:=fJ.beq_false.2 (h (k,v) (by simp))
  show (bif fJ.beq k r then some v else St.ap τ u r)=_
  rw [hk]
  exact ih λp hp=>h p (by simp [hp])
theorem St.AN {τ:St}{u:AO}{r:fJ}:(∃v,τ.ap u r=some v∧(r,v)∈u)∨(τ.ap u r=τ r∧∀p∈u,p.1≠r):=by
 induction u with
 |nil=>exact .inr ⟨rfl,λ_ h=>by cases h⟩
 |cons p u ih=>
  obtain⟨k,v⟩:=p
  cases hk:fJ.beq k r with
  |true=>
   obtain rfl:=fJ.beq_iff.1 hk
   exact .inl ⟨v,by show (bif fJ.beq k k then some v else St.ap τ u k)=_;rw [hk];rfl,by simp⟩
  |false=>
   have e:St.ap τ ((k,v)::u) r=St.ap τ u r:=by
    show (bif fJ.beq k r then some v else St.ap τ u r)=_
    rw [hk];rfl
   rcases ih with ⟨x,hx,hm⟩ |⟨hx,hn⟩
   ·exact .inl ⟨x,by rw [e,hx],by simp [hm]⟩
   ·refine .inr ⟨by rw [e,hx],λp hp=>?_⟩
    rcases ZB8.1 hp with rfl |hp
    ·exact fJ.beq_false.1 hk
    ·exact hn p hp
theorem St.aax {τ τ':St}{r:fJ}:∀{v:AO},(∃p∈v,p.1=r)→τ.ap v r=τ'.ap v r:=by
 intro v
 induction v with
 |nil=>intro ⟨p,hp,_⟩;cases hp
 |cons p v ih=>
  obtain⟨k,z⟩:=p
  intro hex
  show (bif fJ.beq k r then some z else St.ap τ v r)=(bif fJ.beq k r then some z else St.ap τ' v r)
  cases hk:fJ.beq k r with
  |true=>rfl
  |false=>
   refine ih ?_
   obtain⟨p,hp,e⟩:=hex
   rcases ZB8.1 hp with rfl |hp
   ·exact absurd e (fJ.beq_false.1 hk)
   ·exact⟨p,hp,e⟩
theorem St.agt {τ:St}{u v:AO}(h:∀p∈u,∀q∈v,p.1≠q.1):(τ.ap u).ap v=(τ.ap v).ap u:=by
 funext r
 rcases St.AN (τ:=τ.ap u) (u:=v) (r:=r) with ⟨x,hx,hm⟩ |⟨hx,hn⟩
 ·have hu:∀p∈u,p.1≠r:=λp hp e=>h p hp _ hm e
  rw [St.wh hu]
  exact St.aax ⟨_,hm,rfl⟩
 ·rw [hx]
  rcases St.AN (τ:=τ.ap v) (u:=u) (r:=r) with ⟨y,hy,hm⟩ |⟨hy,hn'⟩
  ·exact St.aax ⟨_,hm,rfl⟩
  ·rw [hy,St.wh hn,St.wh hn']
theorem afv {R:List fJ}{τ:St}{u:AO}(h:∀p∈u,p.1∉R):agree R (τ.ap u) τ:=λ_ hr=>
 St.wh λp hp e=>h p hp (e ▸ hr)
def XX (x y:List fJ):Bool:=x.all λr=>y.all λq=> !fJ.beq r q
def indep (R W R' W':List fJ):Bool:=XX W R'&&XX W W'&&XX W' R
theorem FQ {x y:List fJ}(h:XX x y=true) {r q:fJ}(hr:r∈x) (hq:q∈y):r≠q:=by
 have:=ZC9.1 (ZC9.1 h r hr) q hq
 exact fJ.beq_false.1 (by simpa using this)
end GL
namespace GL
def zU:List (Nat×(Array Value→Prop)):=
 (1,λcs=>∃n,cs= #[.int .i64 n])::
 (2,λcs=>∃t v,cs= #[.iface t v])::
 (3,λcs=>∃t v,cs= #[.iface t v])::
 (0,λcs=>cs=(Lib.pow10Tab.map λz=>Value.int .u64 z).toArray)::
 []
end GL
namespace GL
def free (fr:Nat×Nat) (n:Nat):Prop:=fr.1=fr.2∨(n≤fr.1∧fr.1≤fr.2)
theorem I6 (n:Nat):free (0,0) n:=.inl rfl
theorem agb {fr:Nat×Nat}{n:Nat}(h:free fr n):∀i,i<n→(decide (fr.1≤i)&&decide (i<fr.2))=false:=by
 intro i hi
 rw [Bool.and_eq_false_iff]
 simp only [decide_eq_false_iff_not]
 rcases h with h |h<;>omega
def agy (ek:EK) (n:Nat) (l:List (EK.Ty ek)) (cs:Array Value):Prop:=l.length=n∧(∀x∈l,EK.ok ek x)∧cs.toList=flat ek l
def BK.holds (w:World) (b:Nat):BK→Prop
 |.ty ek n=>ek≠[]∧∃cs e fr l,w.heap[b]?=some (.cells cs e fr)∧free fr cs.size∧agy ek n l cs
 |.ro cs e fr=>w.heap[b]?=some (.cells cs e fr)
 |.ln cs e fr=>w.heap[b]?=some (.cells cs e fr)
 |.fz ek n cs=>ek≠[]∧∃e fr l,w.heap[b]?=some (.cells cs e fr)∧free fr cs.size∧agy ek n l cs
 |.bx n=>∃cs e,w.heap[b]?=some (.cells cs e (0,0))∧cs.size=n
def BK.un:BK→BK
 |.fz ek n _=>.ty ek n
 |k=>k
def WT (T:bb) (w:World):Prop:=∀b k,T b=some k→k.holds w b
theorem BK.lt {w:World}{b:Nat}{k:BK}(h:k.holds w b):b<w.heap.size:=by
 cases k with
 |ty ek n=>obtain⟨_,cs,e,fr,l,h,_⟩:=h;exact (ZF1.1 h).1
 |ro cs e fr=>exact (ZF1.1 h).1
 |ln cs e fr=>exact (ZF1.1 h).1
 |fz ek n cs=>obtain⟨_,e,fr,l,h,_⟩:=h;exact (ZF1.1 h).1
 |bx n=>obtain⟨cs,e,h,_⟩:=h;exact (ZF1.1 h).1
theorem BK.qn {w w':World}{b:Nat}{k:BK}(h:k.holds w b) (e:w'.heap[b]?=w.heap[b]?):k.holds w' b:=by
 cases k with
 |ty ek n=>exact⟨h.1,by rw [e];exact h.2⟩
 |ro cs e' fr=>show w'.heap[b]?=_;rw [e];exact h
 |ln cs e' fr=>show w'.heap[b]?=_;rw [e];exact h
 |fz ek n cs=>exact⟨h.1,by rw [e];exact h.2⟩
 |bx n=>show∃cs e,_∧_;rw [e];exact h
theorem FA {T:bb}{w:World}(h:WT T w) {b:Nat}{cs:Array Value}(hr:rdT T b cs):∃e fr,w.heap[b]?=some (.cells cs e fr):=by
 rcases hr with ⟨e,fr,h1⟩ |⟨e,fr,h1⟩ |⟨ek,n,h1⟩
 ·exact⟨e,fr,h _ _ h1⟩
 ·exact⟨e,fr,h _ _ h1⟩
 ·obtain⟨_,e,fr,l,h2,_⟩:=h _ _ h1;exact⟨e,fr,h2⟩
structure Ctx where
 W:World
 T:bb
 H:List Nat
def quiet:Option BK→Prop
 |none=>True
 |some (.bx _)=>True
 |_=>False
def live (τ:St) (i:Nat):Prop:=match τ (.b i) with
 |none=>False
 |some .zz=>False
 |_=>True
theorem kD {τ:St}{i:Nat}(h:live τ i):τ (.b i)≠none:=λe=>by simp only [live,e] at h
theorem eD {τ:St}{i:Nat}{av:AV}(h:τ (.b i)=some av) (hz:av≠.zz):live τ i:=by
 unfold live
 rw [h]
 cases av<;>first|trivial|exact absurd rfl hz
def aiT (c:Ctx) (i b:Nat):Prop:=(i<1000→b∈c.H)∧(1000≤i→i<1000000000→c.W.heap.size≤b)∧(c.W.heap.size≤b∨b∈c.H)
def YF (T:bb):Prop:=∀g∈zU,∃cs e fr,T g.1=some (.ro cs e fr)∧g.2 cs
theorem YF.mono {T T':bb}(h:uS T T') (hg:YF T):YF T':=λg hm=>by
 obtain⟨cs,e,fr,h1,h2⟩:=hg g hm
 exact⟨cs,e,fr,h _ _ h1,h2⟩
structure Holds (N:Nat) (c:Ctx) (T:bb) (β:Nat→Nat) (τ:St) (a:Act) (w:World):Prop where
 defs:a.defers=[]
 size:a.tmps.size=N
 EB:c.H.length≤1000
 iJ:∀i av,τ (.s i)=some av→∃v,a.tmps[i]?=some v∧av.rel T β v
 boxes:∀i av,τ (.b i)=some av→av≠.zz→∃cs e,w.heap[β i]?=some (.cells cs e (0,0))∧av.rU T β cs
 apart:∀i,live τ i→(∃n,T (β i)=some (.bx n))∧aiT c i (β i)
 handed:∀i b,c.H[i]?=some b→live τ i→β i=b
 inj:∀i j,live τ i→live τ j→β i=β j→i=j
 named:∀r av,τ r=some av→∀i∈av.boxes,τ (.b i)≠none
 typed:WT T w
 old:∀b,b<c.W.heap.size→(T b).map BK.un=c.T b
 frame:∀b,b<c.W.heap.size→b∉c.H→quiet (c.T b)→w.heap[b]?=c.W.heap[b]?
 gd:c.W.heap.size≤w.heap.size
 os:w.os=c.W.os
 tape:w.tape=c.W.tape
 output:w.output=c.W.output
 oV:YF T
def Rel (N:Nat) (c:Ctx) (τ:St) (a:Act) (w:World):Prop:=∃T β,Holds N c T β τ a w
section
variable {N:Nat}{c:Ctx}{T:bb}{β:Nat→Nat}{τ:St}{a:Act}{w w':World}
theorem Holds.drew (h:Holds N c T β τ a w):Holds N c T β τ a { w with drawn:=w.drawn+1 }:=
 {h with
  boxes:=h.boxes
  typed:=λb k hb=>BK.qn (h.typed b k hb) rfl
  frame:=h.frame }
theorem Rel.drew (h:Rel N c τ a w):Rel N c τ a { w with drawn:=w.drawn+1 }:=by
 obtain⟨T,β,h⟩:=h
 exact⟨T,β,h.drew⟩
theorem uj {r q:fJ}{av:AV}:(τ.ap [(r,av)]) q=if q=r then some av else τ q:=by
 show (bif fJ.beq r q then some av else τ q)=_
 by_cases e:q=r
 ·subst e;rw [fJ.UK,if_pos rfl];rfl
 ·rw [fJ.beq_false.2 (λh=>e h.symm),if_neg e];rfl
theorem wI {d:Nat}{av:AV}{i:Nat}:live (τ.ap [(.s d,av)]) i=live τ i:=by
 unfold live
 rw [uj,if_neg (by simp)]
theorem Holds.put (h:Holds N c T β τ a w) {d:Nat}(hd:d<N) {av:AV}{v:Value}
  (hav:av.rel T β v) (hsc:∀i∈av.boxes,τ (.b i)≠none)
  :Holds N c T β (τ.ap [(.s d,av)]) (a.put (some d) v) w where
 defs:=h.defs
 size:=by simp [Act.put,h.size]
 EB:=h.EB
 iJ:=λi x hx=>by
  rw [uj] at hx
  by_cases e:i=d
  ·subst e
   rw [if_pos rfl] at hx;cases hx
   refine⟨v,?_,hav⟩
   simp [Act.put,h.size,hd]
  ·rw [if_neg (by simp [e])] at hx
   obtain⟨y,hy,hr⟩:=h.iJ i x hx
   refine⟨y,?_,hr⟩
   simp only [Act.put]
   rw [Array.getElem?_setIfInBounds_ne (by omega)]
   exact hy
 boxes:=λi x hx=>h.boxes i x (by rwa [uj,if_neg (by simp)] at hx)
 apart:=λi hi=>h.apart i (by rwa [wI] at hi)
 handed:=λi b hb h0=>h.handed i b hb (by rwa [wI] at h0)
 inj:=λi j hi hj e=>h.inj i j (by rwa [wI] at hi) (by rwa [wI] at hj) e
 named:=λr x hx i hi=>by
  rw [uj,if_neg (by simp)]
  rw [uj] at hx
  by_cases e:r= .s d
  ·rw [if_pos e] at hx;cases hx;exact hsc i hi
  ·rw [if_neg e] at hx;exact h.named r x hx i hi
 typed:=h.typed
 old:=h.old
 frame:=h.frame
 gd:=h.gd
 os:=h.os
 tape:=h.tape
 output:=h.output
 oV:=h.oV
def GO (x:Option AV):AV→Prop
 |.o (.s (.q c))=>match x with
  |some (.o (.s (.v (.bool b))))=>b=c
  |x=>x=some (.o (.s (.q c)))
 |y=>x=some y
theorem U5 {y:AV}:GO (some y) y:=by
 unfold GO
 split
 ·split
  ·rename_i h;cases h
  ·rfl
 ·rfl
theorem aaJ {x:Option AV}{y:AV}(h:GO x y):∃z,x=some z∧∀{T:bb}{β:Nat→Nat}{v:Value},z.rel T β v→y.rel T β v:=by
 unfold GO at h
 split at h
 ·split at h
  ·rename_i b
   subst h
   exact⟨_,rfl,λhr=>hr⟩
  ·exact⟨_,h,λhr=>hr⟩
 ·exact⟨_,h,λhr=>hr⟩
structure Sub (σ:Nat→Nat) (τ' τ:St):Prop where
 slot:∀i av,τ' (.s i)=some av→GO (τ (.s i)) (av.ly σ)
 box:∀i av,τ' (.b i)=some av→τ (.b (σ i))=some (av.ly σ)
 named:∀r av,τ' r=some av→∀i∈av.boxes,τ' (.b i)≠none
 inj:∀i j,τ' (.b i)≠none→τ' (.b j)≠none→σ i=σ j→i=j
 low:∀i,τ' (.b i)≠none→σ i=i∨((1000≤i∧i<1000000000)∧1000≤σ i∧σ i<1000000000)∨1000000000≤i
theorem acL {g:Nat→Nat}{av:AV}(h:av≠.zz):av.ly g≠.zz:=by
 cases av with
 |zz=>exact absurd rfl h
 |o x=>intro e;cases e
 |t l=>intro e;cases e
 |rs ek l=>intro e;cases e
 |fn f l=>intro e;cases e
theorem SV.pR {σ:Nat→Nat}{x:SV}{v:Value}(hr:(x.ly σ).rel T β v):x.rel T (λi=>β (σ i)) v:=by
 cases x<;>exact hr
theorem BQ {σ:Nat→Nat}:∀{l:List SV}{cs:List Value},dN T β (BL σ l) cs→dN T (λi=>β (σ i)) l cs
 |[],[],_=>trivial
 |_::_,[],h'=>h'.elim
 |[],_::_,h'=>h'.elim
 |_::_,_::_,h'=>⟨SV.pR h'.1,BQ h'.2⟩
theorem A0.pR {σ:Nat→Nat}{x:A0}{v:Value}(hr:(x.ly σ).rel T β v):x.rel T (λi=>β (σ i)) v:=by
 cases x with
 |s x=>exact SV.pR hr
 |a l=>obtain⟨cs,e,hl⟩:=hr;exact⟨cs,e,BQ hl⟩
theorem LK {σ:Nat→Nat}:∀{l:List A0}{cs:List Value},uD T β (BJ σ l) cs→uD T (λi=>β (σ i)) l cs
 |[],[],_=>trivial
 |_::_,[],h'=>h'.elim
 |[],_::_,h'=>h'.elim
 |_::_,_::_,h'=>⟨A0.pR h'.1,LK h'.2⟩
theorem NK {σ:Nat→Nat}:∀{l:List (Nat×Nat)},E1 β (BM σ l)=E1 (λi=>β (σ i)) l
 |[]=>rfl
 |p::l=>by simp only [E1,BM];rw [NK]
theorem AV.pR {σ:Nat→Nat}{x:AV}{v:Value}(hr:(x.ly σ).rel T β v):x.rel T (λi=>β (σ i)) v:=by
 cases x with
 |o x=>exact A0.pR hr
 |t l=>obtain⟨cs,e,hl⟩:=hr;exact⟨cs,e,LK hl⟩
 |rs ek l=>exact hr
 |zz=>exact hr
 |fn f l=>obtain⟨cs,e,hl⟩:=hr;exact⟨cs,e,hl.trans NK⟩
theorem AV.ae5 {σ:Nat→Nat}{x:AV}{cs:Array Value}(hr:(x.ly σ).rU T β cs):x.rU T (λi=>β (σ i)) cs:=by
 cases x with
 |o x=>
  cases x with
  |s x=>exact hr
  |a l=>exact BQ hr
 |_=>exact hr
theorem Sub.live {σ:Nat→Nat}{τ':St}(h:Sub σ τ' τ) {i:Nat}(hl:live τ' i):GL.live τ (σ i):=by
 cases hb:τ' (.b i) with
 |none=>exact absurd hb (kD hl)
 |some av=>
  refine eD (h.box i av hb) (acL λe=>?_)
  subst e
  unfold GL.live at hl
  rw [hb] at hl
  exact hl
theorem Rel.sub {σ:Nat→Nat}{τ':St}(h:Sub σ τ' τ) (hr:Rel N c τ a w):Rel N c τ' a w:=by
 obtain⟨T,β,hh⟩:=hr
 refine⟨T,λi=>β (σ i),{ hh with
  iJ:=λi av hs=>by
   obtain⟨z,hz,hzr⟩:=aaJ (h.slot i av hs)
   obtain⟨v,hv,hr⟩:=hh.iJ i _ hz
   exact⟨v,hv,AV.pR (hzr hr)⟩
  boxes:=λi av hs hz=>by
   obtain⟨cs,e,h1,h2⟩:=hh.boxes _ _ (h.box i av hs) (acL hz)
   exact⟨cs,e,h1,AV.ae5 h2⟩
  apart:=λi hi=>by
   obtain⟨h1,h2,h3,h4⟩:=hh.apart _ (h.live hi)
   refine⟨h1,λh5=>?_,λh5 h6=>?_,h4⟩
   ·rcases h.low i (kD hi) with e |e |e
    ·exact h2 (by omega)
    ·omega
    ·omega
   ·rcases h.low i (kD hi) with e |e |e
    ·exact h3 (by omega) (by omega)
    ·exact h3 e.2.1 e.2.2
    ·omega
  handed:=λi b hb hi=>by
   have bU:i<c.H.length:=(ZC0.1 hb).1
   have CX:=h.live hi
   rcases h.low i (kD hi) with e |e |e
   ·show β (σ i)=b
    rw [e] at CX ⊢
    exact hh.handed i b hb CX
   ·exact absurd hh.EB (by omega)
   ·exact absurd hh.EB (by omega)
  inj:=λi j hi hj e=>h.inj i j (kD hi) (kD hj) (hh.inj _ _ (h.live hi) (h.live hj) e)
  named:=h.named }⟩
structure P5 (w:World) (b:Nat) (o:Obj) (w':World):Prop where
 at_:w'.heap[b]?=some o
 other:∀k,k≠b→w'.heap[k]?=w.heap[k]?
 size:w'.heap.size=w.heap.size
 os:w'.os=w.os
 tape:w'.tape=w.tape
 output:w'.output=w.output
theorem Holds.lt (h:Holds N c T β τ a w) {i:Nat}(hi:live τ i):β i<w.heap.size:=by
 obtain⟨⟨n,hn⟩,_⟩:=h.apart i hi
 exact BK.lt (h.typed _ _ hn)
theorem Holds.YS (h:Holds N c T β τ a w) {i n:Nat}{cs:Array Value}{e:TypeId}{fr:Nat×Nat}(hn:T (β i)=some (.bx n)) (hb:w.heap[β i]?=some (.cells cs e fr)):cs.size=n:=by
 obtain⟨mg,e',h1,h2⟩:=h.typed _ _ hn
 rw [hb] at h1
 cases h1
 exact h2
theorem lj {j:Nat}{av:AV}{i:Nat}(h:live (τ.ap [(.b j,av)]) i):i=j∨(i≠j∧live τ i):=by
 by_cases e:i=j
 ·exact .inl e
 ·unfold live at h
  rw [uj,if_neg (by simp [e])] at h
  exact .inr ⟨e,h⟩
theorem Holds.DI (h:Holds N c T β τ a w) {i:Nat}{av:AV}{cs mg:Array Value}{e e':TypeId}(hi:live τ i) (ho:w.heap[β i]?=some (.cells cs e (0,0))) (hw:P5 w (β i) (.cells mg e' (0,0)) w') (dj:mg.size=cs.size) (hl:av.rU T β mg) (hsc:∀j∈av.boxes,τ (.b j)≠none):
  Holds N c T β (τ.ap [(.b i,av)]) a w':=by
 have af7:∀r,τ r≠none→(τ.ap [(.b i,av)]) r≠none:=by
  intro r hr
  rw [uj]
  split
  ·simp
  ·exact hr
 have FK:∀k,live (τ.ap [(.b i,av)]) k→live τ k:=λk hk=>by
  rcases lj hk with rfl |⟨_,h⟩
  ·exact hi
  ·exact h
 obtain⟨⟨n,hn⟩,oa⟩:=h.apart i hi
 have mq:=h.YS hn ho
 exact {
  defs:=h.defs
  size:=h.size
  EB:=h.EB
  iJ:=λk x hk=>h.iJ k x (by rwa [uj,if_neg (by simp)] at hk)
  boxes:=λk x hk hz=>by
   rw [uj] at hk
   by_cases ek:k=i
   ·subst ek
    rw [if_pos rfl] at hk;cases hk
    exact⟨mg,e',hw.at_,hl⟩
   ·rw [if_neg (by simp [ek])] at hk
    obtain⟨ds,e2,h2,h3⟩:=h.boxes k x hk hz
    refine⟨ds,e2,?_,h3⟩
    rw [hw.other _ (λhe=>ek (h.inj k i (eD hk hz) hi he))]
    exact h2
  apart:=λk hk=>h.apart k (FK k hk)
  handed:=λk b hb h0=>h.handed k b hb (FK k h0)
  inj:=λk j hk hj e=>h.inj k j (FK k hk) (FK j hj) e
  named:=λr x hr k hk=>by
   refine af7 _ ?_
   rw [uj] at hr
   by_cases e:r= .b i
   ·rw [if_pos e] at hr;cases hr;exact hsc k hk
   ·rw [if_neg e] at hr;exact h.named r x hr k hk
  typed:=λb k hb=>by
   by_cases e:b=β i
   ·subst e
    rw [hn] at hb;cases hb
    exact⟨mg,e',hw.at_,dj.trans mq⟩
   ·exact BK.qn (h.typed b k hb) (hw.other b e)
  old:=h.old
  frame:=λb hb hH hq=>by
   have fA:b≠β i:=λe=>by
    rcases oa.2.2 with h1 |h1
    ·omega
    ·rw [e] at hH;exact hH h1
   rw [hw.other b fA]
   exact h.frame b hb hH hq
  gd:=by rw [hw.size];exact h.gd
  os:=hw.os.trans h.os
  tape:=hw.tape.trans h.tape
  output:=hw.output.trans h.output
  oV:=h.oV }
theorem Holds.uR (h:Holds N c T β τ a w) {b:Nat}{ek:EK}{n:Nat}(hb:T b=some (.ty ek n)) {cs:Array Value}{e:TypeId}{fr:Nat×Nat}{l:List (EK.Ty ek)}(hw:P5 w b (.cells cs e fr) w') (ke:free fr cs.size) (cG:agy ek n l cs):
  Holds N c T β τ a w':=
 {h with
  boxes:=λk x hk hz=>by
   obtain⟨mg,e',h2,h3⟩:=h.boxes k x hk hz
   refine⟨mg,e',?_,h3⟩
   rw [hw.other _ (λhe=>by obtain⟨n',hn'⟩:=(h.apart k (eD hk hz)).1;rw [he,hb] at hn';cases hn')]
   exact h2
  typed:=λb' k hb'=>by
   by_cases he:b'=b
   ·subst he
    rw [hb] at hb';cases hb'
    exact⟨(h.typed b' _ hb).1,cs,e,fr,l,hw.at_,ke,cG⟩
   ·exact BK.qn (h.typed b' k hb') (hw.other b' he)
  frame:=λk hk hH hq=>by
   have fA:k≠b:=λe=>by
    subst e
    have:=h.old k hk
    rw [hb] at this
    rw [←this] at hq
    exact hq
   rw [hw.other k fA]
   exact h.frame k hk hH hq
  gd:=by rw [hw.size];exact h.gd
  os:=hw.os.trans h.os
  tape:=hw.tape.trans h.tape
  output:=hw.output.trans h.output
  oV:=h.oV }
structure oK (w:World) (o:Obj) (w':World):Prop where
 heap:w'.heap=w.heap.push o
 os:w'.os=w.os
 tape:w'.tape=w.tape
 output:w'.output=w.output
theorem oK.old {o:Obj}(h:oK w o w') {k:Nat}(hk:k<w.heap.size):w'.heap[k]?=w.heap[k]?:=by
 rw [h.heap,Array.getElem?_push,if_neg (by omega)]
theorem oK.new {o:Obj}(h:oK w o w'):w'.heap[w.heap.size]?=some o:=by
 rw [h.heap,Array.getElem?_push,if_pos rfl]
theorem oK.size {o:Obj}(h:oK w o w'):w'.heap.size=w.heap.size+1:=by rw [h.heap];simp
def oo (β:Nat→Nat) (d n:Nat):Nat→Nat:=λi=>if i=d then n else β i
def xi (T:bb) (b:Nat) (k:BK):bb:=λi=>if i=b then some k else T i
theorem K8 {b:Nat}(hT:T b=none) {k:BK}:uS T (xi T b k):=λi k' hi=>by
 unfold xi
 by_cases e:i=b
 ·subst e;rw [hT] at hi;cases hi
 ·rw [if_neg e];exact hi
theorem WT.fresh (h:WT T w):T w.heap.size=none:=by
 cases hT:T w.heap.size with
 |none=>rfl
 |some k=>exact absurd (BK.lt (h _ k hT)) (by omega)
theorem Holds.CF (h:Holds N c T β τ a w) {k:BK}{o:Obj}(hp:oK w o w') (hk:k.holds w' w.heap.size):
  Holds N c (xi T w.heap.size k) β τ a w':=by
 have zS:uS T (xi T w.heap.size k):=K8 h.typed.fresh
 exact {
  defs:=h.defs
  size:=h.size
  EB:=h.EB
  iJ:=λi av hi=>by obtain⟨v,hv,hr⟩:=h.iJ i av hi;exact⟨v,hv,AV.nJ zS hr⟩
  boxes:=λi av hi hz=>by
   obtain⟨mg,e',h2,h3⟩:=h.boxes i av hi hz
   exact⟨mg,e',by rw [hp.old (h.lt (eD hi hz))];exact h2,AV.JS zS h3⟩
  apart:=λi hi=>by
   obtain⟨⟨n,hn⟩,ho⟩:=h.apart i hi
   exact⟨⟨n,zS _ _ hn⟩,ho⟩
  handed:=h.handed
  inj:=h.inj
  named:=h.named
  typed:=λb k' hb=>by
   unfold xi at hb
   by_cases he:b=w.heap.size
   ·rw [if_pos he] at hb;cases hb
    subst he
    exact hk
   ·rw [if_neg he] at hb
    have hb':=h.typed b k' hb
    exact BK.qn hb' (hp.old (BK.lt hb'))
  old:=λb hb=>by
   have:xi T w.heap.size k b=T b:=by unfold xi;rw [if_neg (by have:=h.gd;omega)]
   rw [this]
   exact h.old b hb
  frame:=λb hb hH hq=>by
   rw [hp.old (ZG3 hb h.gd)]
   exact h.frame b hb hH hq
  gd:=by rw [hp.size];have:=h.gd;omega
  os:=hp.os.trans h.os
  tape:=hp.tape.trans h.tape
  output:=hp.output.trans h.output
  oV:=h.oV.mono zS }
theorem Holds.SQ (h:Holds N c T β τ a w) {d b n:Nat}{av:AV}{cs:Array Value}{e:TypeId}(hd:1000≤d) (uA:τ (.b d)=none) (hT:T b=some (.bx n)) (vE:aiT c d b) (hun:∀i,live τ i→β i≠b) (hb:w.heap[b]?=some (.cells cs e (0,0)))
  (hl:av.rU T β cs) (hsc:∀j∈av.boxes,τ (.b j)≠none):Holds N c T (oo β d b) (τ.ap [(.b d,av)]) a w:=by
 have af5:∀(r:fJ) (av:AV),τ r=some av→d∉av.boxes:=λr av hr hm=>h.named r av hr d hm uA
 have hβ:∀i,i≠d→oo β d b i=β i:=λi hi=>by unfold oo;rw [if_neg hi]
 have hβd:oo β d b d=b:=by unfold oo;rw [if_pos rfl]
 have hnd:d∉av.boxes:=λhm=>hsc d hm uA
 have xD:∀{x:AV},d∉x.boxes→∀i∈x.boxes,oo β d b i=β i:=λhx i hi=>hβ i λe=>hx (e ▸ hi)
 exact {
  defs:=h.defs
  size:=h.size
  EB:=h.EB
  iJ:=λi x hi=>by
   rw [uj,if_neg (by simp)] at hi
   obtain⟨v,hv,hr⟩:=h.iJ i x hi
   exact⟨v,hv,AV.acO (xD (af5 _ _ hi)) hr⟩
  boxes:=λi x hi hz=>by
   rw [uj] at hi
   by_cases ei:i=d
   ·subst ei
    rw [if_pos rfl] at hi;cases hi
    exact⟨cs,e,by rw [hβd];exact hb,AV.X2 (xD hnd) hl⟩
   ·rw [if_neg (by simp [ei])] at hi
    obtain⟨mg,e',h2,h3⟩:=h.boxes i x hi hz
    exact⟨mg,e',by rw [hβ i ei];exact h2,AV.X2 (xD (af5 _ _ hi)) h3⟩
  apart:=λi hi=>by
   rcases lj hi with rfl |⟨e,CX⟩
   ·rw [hβd];exact⟨⟨n,hT⟩,vE⟩
   ·rw [hβ i e];exact h.apart i CX
  handed:=λi b' hb' hi=>by
   rcases lj hi with rfl |⟨e,CX⟩
   ·have:i<c.H.length:=(ZC0.1 hb').1
    exact absurd h.EB (by omega)
   ·rw [hβ i e];exact h.handed i b' hb' CX
  inj:=λi j hi hj e=>by
   rcases lj hi with rfl |⟨ei,CX⟩
   ·rcases lj hj with rfl |⟨ej,CW⟩
    ·rfl
    ·rw [hβd,hβ j ej] at e
     exact absurd e.symm (hun j CW)
   ·rcases lj hj with rfl |⟨ej,CW⟩
    ·rw [hβd,hβ i ei] at e
     exact absurd e (hun i CX)
    ·rw [hβ i ei,hβ j ej] at e
     exact h.inj i j CX CW e
  named:=λr x hr k hk=>by
   rw [uj]
   by_cases ek:fJ.b k= .b d
   ·rw [if_pos ek];simp
   ·rw [if_neg ek]
    rw [uj] at hr
    by_cases e2:r= .b d
    ·rw [if_pos e2] at hr;cases hr
     exact hsc k hk
    ·rw [if_neg e2] at hr
     exact h.named r x hr k hk
  typed:=h.typed
  old:=h.old
  frame:=h.frame
  gd:=h.gd
  os:=h.os
  tape:=h.tape
  output:=h.output
  oV:=h.oV }
theorem Holds.tD (h:Holds N c T β τ a w) {d:Nat}(hd:1000≤d) (uA:τ (.b d)=none) {av:AV}{cs:Array Value}{e:TypeId}(hp:oK w (.cells cs e (0,0)) w') (hl:av.rU T β cs) (hsc:∀j∈av.boxes,τ (.b j)≠none):
  Holds N c (xi T w.heap.size (.bx cs.size)) (oo β d w.heap.size) (τ.ap [(.b d,av)]) a w':=by
 have h1:=h.CF (k:=.bx cs.size) hp ⟨cs,e,hp.new,rfl⟩
 refine h1.SQ hd uA (n:=cs.size) (by unfold xi;rw [if_pos rfl]) ⟨λh=>by omega,λ_ _=>h.gd,.inl h.gd⟩ (λi hi e=>?_) hp.new (AV.JS (K8 h.typed.fresh) hl) hsc
 have:=h.lt hi
 omega
theorem Holds.kill (h:Holds N c T β τ a w) {i:Nat}:Holds N c T β (τ.ap [(.b i,.zz)]) a w:=by
 have FK:∀k,live (τ.ap [(.b i,.zz)]) k→k≠i∧live τ k:=λk hk=>by
  rcases lj hk with rfl |h
  ·unfold live at hk;rw [uj,if_pos rfl] at hk;exact hk.elim
  ·exact h
 exact { h with
  iJ:=λk x hk=>h.iJ k x (by rwa [uj,if_neg (by simp)] at hk)
  boxes:=λk x hk hz=>by
   rw [uj] at hk
   by_cases e:fJ.b k= .b i
   ·rw [if_pos e] at hk;cases hk;exact absurd rfl hz
   ·rw [if_neg e] at hk;exact h.boxes k x hk hz
  apart:=λk hk=>h.apart k (FK k hk).2
  handed:=λk b hb h0=>h.handed k b hb (FK k h0).2
  inj:=λk j hk hj e=>h.inj k j (FK k hk).2 (FK j hj).2 e
  named:=λr x hr k hk=>by
   rw [uj]
   split
   ·simp
   ·rw [uj] at hr
    by_cases e:r= .b i
    ·rw [if_pos e] at hr;cases hr;simp [AV.boxes] at hk
    ·rw [if_neg e] at hr;exact h.named r x hr k hk }
theorem Holds.SS (h:Holds N c T β τ a w) {i d:Nat}(hd:1000≤d) (hi0:1000000000≤d∨(1000≤i∧i<1000000000)) (uA:τ (.b d)=none) {av:AV}{cs mg:Array Value}{e e':TypeId}(hi:live τ i) (ho:w.heap[β i]?=some (.cells cs e (0,0))) (hw:P5 w (β i) (.cells mg e' (0,0)) w') (dj:mg.size=cs.size) (hl:av.rU T β mg) (hsc:av.boxes=[]):
  Holds N c T (oo β d (β i)) ((τ.ap [(.b i,.zz)]).ap [(.b d,av)]) a w':=by
 have hid:i≠d:=λe=>by subst e;exact kD hi uA
 obtain⟨⟨n,hn⟩,oa⟩:=h.apart i hi
 have h1:=(h.DI (av:=av) hi ho hw dj hl (by rw [hsc];simp)).kill (i:=i)
 have e1:(τ.ap [(.b i,av)]).ap [(.b i,.zz)]=τ.ap [(.b i,.zz)]:=by
  funext r
  rw [uj,uj,uj]
  split<;>rfl
 rw [e1] at h1
 refine h1.SQ hd (by rw [uj,if_neg (by simp;exact λh=>hid h.symm)];exact uA) hn ⟨λh=>by omega,λh1 h2=>oa.2.1 (by omega) (by omega),oa.2.2⟩ (λj hj e=>?_) hw.at_ hl (by rw [hsc];simp)
 rcases lj hj with rfl |⟨ej,CW⟩
 ·unfold live at hj;rw [uj,if_pos rfl] at hj;exact hj.elim
 ·exact ej (h.inj j i CW hi e)
end
end GL
namespace GL
inductive Q (α:Type 1):Type 1 where
 |ret (a:α)
 |ask (r:fJ) (k:Option AV→Q α)
def Q.run {α:Type 1}:Q α→St→α
 |.ret a,_=>a
 |.ask r k,τ=>(k (τ r)).run τ
def Q.tr {α:Type 1}:Q α→St→List fJ
 |.ret _,_=>[]
 |.ask r k,τ=>r::(k (τ r)).tr τ
theorem Q.loc {α:Type 1}{τ τ':St}:∀(q:Q α),agree (q.tr τ) τ τ'→q.run τ'=q.run τ∧q.tr τ'=q.tr τ
 |.ret _,_=>⟨rfl,rfl⟩
 |.ask r k,h=>by
  have e:τ' r=τ r:=(h r (by simp [Q.tr])).symm
  have:=Q.loc (k (τ r)) (λx hx=>h x (by simp [Q.tr,hx]))
  simp only [Q.run,Q.tr,e]
  exact⟨this.1,by rw [this.2]⟩
inductive Rs:Type 1 where
 |no
 |go (u:AO)
 |mZ (p:Prop) (u:AO)
 |br (p:Prop) (b:Bool) (d:Nat)
 |ex (p:Prop) (α:Type) (φ:α→Prop) (u:List (fJ×(α→AV)))
def inst {α:Type}(x:α):List (fJ×(α→AV))→AO
 |[]=>[]
 |p::u=>(p.1,p.2 x)::inst x u
def Rs.pre:Rs→Prop
 |.no=>False
 |.go _=>True
 |.mZ p _=>p
 |.br p _ _=>p
 |.ex p _ _ _=>p
def Rs.ne:Rs→Prop
 |.ex _ _ φ _=>∃x,φ x
 |_=>True
def Rs.out:Rs→AO→Prop
 |.no,_=>False
 |.go u,x=>x=u
 |.mZ _ u,x=>x=u
 |.br _ b d,x=>x=[(.s d,.s (.v (.bool b)))]
 |.ex _ _ φ u,x=>∃y,φ y∧x=inst y u
def K3 {α:Type}:List (fJ×α)→List fJ
 |[]=>[]
 |p::u=>p.1::K3 u
def Rs.dom:Rs→List fJ
 |.no=>[]
 |.go u=>K3 u
 |.mZ _ u=>K3 u
 |.br _ _ d=>[.s d]
 |.ex _ _ _ u=>K3 u
theorem HX {α:Type}{u:List (fJ×α)}{p:fJ×α}(h:p∈u):p.1∈K3 u:=by
 induction u with
 |nil=>cases h
 |cons q u ih=>
  rcases ZB8.1 h with rfl |h
  ·simp [K3]
  ·simp [K3,ih h]
theorem MR {α:Type}(x:α):∀(u:List (fJ×(α→AV))),K3 (inst x u)=K3 u
 |[]=>rfl
 |p::u=>by simp [inst,K3,MR x u]
theorem Rs.FP {r:Rs}{u:AO}(h:r.out u):∀p∈u,p.1∈r.dom:=by
 intro p hp
 cases r with
 |no=>exact h.elim
 |go v=>cases h;exact HX hp
 |mZ q v=>cases h;exact HX hp
 |br q b d=>cases h;simp at hp;subst hp;simp [Rs.dom]
 |ex q α φ v=>
  obtain⟨x,_,rfl⟩:=h
  have:=HX hp
  rwa [MR] at this
theorem Rs.ahu {r:Rs}(hp:r.pre) (hn:r.ne):∃u,r.out u:=by
 cases r with
 |no=>exact hp.elim
 |go v=>exact⟨_,rfl⟩
 |mZ q v=>exact⟨_,rfl⟩
 |br q b d=>exact⟨_,rfl⟩
 |ex q α φ v=>obtain⟨x,hx⟩:=hn;exact⟨_,x,hx,rfl⟩
structure Tr where
 j:Nat
 R:List fJ
 W:List fJ
def hit (nk:Nat→Nat→Bool) (i:Nat):Tr→Bool
 |⟨j,_,_⟩=>nk i j
theorem aee (nk:Nat→Nat→Bool) (i:Nat) (t:Tr):hit nk i t=nk i t.j:=rfl
def jI (nk:Nat→Nat→Bool) (i:Nat) (R W:List fJ):List Tr→Bool
 |[]=>true
 |t::l=>(bif hit nk i t then true else indep t.R t.W R W)&&jI nk i R W l
theorem KH {nk:Nat→Nat→Bool}{i:Nat}{R W:List fJ}:∀{l:List Tr},jI nk i R W l=true→∀t∈l,nk i t.j=false→indep t.R t.W R W=true
 |[],_,t,ht,_=>by cases ht
 |s::l,h,t,ht,ha=>by
  simp only [jI,ZA9] at h
  rcases ZB8.1 ht with rfl |ht
  ·have:=h.1;rw [aee,ha] at this;exact this
  ·exact KH h.2 t ht ha
def aL (F:Nat→Q Rs) (nk:Nat→Nat→Bool):List Nat→List Tr→St→(St→Prop)→Prop
 |[],_,τ,K=>K τ
 |i::l,T,τ,K=>jI nk i ((F i).tr τ) ((F i).run τ).dom T=true∧((F i).run τ).pre∧((F i).run τ).ne∧∀u,((F i).run τ).out u→aL F nk l (⟨i,(F i).tr τ,((F i).run τ).dom⟩::T) (τ.ap u) K
theorem rP {nk:Nat→Nat→Bool}{i:Nat}{R W:List fJ}:∀{l m:List Tr},jI nk i R W (l++m)=true→jI nk i R W l=true∧jI nk i R W m=true
 |[],m,h=>⟨rfl,h⟩
 |s::l,m,h=>by
  simp only [ZG7,jI,ZA9] at h ⊢
  exact⟨⟨h.1,(rP h.2).1⟩,(rP h.2).2⟩
theorem AM {nk:Nat→Nat→Bool}{i:Nat}{R W:List fJ}:∀{l m:List Tr},jI nk i R W l=true→jI nk i R W m=true→jI nk i R W (l++m)=true
 |[],m,_,h=>h
 |s::l,m,h,h'=>by
  simp only [ZG7,jI,ZA9] at h ⊢
  exact⟨h.1,AM h.2 h'⟩
theorem agw {F:Nat→Q Rs}{nk:Nat→Nat→Bool}{K:St→Prop}{t:Tr}{M:List Tr}:∀(l:List Nat) (L:List Tr) (τ:St),aL F nk l (L++t::M) τ K→aL F nk l (L++M) τ K:=by
 intro l
 induction l with
 |nil=>intro L τ h;exact h
 |cons i l ih=>
  intro L τ ⟨h1,h2,h3,h4⟩
  have h5:=rP h1
  have h6:=h5.2
  simp only [jI,ZA9] at h6
  exact⟨AM h5.1 h6.2,h2,h3,λu hu=>ih (_::L) _ (h4 u hu)⟩
theorem afw {F:Nat→Q Rs}{nk:Nat→Nat→Bool}{i:Nat}{post:List Nat}{K:St→Prop}:
  ∀(pre:List Nat) (T:List Tr) (τ:St),(∀j∈pre,nk i j=false)→aL F nk (pre++i::post) T τ K→
   ((F i).run τ).pre∧((F i).run τ).ne∧(∀t∈T,nk i t.j=false→indep t.R t.W ((F i).tr τ) ((F i).run τ).dom=true)∧∀u,((F i).run τ).out u→aL F nk (pre++post) T (τ.ap u) K:=by
 intro pre
 induction pre with
 |nil=>
  intro T τ _ h
  obtain⟨h1,h2,h3,h4⟩:=h
  exact⟨h2,h3,KH h1,λu hu=>agw post [] _ (h4 u hu)⟩
 |cons j pre ih=>
  intro T τ aeo h
  obtain⟨hj1,yK,hj3,hj4⟩:=h
  obtain⟨u0,hu0⟩:=Rs.ahu yK hj3
  have hIH:=λu hu=>ih (⟨j,(F j).tr τ,((F j).run τ).dom⟩::T) (τ.ap u) (λk hk=>aeo k (by simp [hk])) (hj4 u hu)
  have IZ:∀u,((F j).run τ).out u→(F i).run (τ.ap u)=(F i).run τ∧(F i).tr (τ.ap u)=(F i).tr τ:=by
   intro u hu
   obtain⟨_,_,h3,_⟩:=hIH u hu
   have ajs:=h3 ⟨j,(F j).tr τ,((F j).run τ).dom⟩ (by simp) (aeo j (by simp))
   simp only [indep,ZA9] at ajs
   have hag:agree ((F i).tr (τ.ap u)) (τ.ap u) τ:=afv λp hp hm=>FQ ajs.1.1 (Rs.FP hu p hp) hm rfl
   have:=Q.loc (F i) hag
   exact⟨this.1.symm,this.2.symm⟩
  obtain⟨e1,e2⟩:=IZ u0 hu0
  obtain⟨g1,g2,g3,g4⟩:=hIH u0 hu0
  rw [e1] at g1 g2
  rw [e1,e2] at g3
  have aef:=g3 ⟨j,(F j).tr τ,((F j).run τ).dom⟩ (by simp) (aeo j (by simp))
  simp only [indep,ZA9] at aef
  refine⟨g1,g2,λt ht ha=>g3 t (by simp [ht]) ha,λv hv=>?_⟩
  have alo:agree ((F j).tr τ) τ (τ.ap v):=λr hr=>(St.wh (λp hp e=>FQ aef.2 (Rs.FP hv p hp) hr e)).symm
  have hj:=Q.loc (F j) alo
  refine⟨by rw [hj.1,hj.2];exact hj1,by rw [hj.1];exact yK,by rw [hj.1];exact hj3,λu hu=>?_⟩
  rw [hj.1] at hu
  obtain⟨f1,f2⟩:=IZ u hu
  obtain⟨_,_,_,k4⟩:=hIH u hu
  have:=k4 v (by rw [f1];exact hv)
  rw [St.agt (u:=u) (v:=v) (λp hp q hq=>FQ aef.1.2 (Rs.FP hu p hp) (Rs.FP hv q hq))] at this
  rw [hj.1,hj.2]
  exact this
def OpS (P:Program) (N:Nat) (ops:Array Oper) (o:Oper) (q:Q Rs):Prop:=
 ∀c τ a w,Rel N c τ a w→(q.run τ).pre→∀(K:Act→World→Prop) (Q':Exit→Act→World→Prop),
  (∀u a' w',(q.run τ).out u→Rel N c (τ.ap u) a' w'→K a' w')→if Region.wanted o (yielded ops a.tmps)=true then o.wp P a w K Q' else K (a.put o.dst undef) w
section
variable {P:Program}{N:Nat}{ops:Array Oper}{F:Nat→Q Rs}
def xx (o:Oper):List Nat:=(o.after.toList.filter (Region.binds .any)).map (·.on)
def zO (listed:Array Bool) (i:Nat):Prop:=listed.getD i false=true
def rest (n:Nat) (listed:Array Bool):List Nat:=(List.range n).filter λi=> !listed.getD i true
def closed (ops:Array Oper) (listed:Array Bool):Prop:=∀i o,ops[i]?=some o→zO listed i→∀p∈xx o,zO listed p
structure Anc (ops:Array Oper) (nk:Nat→Nat→Bool):Prop where
 lt:∀i o,ops[i]?=some o→∀p∈xx o,p<i
 step:∀i o,ops[i]?=some o→∀j,nk i j=true→∃k∈xx o,k=j∨nk k j=true
theorem ais {nk:Nat→Nat→Bool}(h:Anc ops nk) {listed:Array Bool}(hc:closed ops listed):∀(i:Nat) (o:Oper),ops[i]?=some o→(∀p∈xx o,zO listed p)→
  ∀j,nk i j=true→zO listed j:=by
 intro i
 induction i using Nat.strongRecOn with
 |_ i ih=>
  intro o ho hp j ht
  obtain⟨k,hk,rfl |htk⟩:=h.step i o ho j ht
  ·exact hp k hk
  ·have hki:=h.lt i o ho k hk
   have hi:i<ops.size:=(ZF1.1 ho).1
   have cG:ops[k]?=some ops[k]:=ZG0 (by omega)
   exact ih k hki _ cG (hc k _ cG (hp k hk)) j htk
theorem mem_ready {listed:Array Bool}{i:Nat}:i∈Region.ready .any ops listed↔i∈rest ops.size listed∧∀o,ops[i]?=some o→∀p∈xx o,zO listed p:=by
 simp only [Region.ready,rest,ZF4,ZE2,ZA9]
 constructor
 ·rintro⟨hi,hl,ha⟩
  refine⟨⟨hi,hl⟩,λo ho p hp=>?_⟩
  rw [ho] at ha
  simp only [Option.map_some,ZA2] at ha
  obtain⟨e,he,rfl⟩:=List.mem_map.1 hp
  rw [ZF4] at he
  have:=Array.all_eq_true_iff_forall_mem.1 ha e (by simpa using he.1)
  simp only [Bool.or_eq_true,he.2,Bool.not_true] at this
  simpa [zO] using this
 ·rintro⟨⟨hi,hl⟩,ha⟩
  refine⟨hi,hl,?_⟩
  have ho:ops[i]?=some ops[i]:=ZG0 hi
  rw [ho]
  simp only [Option.map_some,ZA2]
  rw [Array.all_eq_true_iff_forall_mem]
  intro e he
  cases hb:Region.binds .any e with
  |false=>simp
  |true=>
   have:=ha _ ho e.on (List.mem_map.2 ⟨e,by rw [ZF4];exact⟨by simpa using he,hb⟩,rfl⟩)
   simpa [zO] using this
theorem VL {n:Nat}{listed:Array Bool}{i:Nat}(hs:listed.size=n) (hi:i∈rest n listed):
  ∃pre post,rest n listed=pre++i::post∧rest n (listed.setIfInBounds i true)=pre++post∧∀j∈pre,j<i:=by
 obtain⟨pre,post,he⟩:=List.append_of_mem hi
 have hp:(rest n listed).Pairwise (· < ·):=List.Pairwise.filter _ List.pairwise_lt_range
 have hpp:=hp
 rw [he] at hp
 have cm:i<n:=by simp only [rest,ZF4,ZE2] at hi;exact hi.1
 obtain⟨h1,h2,h3⟩:=List.pairwise_append.1 hp
 refine⟨pre,post,he,?_,λj hj=>h3 j hj i (by simp)⟩
 have e1:rest n (listed.setIfInBounds i true)=(rest n listed).filter (λj=> !Nat.beq j i):=by
  simp only [rest,List.filter_filter]
  refine List.filter_congr λj hj=>?_
  by_cases hji:j=i
  ·subst hji
   simp [Array.getD,hs,cm]
  ·have hb:Nat.beq j i=false:=by rw [←Bool.not_eq_true];simpa using hji
   rw [hb]
   simp only [Bool.not_false,Bool.true_and]
   have:(listed.setIfInBounds i true).getD j true=listed.getD j true:=by
    rw [ZE8,ZE8,Array.getElem?_setIfInBounds_ne (λh=>hji h.symm)]
   rw [this]
 rw [e1,he,List.filter_append,List.filter_cons]
 have hb:Nat.beq i i=true:=by simp
 rw [hb]
 simp only [Bool.not_true,Bool.false_eq_true,if_false]
 congr 1
 ·rw [List.filter_eq_self]
  intro j hj
  have:=h3 j hj i (by simp)
  have fA:Nat.beq j i=false:=by rw [←Bool.not_eq_true];simp;omega
  simp [fA]
 ·rw [List.filter_eq_self]
  intro j hj
  have:=(List.pairwise_cons.1 h2).1 j hj
  have fA:Nat.beq j i=false:=by rw [←Bool.not_eq_true];simp;omega
  simp [fA]
theorem acf {nk:Nat→Nat→Bool}(h:∀i o,ops[i]?=some o→OpS P N ops o (F i)) (hA:Anc ops nk) {Q':Exit→Act→World→Prop}{c:Ctx}{K:St→Prop}
  (hQ:∀τ a w,K τ→Rel N c τ a w→Q' .normal a w):∀(fuel:Nat) (listed:Array Bool) (τ:St) (a:Act) (w:World),
   (rest ops.size listed).length=fuel→listed.size=ops.size→closed ops listed→aL F nk (rest ops.size listed) [] τ K→Rel N c τ a w→wpAny P .any ops Q' fuel listed a w:=by
 intro fuel
 induction fuel with
 |zero=>
  intro listed τ a w hlen _ _ hk hr
  have af6:rest ops.size listed=[]:=ZD4.1 hlen
  refine⟨?_,?_⟩
  ·rw [List.eq_nil_iff_forall_not_mem]
   intro i hi
   have:=(mem_ready.1 hi).1
   rw [af6] at this
   cases this
  ·rw [af6] at hk
   exact hQ τ a w hk hr
 |succ fuel ih=>
  intro listed τ a w hlen hs hcl hk hr
  refine⟨λaf6=>?_,λi hi=>?_⟩
  ·
   exfalso
   cases hl:rest ops.size listed with
   |nil=>rw [hl] at hlen;simp at hlen
   |cons i l=>
    have yJ:i∈rest ops.size listed:=by rw [hl];simp
    have cm:i<ops.size:=by simp only [rest,ZF4,ZE2] at yJ;exact yJ.1
    have ho:ops[i]?=some ops[i]:=ZG0 cm
    have ad8:i∈Region.ready .any ops listed:=by
     refine mem_ready.2 ⟨yJ,λo ho' p hp=>?_⟩
     rw [ho] at ho';cases ho'
     have hpi:=hA.lt i _ ho p hp
     have hpw:(rest ops.size listed).Pairwise (· < ·):=List.Pairwise.filter _ List.pairwise_lt_range
     have af5:p∉rest ops.size listed:=by
      intro hm
      rw [hl] at hm hpw
      rcases ZB8.1 hm with rfl |hm
      ·omega
      ·have:=(List.pairwise_cons.1 hpw).1 p hm;omega
     have hpn:p<listed.size:=by omega
     have:listed.getD p true=true:=by
      cases hb:listed.getD p true with
      |true=>rfl
      |false=>exact absurd (by simp only [rest,ZF4,ZE2];exact⟨by omega,by rw [hb];rfl⟩) af5
     unfold zO
     simp only [Array.getD,hpn,dif_pos] at this ⊢
     exact this
    rw [af6] at ad8
    cases ad8
  ·have hm:=mem_ready.1 hi
   obtain⟨pre,post,he,he',bU⟩:=VL hs hm.1
   have cm:i<ops.size:=by have:=hm.1;simp only [rest,ZF4,ZE2] at this;exact this.1
   have ho:ops[i]?=some ops[i]:=ZG0 cm
   have hp:=hm.2 _ ho
   have aeo:∀j∈pre,nk i j=false:=by
    intro j hj
    cases ht:nk i j with
    |false=>rfl
    |true=>
     exfalso
     have CW:=ais hA hcl i _ ho hp j ht
     have hmj:j∈rest ops.size listed:=by rw [he];simp [hj]
     simp only [rest,ZF4,ZE2] at hmj
     have hjn:j<listed.size:=by omega
     have e2:=hmj.2
     unfold zO at CW
     simp only [Array.getD,hjn,dif_pos] at e2 CW
     rw [CW] at e2
     cases e2
   rw [he] at hk
   obtain⟨ahN,_,_,hK⟩:=afw pre [] τ aeo hk
   have ajq:(rest ops.size (listed.setIfInBounds i true)).length=fuel:=by
    rw [he'];rw [he] at hlen;simp at hlen ⊢;omega
   have alh:closed ops (listed.setIfInBounds i true):=by
    have up:∀p,zO listed p→zO (listed.setIfInBounds i true) p:=by
     intro p hp
     unfold zO at hp ⊢
     rw [ZE8] at hp ⊢
     by_cases e:i=p
     ·subst e
      simp [hs,cm]
     ·rw [Array.getElem?_setIfInBounds_ne e]
      exact hp
    intro k o hk af8 p hpp
    by_cases e:i=k
    ·subst e
     rw [ho] at hk;cases hk
     exact up p (hp p hpp)
    ·refine up p (hcl k o hk ?_ p hpp)
     unfold zO at af8 ⊢
     rw [ZE8] at af8 ⊢
     rw [Array.getElem?_setIfInBounds_ne e] at af8
     exact af8
   refine wpOp_step ho λK' hK'=>?_
   exact h i _ ho c τ a w hr ahN K' Q' λu a' w' hu uK=>hK' _ _ (ih _ _ a' w' ajq (by simpa using hs) alh (by rw [he'];exact hK u hu) uK)
def aT (F:Nat→Q Rs):List Nat→St→(St→Prop)→Prop
 |[],τ,K=>K τ
 |i::l,τ,K=>((F i).run τ).pre∧∀u,((F i).run τ).out u→aT F l (τ.ap u) K
theorem UW (h:∀i o,ops[i]?=some o→OpS P N ops o (F i)) {Q':Exit→Act→World→Prop}{c:Ctx}{K:St→Prop}
  (hQ:∀τ a w,K τ→Rel N c τ a w→Q' .normal a w):∀(l:List Nat) (τ:St) (a:Act) (w:World),(∀i∈l,i<ops.size)→aT F l τ K→Rel N c τ a w→wpOps P ops Q' l a w:=by
 intro l
 induction l with
 |nil=>intro τ a w _ hk hr;exact hQ τ a w hk hr
 |cons i l ih=>
  intro τ a w hl hk hr
  obtain⟨hp,hK⟩:=hk
  have hi:i<ops.size:=hl i (by simp)
  have ho:ops[i]?=some ops[i]:=ZG0 hi
  rw [wpOps_cons]
  refine wpOp_step ho λK' hK'=>?_
  exact h i _ ho c τ a w hr hp K' Q' λu a' w' hu uK=>hK' _ _ (ih _ a' w' (λk hk=>hl k (by simp [hk])) (hK u hu) uK)
theorem Q3 (n:Nat):rest n (Array.replicate n false)=List.range n:=by
 unfold rest
 rw [List.filter_eq_self]
 intro i hi
 have:i<n:=by simpa using hi
 simp [Array.getD,this]
