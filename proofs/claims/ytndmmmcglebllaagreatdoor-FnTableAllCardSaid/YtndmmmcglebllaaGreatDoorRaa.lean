/- Part 1 of the proof of a drawn law. -/
import Derived.Lib.ItoaNum
import Derived.RegionTactic
import Derived.WalkKit
set_option maxHeartbeats 20000000
set_option maxRecDepth 100000
set_option linter.all false
namespace Go.Proofs.YtndmmmcglebllaaGreatDoor
def aa:True:=trivial
def tv2:True/\True:=⟨aa,aa⟩
def tv3:True/\True/\True:=⟨aa,aa,aa⟩
def tv4:True/\True/\True/\True:=⟨aa,aa,aa,aa⟩
def tv5:True/\True/\True/\True/\True:=⟨aa,aa,aa,aa,aa⟩
def tv6:True/\True/\True/\True/\True/\True:=⟨aa,aa,aa,aa,aa,aa⟩
def tv7:True/\True/\True/\True/\True/\True/\True:=⟨aa,aa,aa,aa,aa,aa,aa⟩
def tv8:True/\True/\True/\True/\True/\True/\True/\True:=⟨aa,aa,aa,aa,aa,aa,aa,aa⟩
def tv9:True/\True/\True/\True/\True/\True/\True/\True/\True:=⟨aa,aa,aa,aa,aa,aa,aa,aa,aa⟩
def tv10:True/\True/\True/\True/\True/\True/\True/\True/\True/\True:=⟨aa,aa,aa,aa,aa,aa,aa,aa,aa,aa⟩
def tv11:True/\True/\True/\True/\True/\True/\True/\True/\True/\True/\True:=⟨aa,aa,aa,aa,aa,aa,aa,aa,aa,aa,aa⟩
def tv12:True/\True/\True/\True/\True/\True/\True/\True/\True/\True/\True/\True:=⟨aa,aa,aa,aa,aa,aa,aa,aa,aa,aa,aa,aa⟩
def tv13:True/\True/\True/\True/\True/\True/\True/\True/\True/\True/\True/\True/\True:=⟨aa,aa,aa,aa,aa,aa,aa,aa,aa,aa,aa,aa,aa⟩
def tv14:True/\True/\True/\True/\True/\True/\True/\True/\True/\True/\True/\True/\True/\True:=⟨aa,aa,aa,aa,aa,aa,aa,aa,aa,aa,aa,aa,aa,aa⟩
def tv15:True/\True/\True/\True/\True/\True/\True/\True/\True/\True/\True/\True/\True/\True/\True:=⟨aa,aa,aa,aa,aa,aa,aa,aa,aa,aa,aa,aa,aa,aa,aa⟩
def tv16:True/\True/\True/\True/\True/\True/\True/\True/\True/\True/\True/\True/\True/\True/\True/\True:=⟨aa,aa,aa,aa,aa,aa,aa,aa,aa,aa,aa,aa,aa,aa,aa,aa⟩
def tv17:True/\True/\True/\True/\True/\True/\True/\True/\True/\True/\True/\True/\True/\True/\True/\True/\True:=⟨aa,aa,aa,aa,aa,aa,aa,aa,aa,aa,aa,aa,aa,aa,aa,aa,aa⟩
def tv18:True/\True/\True/\True/\True/\True/\True/\True/\True/\True/\True/\True/\True/\True/\True/\True/\True/\True:=⟨aa,aa,aa,aa,aa,aa,aa,aa,aa,aa,aa,aa,aa,aa,aa,aa,aa,aa⟩
def tv19:True/\True/\True/\True/\True/\True/\True/\True/\True/\True/\True/\True/\True/\True/\True/\True/\True/\True/\True:=⟨aa,aa,aa,aa,aa,aa,aa,aa,aa,aa,aa,aa,aa,aa,aa,aa,aa,aa,aa⟩
def tv20:True/\True/\True/\True/\True/\True/\True/\True/\True/\True/\True/\True/\True/\True/\True/\True/\True/\True/\True/\True:=⟨aa,aa,aa,aa,aa,aa,aa,aa,aa,aa,aa,aa,aa,aa,aa,aa,aa,aa,aa,aa⟩
def aD {p:Prop}[Decidable p] (h:decide p=false):¬p:=of_decide_eq_false h
def aF {p:Prop}[Decidable p] (h:decide p=true):p:=of_decide_eq_true h
def zqNlb {n m:Nat}(h:Nat.ble n m=true):n<=m:=Nat.le_of_ble_eq_true h
def bb {P:Prop}(h:P:=by first|omega|rfl|exact List.length_append.symm):P:=h
def aC {P:Prop}(h:P:=by repeat' (first|exact trivial|apply And.intro)):P:=h
def ZA0:type_of% @List.length_append:= @List.length_append
def ZA1:type_of% @List.length_cons:= @List.length_cons
def ZA2:type_of% @Option.getD_some:= @Option.getD_some
def ZA3:type_of% @Option.getD_none:= @Option.getD_none
def ZA4:type_of% @List.length_nil:= @List.length_nil
def ZA5:type_of% @Int.toNat_natCast:= @Int.toNat_natCast
def ZA6:type_of% @Nat.zero_add:= @Nat.zero_add
def ZA7:type_of% @Nat.zero_le:= @Nat.zero_le
def ZA8:type_of% @Nat.le_of_eq:= @Nat.le_of_eq
def ZA9:type_of% @Nat.le_trans:= @Nat.le_trans
def ZB0:type_of% @Nat.le_refl:= @Nat.le_refl
def ZB1:type_of% @Bool.and_eq_true:= @Bool.and_eq_true
def ZB2:type_of% @List.getElem?_eq_getElem:= @List.getElem?_eq_getElem
def ZB3:type_of% @List.drop_eq_nil_of_le:= @List.drop_eq_nil_of_le
def ZB4:type_of% @ByteArray.size_append:= @ByteArray.size_append
def ZB5:type_of% @List.mem_append:= @List.mem_append
def ZB6:type_of% @List.length_take:= @List.length_take
def ZB7:type_of% @List.mem_cons:= @List.mem_cons
def ZB8:type_of% @List.mem_of_getElem?:= @List.mem_of_getElem?
def ZB9:type_of% @List.getElem?_eq_some_iff:= @List.getElem?_eq_some_iff
def ZC0:type_of% @Nat.le_of_ble_eq_true:= @Nat.le_of_ble_eq_true
def ZC1:type_of% @Int.le_refl:= @Int.le_refl
def ZC2:type_of% @ByteArray.size_extract:= @ByteArray.size_extract
def ZC3:type_of% @List.getElem?_append_left:= @List.getElem?_append_left
def ZC4:type_of% @List.take_of_length_le:= @List.take_of_length_le
def ZC5:type_of% @List.append_assoc:= @List.append_assoc
def ZC6:type_of% @List.length_set:= @List.length_set
def ZC7:type_of% @Bool.or_true:= @Bool.or_true
def ZC8:type_of% @List.length_drop:= @List.length_drop
def ZC9:type_of% @List.nil_append:= @List.nil_append
def ZD0:type_of% @List.mem_singleton:= @List.mem_singleton
def ZD1:type_of% @List.flatMap_cons:= @List.flatMap_cons
def ZD2:type_of% @List.getElem?_append_right:= @List.getElem?_append_right
def ZD3:type_of% @List.all_eq_true:= @List.all_eq_true
def ZD4:type_of% @List.append_nil:= @List.append_nil
def ZD5:type_of% @Bool.or_eq_false_iff:= @Bool.or_eq_false_iff
def ZD6:type_of% @Array.length_toList:= @Array.length_toList
def ZD7:type_of% @Bool.and_false:= @Bool.and_false
def ZD8:type_of% @List.drop_zero:= @List.drop_zero
def ZD9:type_of% @Nat.le_add_right:= @Nat.le_add_right
def ZE0:type_of% @Bool.and_eq_true_iff:= @Bool.and_eq_true_iff
def ZE1:type_of% @List.getElem?_eq_none:= @List.getElem?_eq_none
def ZE2:type_of% @List.length_eq_zero_iff:= @List.length_eq_zero_iff
def ZE3:type_of% @Array.getElem?_eq_some_iff:= @Array.getElem?_eq_some_iff
def ZE4:type_of% @List.mem_replicate:= @List.mem_replicate
def ZE5:type_of% @List.mem_of_mem_take:= @List.mem_of_mem_take
def ZE6:type_of% @Decidable.not_not:= @Decidable.not_not
def ZE7:type_of% @Nat.lt_succ_self:= @Nat.lt_succ_self
def ZE8:type_of% @List.mem_range:= @List.mem_range
def ZE9:type_of% @Int.le_trans:= @Int.le_trans
def ZF0:type_of% @Nat.add_mul:= @Nat.add_mul
def ZF1:type_of% @List.map_cons:= @List.map_cons
def ZF2:type_of% @List.eq_nil_of_length_eq_zero:= @List.eq_nil_of_length_eq_zero
def ZF3:type_of% @List.take_append_drop:= @List.take_append_drop
def ZF4:type_of% @Option.some.inj:= @Option.some.inj
def ZF5:type_of% @List.mem_of_mem_drop:= @List.mem_of_mem_drop
def ZF6:type_of% @List.not_mem_nil:= @List.not_mem_nil
def ZF7:type_of% @Array.getD_eq_getD_getElem?:= @Array.getD_eq_getD_getElem?
def ZF8:type_of% @Nat.lt_of_lt_of_le:= @Nat.lt_of_lt_of_le
def ZF9:type_of% @List.length_replicate:= @List.length_replicate
def ZG0:type_of% @List.getElem?_of_mem:= @List.getElem?_of_mem
def ZG1:type_of% @List.mem_filter:= @List.mem_filter
def ZG2:type_of% @List.drop_length_add_append:= @List.drop_length_add_append
def ZG3:type_of% @List.flatMap_append:= @List.flatMap_append
def ZG4:type_of% @List.getElem_mem:= @List.getElem_mem
def ZG5:type_of% @Nat.add_assoc:= @Nat.add_assoc
def ZG6:type_of% @Bool.not_eq_true':= @Bool.not_eq_true'
def ZG7:type_of% @List.getElem?_map:= @List.getElem?_map
def ZG8:type_of% @Nat.add_sub_cancel_left:= @Nat.add_sub_cancel_left
def ZG9:type_of% @Nat.mul_le_mul_right:= @Nat.mul_le_mul_right
def ZH0:type_of% @List.drop_drop:= @List.drop_drop
def ZH1:type_of% @List.drop_eq_getElem_cons:= @List.drop_eq_getElem_cons
def ZH2:type_of% @Array.getElem?_eq_getElem:= @Array.getElem?_eq_getElem
def ZH3:type_of% @List.length_map:= @List.length_map
def ZH4:type_of% @List.cons_append:= @List.cons_append
def ZH5:type_of% @List.flatMap_nil:= @List.flatMap_nil
def ZH6:type_of% @Nat.zero_mul:= @Nat.zero_mul
def ZH7:type_of% @List.getElem?_take_of_lt:= @List.getElem?_take_of_lt
def ZH8:type_of% @Array.size_push:= @Array.size_push
def ZH9:type_of% @Int.not_lt:= @Int.not_lt
def ZI0:type_of% @List.mem_cons_of_mem:= @List.mem_cons_of_mem
def ZI1:type_of% @List.length_pos_iff:= @List.length_pos_iff
def ZI2:type_of% @Array.toList_append:= @Array.toList_append
def ZI3:type_of% @List.cons.injEq:= @List.cons.injEq
def ZI4:type_of% @List.mem_cons_self:= @List.mem_cons_self
theorem ζ {α:Sort _}{a:α}:a=a:=rfl
namespace GL
inductive CP where
 |i64
 |row
 |u8
 |str (n:Nat)
 |bool
abbrev CP.Ty:CP->Type
 |.i64=>Int
 |.row=>Int
 |.u8=>Int
 |.str _=>ByteArray
 |.bool=>Bool
def CP.val:(c:CP)->c.Ty->Value
 |.i64,n=>.int .i64 n
 |.row,n=>.int .i64 n
 |.u8,n=>.int .u8 n
 |.str _,s=>.string s
 |.bool,b=>.bool b
def CP.ok:(c:CP)->c.Ty->Prop
 |.i64,n=> -9223372036854775808<=n/\n<=9223372036854775807
 |.row,n=>0<=n/\n<=63
 |.u8,n=>0<=n/\n<=255
 |.str m,s=>s.size<=m
 |.bool,_=>True
abbrev EK:=List CP
def CP.beq:CP->CP->Bool
 |.i64,.i64=>true
 |.row,.row=>true
 |.u8,.u8=>true
 |.str m,.str n=>Nat.beq m n
 |.bool,.bool=>true
 |_,_=>false
def CP.eq_of_beq {x y:CP}(h:x.beq y=true):x=y:=by
 cases x<;>cases y<;>simp [CP.beq] at h ⊢ <;>exact h
def EK.beq:List CP->List CP->Bool
 |[],[]=>true
 |x::l,y::m=>x.beq y&&EK.beq l m
 |_,_=>false
theorem EK.eq_of_beq:∀{l m:List CP},EK.beq l m=true->l=m
 |[],[],_=>rfl
 |[],_::_,h=>by cases h
 |_::_,[],h=>by cases h
 |x::l,y::m,h=>by
  simp only [EK.beq,ZB1] at h
  rw [CP.eq_of_beq h.1,EK.eq_of_beq h.2]
abbrev EK.Ty:List CP->Type
 |[]=>Unit
 |[c]=>c.Ty
 |c::d::l=>c.Ty×EK.Ty (d::l)
def EK.cells:(ek:List CP)->EK.Ty ek->List Value
 |[],_=>[]
 |[c],x=>[c.val x]
 |c::d::l,x=>c.val x.1::EK.cells (d::l) x.2
def EK.ok:(ek:List CP)->EK.Ty ek->Prop
 |[],_=>True
 |[c],x=>c.ok x
 |c::d::l,x=>c.ok x.1/\EK.ok (d::l) x.2
def one (v:Value):Bool:=v.oneCell'
def CP.val_one (c:CP) (x:c.Ty):one (c.val x)=true:=by cases c<;>rfl
theorem EK.bV:∀(ek:List CP) (x:EK.Ty ek),(EK.cells ek x).length=ek.length
 |[],_=>rfl
 |[_],_=>rfl
 |_::d::l,x=>by simp [EK.cells,EK.bV (d::l) x.2]
def EK.TU:∀(ek:List CP) (x:EK.Ty ek),∀v∈EK.cells ek x,one v=true
 |[],_,v,h=>by cases h
 |[c],x,v,h=>by
  simp only [EK.cells,ZD0] at h
  subst h;exact c.val_one x
 |c::d::l,x,v,h=>by
  simp only [EK.cells,ZB7] at h
  rcases h with rfl |h
  ·exact c.val_one x.1
  ·exact EK.TU (d::l) x.2 v h
def flat (ek:EK) (l:List (EK.Ty ek)):List Value:=l.flatMap (EK.cells ek)
theorem ajM (ek:EK):flat ek []=[]:=rfl
theorem im (ek:EK) (x:EK.Ty ek) (l:List (EK.Ty ek)):flat ek (x::l)=EK.cells ek x++flat ek l:=rfl
def iA (ek:EK) (l m:List (EK.Ty ek)):flat ek (l++m)=flat ek l++flat ek m:=by simp [flat]
def cR (ek:EK):∀(l:List (EK.Ty ek)),(flat ek l).length=l.length*ek.length
 |[]=>by simp [flat]
 |x::l=>by simp [im,EK.bV,cR ek l,ZF0,Nat.add_comm]
def ajL (ek:EK) (l:List (EK.Ty ek)):∀v∈flat ek l,one v=true:=by
 intro v hv
 obtain⟨x,_,h⟩:=List.mem_flatMap.1 hv
 exact EK.TU ek x v h
def qM (ek:EK):∀(l:List (EK.Ty ek)) (k:Nat),(flat ek l).drop (k*ek.length)=flat ek (l.drop k)
 |_,0=>by simp
 |[],k+1=>by simp [flat]
 |x::l,k+1=>by
  rw [im,ZF0,Nat.one_mul,Nat.add_comm,<-ZH0]
  have h:(EK.cells ek x++flat ek l).drop ek.length=flat ek l:=by
   rw [<-EK.bV ek x];simp
  rw [h,List.drop_succ_cons,qM ek l k]
def oE (ek:EK):∀(l:List (EK.Ty ek)) (k:Nat),(flat ek l).take (k*ek.length)=flat ek (l.take k)
 |_,0=>by simp [flat]
 |[],k+1=>by simp [flat]
 |x::l,k+1=>by
  rw [im,List.take_succ_cons,im,<-oE ek l k,List.take_append,EK.bV,ZF0,Nat.one_mul]
  rw [ZC4 (by rw [EK.bV];omega)]
  congr 2
  omega
def aeM (ek:EK) (l:List (EK.Ty ek)) (k:Nat) (x:EK.Ty ek) (h:l[k]?=some x):((flat ek l).drop (k*ek.length)).take ek.length=EK.cells ek x:=by
 rw [qM]
 obtain⟨hk,rfl⟩:=ZB9.1 h
 rw [ZH1 hk,im,List.take_append_of_le_length (by rw [EK.bV];exact ZB0 _),ZC4 (by rw [EK.bV];exact ZB0 _)]
def aaR (ek:EK) (l:List (EK.Ty ek)) (k j:Nat) (x:EK.Ty ek) (h:l[k]?=some x) (hj:j<ek.length):(flat ek l)[k*ek.length+j]?=(EK.cells ek x)[j]?:=by
 rw [<-aeM ek l k x h,List.getElem?_take,if_pos hj,List.getElem?_drop]
inductive CV where
 |v (x:Value)
 |q (b:Bool)
 |vz (ek:EK) (l:List (EK.Ty ek))
inductive SV where
 |v (x:Value)
 |q (b:Bool)
 |bp (i off:Nat)
 |xp (i sz k j:Nat)
 |xs (i sz o m:Nat)
 |ep (ek:EK) (j:Nat)
 |sl (ek:EK) (len:Nat)
 |vw (ek:EK) (l:List (EK.Ty ek))
 |vz (ek:EK) (l:List (EK.Ty ek))
 |vp (ek:EK) (x:EK.Ty ek) (j:Nat)
 |vs (l:List CV) (j:Nat)
 |er (b:Bool)
 |e0
def CV.sv:CV->SV
 |.v x=>.v x
 |.q b=>.q b
 |.vz ek l=>.vz ek l
def cvs:List CV->List SV
 |[]=>[]
 |x::l=>x.sv::cvs l
inductive A0 where
 |s (x:SV)
 |a (l:List SV)
inductive AV where
 |o (x:A0)
 |t (l:List A0)
 |rs (ek:EK) (l:List (EK.Ty ek))
 |zz
 |fn (f:Nat) (IF:List (Nat×Nat))
abbrev AV.s (x:SV):AV:=.o (.s x)
abbrev AV.a (l:List SV):AV:=.o (.a l)
abbrev AV.int (n:Int):AV:=.o (.s (.v (.int .i64 n)))
abbrev AV.byte (n:Int):AV:=.o (.s (.v (.int .u8 n)))
abbrev AV.q (b:Bool):AV:=.o (.s (.q b))
abbrev AV.str (s:ByteArray):AV:=.o (.s (.v (.string s)))
abbrev SV.int (n:Int):SV:=.v (.int .i64 n)
abbrev SV.byte (n:Int):SV:=.v (.int .u8 n)
abbrev SV.str (s:ByteArray):SV:=.v (.string s)
def CP.sv:(c:CP)->c.Ty->SV
 |.i64,n=>.v (.int .i64 n)
 |.row,n=>.v (.int .i64 n)
 |.u8,n=>.v (.int .u8 n)
 |.str _,s=>.v (.string s)
 |.bool,b=>.q b
def EK.FQ:(ek:List CP)->EK.Ty ek->List SV
 |[],_=>[]
 |[c],x=>[c.sv x]
 |c::d::l,x=>c.sv x.1::EK.FQ (d::l) x.2
inductive BK where
 |ty (ek:EK) (n:Nat)
 |ro (cs:Array Value) (e:TypeId) (fr:Nat×Nat)
 |ln (cs:Array Value) (e:TypeId) (fr:Nat×Nat)
 |fz (ek:EK) (n:Nat) (cs:Array Value)
 |bx (n:Nat)
abbrev a8:=Nat->Option BK
def win (cs:Array Value) (o:Nat) (l:List Value):Prop:=∀j v,l[j]?=some v->cs[o+j]?=some v
def rdT (T:a8) (b:Nat) (cs:Array Value):Prop:=(∃e fr,T b=some (.ro cs e fr))\/(∃e fr,T b=some (.ln cs e fr))\/∃ek n,T b=some (.fz ek n cs)
def CV.rel (T:a8):CV->Value->Prop
 |.v x,y=>y=x
 |.q b,y=>y= .bool b
 |.vz ek l,y=>(l=[]/\∃p cap,y= .slice p 0 cap)\/∃b o cap cs,y= .slice (some ⟨b,o,none⟩) l.length cap/\l.length<=cap/\rdT T b cs/\win cs o (flat ek l)
def uk (T:a8):List CV->List Value->Prop
 |[],[]=>True
 |x::l,y::r=>x.rel T y/\uk T l r
 |_,_=>False
def SV.rel (T:a8) (β:Nat->Nat):SV->Value->Prop
 |.v x,y=>y=x
 |.q b,y=>y= .bool b
 |.bp i off,y=>y= .pointer (some ⟨β i,off,none⟩)
 |.xp i sz k j,y=>y= .pointer (some ⟨β i,k*sz+j,none⟩)/\j<sz
 |.xs i sz o m,y=>(m=0/\∃p,y= .slice p 0 0)\/∃cap n,y= .slice (some ⟨β i,o*sz,none⟩) m cap/\m<=cap/\T (β i)=some (.bx n)/\(o+cap)*sz<=n
 |.ep ek j,y=>∃b o n,y= .pointer (some ⟨b,o*ek.length+j,none⟩)/\T b=some (.ty ek n)/\o<n/\j<ek.length
 |.sl ek len,y=>(len=0/\∃p,y= .slice p 0 0)\/∃b o cap n,y= .slice (some ⟨b,o*ek.length,none⟩) len cap/\len<=cap/\T b=some (.ty ek n)/\o+cap<=n
 |.vw ek l,y=>(l=[]/\∃p cap,y= .slice p 0 cap)\/∃b o cap cs e fr,y= .slice (some ⟨b,o,none⟩) l.length cap/\l.length<=cap/\T b=some (.ro cs e fr)/\win cs o (flat ek l)
 |.vz ek l,y=>(l=[]/\∃p cap,y= .slice p 0 cap)\/∃b o cap cs,y= .slice (some ⟨b,o,none⟩) l.length cap/\l.length<=cap/\rdT T b cs/\win cs o (flat ek l)
 |.vp ek x j,y=>∃b o cs,y= .pointer (some ⟨b,o+j,none⟩)/\j<ek.length/\rdT T b cs/\win cs o (EK.cells ek x)
 |.vs l j,y=>∃b cs,y= .pointer (some ⟨b,j,none⟩)/\rdT T b cs/\uk T l cs.toList
 |.er b,y=>match b with
  |true=>y= .nilIface
  |false=>∃t v,y= .iface t v
 |.e0,y=>∃p,y= .slice p 0 0
def dY (T:a8) (β:Nat->Nat):List SV->List Value->Prop
 |[],[]=>True
 |x::l,y::r=>x.rel T β y/\dY T β l r
 |_,_=>False
def A0.rel (T:a8) (β:Nat->Nat):A0->Value->Prop
 |.s x,y=>x.rel T β y
 |.a l,y=>∃cs,y= .agg cs/\dY T β l cs.toList
def uj (T:a8) (β:Nat->Nat):List A0->List Value->Prop
 |[],[]=>True
 |x::l,y::r=>x.rel T β y/\uj T β l r
 |_,_=>False
def J9 (β:Nat->Nat):List (Nat×Nat)->List Value
 |[]=>[]
 |p::l=>.pointer (some ⟨β p.1,p.2,none⟩)::J9 β l
def AV.rel (T:a8) (β:Nat->Nat):AV->Value->Prop
 |.o x,y=>x.rel T β y
 |.t l,y=>∃vs,y= .tuple vs/\uj T β l vs.toList
 |.fn f l,y=>∃cs,y= .func (.func f) #[] cs/\cs.toList=J9 β l
 |_,_=>False
def AV.tW (T:a8) (β:Nat->Nat):AV->Array Value->Prop
 |.o (.a l),cs=>dY T β l cs.toList
 |.rs ek l,cs=>ek≠[]/\∃z,cs.toList=flat ek (l++z)/\∀x∈z,EK.ok ek x
 |_,_=>False
def SV.boxes:SV->List Nat
 |.bp i _=>[i]
 |.xp i _ _ _=>[i]
 |.xs i _ _ _=>[i]
 |_=>[]
def ct:List SV->List Nat
 |[]=>[]
 |x::l=>x.boxes++ct l
def A0.boxes:A0->List Nat
 |.s x=>x.boxes
 |.a l=>ct l
def fD:List A0->List Nat
 |[]=>[]
 |x::l=>x.boxes++fD l
def kz:List (Nat×Nat)->List Nat
 |[]=>[]
 |p::l=>p.1::kz l
def AV.boxes:AV->List Nat
 |.o x=>x.boxes
 |.t l=>fD l
 |.fn _ l=>kz l
 |_=>[]
def iI {i:Nat}:∀{l:List SV},i∈ct l↔∃x∈l,i∈x.boxes
 |[]=>by simp [ct]
 |x::l=>by simp [ct,iI (l:=l)]
def NU {i:Nat}:∀{l:List A0},i∈fD l↔∃x∈l,i∈x.boxes
 |[]=>by simp [fD]
 |x::l=>by simp [fD,NU (l:=l)]
def SV.mJ (g:Nat->Nat):SV->SV
 |.bp i o=>.bp (g i) o
 |.xp i sz k j=>.xp (g i) sz k j
 |.xs i sz o m=>.xs (g i) sz o m
 |x=>x
def GI (g:Nat->Nat):List SV->List SV
 |[]=>[]
 |x::l=>x.mJ g::GI g l
def A0.mJ (g:Nat->Nat):A0->A0
 |.s x=>.s (x.mJ g)
 |.a l=>.a (GI g l)
def GH (g:Nat->Nat):List A0->List A0
 |[]=>[]
 |x::l=>x.mJ g::GH g l
def GJ (g:Nat->Nat):List (Nat×Nat)->List (Nat×Nat)
 |[]=>[]
 |p::l=>(g p.1,p.2)::GJ g l
def AV.mJ (g:Nat->Nat):AV->AV
 |.o x=>.o (x.mJ g)
 |.t l=>.t (GH g l)
 |.fn f l=>.fn f (GJ g l)
 |x=>x
section
variable {T T':a8}{β β':Nat->Nat}{g:Nat->Nat}
def sK (T T':a8):Prop:=∀b k,T b=some k->T' b=some k
def DU (h:sK T T') {b:Nat}{cs:Array Value}(hr:rdT T b cs):rdT T' b cs:=by
 rcases hr with ⟨e,fr,h1⟩ |⟨e,fr,h1⟩ |⟨ek,n,h1⟩
 ·exact .inl ⟨e,fr,h _ _ h1⟩
 ·exact .inr (.inl ⟨e,fr,h _ _ h1⟩)
 ·exact .inr (.inr ⟨ek,n,h _ _ h1⟩)
def CV.ahP {x:CV}{v:Value}:x.rel T v↔x.sv.rel T β v:=by cases x<;>exact Iff.rfl
def DR:∀{l:List CV}{cs:List Value},uk T l cs->dY T β (cvs l) cs
 |[],[],_=>trivial
 |_::_,[],h=>h.elim
 |[],_::_,h=>h.elim
 |_::_,_::_,h=>⟨CV.ahP.1 h.1,DR h.2⟩
def CV.ahQ (h:∀b cs,rdT T b cs->rdT T' b cs) {x:CV}{v:Value}(hr:x.rel T v):x.rel T' v:=by
 cases x with
 |v x=>exact hr
 |q b=>exact hr
 |vz ek l=>
  rcases hr with hr |⟨b,o,cap,cs,h1,h2,h3,h4⟩
  ·exact .inl hr
  ·exact .inr ⟨b,o,cap,cs,h1,h2,h _ _ h3,h4⟩
def KJ (h:∀b cs,rdT T b cs->rdT T' b cs):∀{l:List CV}{cs:List Value},uk T l cs->uk T' l cs
 |[],[],_=>trivial
 |_::_,[],h'=>h'.elim
 |[],_::_,h'=>h'.elim
 |_::_,_::_,h'=>⟨CV.ahQ h h'.1,KJ h h'.2⟩
def SV.mV (h:sK T T') {x:SV}{v:Value}(hr:x.rel T β v):x.rel T' β v:=by
 cases x with
 |v x=>exact hr
 |q b=>exact hr
 |bp i o=>exact hr
 |xp i sz k j=>exact hr
 |xs i sz o m=>
  rcases hr with hr |⟨cap,n,h1,h2,h3,h4⟩
  ·exact .inl hr
  ·exact .inr ⟨cap,n,h1,h2,h _ _ h3,h4⟩
 |ep ek j=>obtain⟨b,o,n,h1,h2,h3⟩:=hr;exact⟨b,o,n,h1,h _ _ h2,h3⟩
 |sl ek len=>
  rcases hr with hr |⟨b,o,cap,n,h1,h2,h3,h4⟩
  ·exact .inl hr
  ·exact .inr ⟨b,o,cap,n,h1,h2,h _ _ h3,h4⟩
 |vw ek l=>
  rcases hr with hr |⟨b,o,cap,cs,e,fr,h1,h2,h3,h4⟩
  ·exact .inl hr
  ·exact .inr ⟨b,o,cap,cs,e,fr,h1,h2,h _ _ h3,h4⟩
 |vz ek l=>
  rcases hr with hr |⟨b,o,cap,cs,h1,h2,h3,h4⟩
  ·exact .inl hr
  ·exact .inr ⟨b,o,cap,cs,h1,h2,DU h h3,h4⟩
 |vp ek x j=>
  obtain⟨b,o,cs,h1,h2,h3,h4⟩:=hr
  exact⟨b,o,cs,h1,h2,DU h h3,h4⟩
 |vs l j=>
  obtain⟨b,cs,h1,h2,h3⟩:=hr
  exact⟨b,cs,h1,DU h h2,KJ (λ_ _=>DU h) h3⟩
 |er b=>exact hr
 |e0=>exact hr
def GM (h:sK T T'):∀{l:List SV}{cs:List Value},dY T β l cs->dY T' β l cs
 |[],[],_=>trivial
 |_::_,[],h'=>h'.elim
 |[],_::_,h'=>h'.elim
 |_::_,_::_,h'=>⟨SV.mV h h'.1,GM h h'.2⟩
def A0.mV (h:sK T T') {x:A0}{v:Value}(hr:x.rel T β v):x.rel T' β v:=by
 cases x with
 |s x=>exact SV.mV h hr
 |a l=>obtain⟨cs,e,hl⟩:=hr;exact⟨cs,e,GM h hl⟩
def RO (h:sK T T'):∀{l:List A0}{cs:List Value},uj T β l cs->uj T' β l cs
 |[],[],_=>trivial
 |_::_,[],h'=>h'.elim
 |[],_::_,h'=>h'.elim
 |_::_,_::_,h'=>⟨A0.mV h h'.1,RO h h'.2⟩
def AV.mV (h:sK T T') {x:AV}{v:Value}(hr:x.rel T β v):x.rel T' β v:=by
 cases x with
 |o x=>exact A0.mV h hr
 |t l=>obtain⟨cs,e,hl⟩:=hr;exact⟨cs,e,RO h hl⟩
 |rs ek l=>exact hr
 |zz=>exact hr
 |fn f l=>exact hr
def AV.PN (h:sK T T') {x:AV}{cs:Array Value}(hr:x.tW T β cs):x.tW T' β cs:=by
 cases x with
 |o x=>
  cases x with
  |s x=>exact hr
  |a l=>exact GM h hr
 |_=>exact hr
def SV.oR {x:SV}(h:∀i∈x.boxes,β' (g i)=β i) {v:Value}(hr:x.rel T β v):(x.mJ g).rel T β' v:=by
 cases x with
 |bp i o=>
  have:=h i (by simp [SV.boxes])
  show v=_
  rw [this];exact hr
 |xp i sz k j=>
  have:=h i (by simp [SV.boxes])
  show v=_/\_
  rw [this];exact hr
 |xs i sz o m=>
  have:=h i (by simp [SV.boxes])
  rcases hr with hr |⟨cap,n,h1,h2,h3,h4⟩
  ·exact .inl hr
  ·exact .inr ⟨cap,n,by rw [this];exact h1,h2,by rw [this];exact h3,h4⟩
 |_=>exact hr
def MH:∀{l:List SV}{cs:List Value},(∀i∈ct l,β' (g i)=β i)->dY T β l cs->dY T β' (GI g l) cs
 |[],[],_,_=>trivial
 |_::_,[],_,h'=>h'.elim
 |[],_::_,_,h'=>h'.elim
 |_::_,_::_,hd,h'=>by
  simp only [ct,ZB5] at hd
  exact⟨SV.oR (λi hi=>hd i (.inl hi)) h'.1,MH (λi hi=>hd i (.inr hi)) h'.2⟩
def A0.oR {x:A0}(h:∀i∈x.boxes,β' (g i)=β i) {v:Value}(hr:x.rel T β v):(x.mJ g).rel T β' v:=by
 cases x with
 |s x=>exact SV.oR h hr
 |a l=>obtain⟨cs,e,hl⟩:=hr;exact⟨cs,e,MH h hl⟩
def YP:∀{l:List A0}{cs:List Value},(∀i∈fD l,β' (g i)=β i)->uj T β l cs->uj T β' (GH g l) cs
 |[],[],_,_=>trivial
 |_::_,[],_,h'=>h'.elim
 |[],_::_,_,h'=>h'.elim
 |_::_,_::_,hd,h'=>by
  simp only [fD,ZB5] at hd
  exact⟨A0.oR (λi hi=>hd i (.inl hi)) h'.1,YP (λi hi=>hd i (.inr hi)) h'.2⟩
theorem abb:∀{l:List (Nat×Nat)},(∀i∈kz l,β' (g i)=β i)->J9 β' (GJ g l)=J9 β l
 |[],_=>rfl
 |p::l,h=>by
  simp only [kz,ZB7] at h
  simp only [J9,GJ]
  rw [h _ (.inl rfl),abb (λi hi=>h i (.inr hi))]
def AV.oR {x:AV}(h:∀i∈x.boxes,β' (g i)=β i) {v:Value}(hr:x.rel T β v):(x.mJ g).rel T β' v:=by
 cases x with
 |o x=>exact A0.oR h hr
 |t l=>obtain⟨cs,e,hl⟩:=hr;exact⟨cs,e,YP h hl⟩
 |rs ek l=>exact hr
 |zz=>exact hr
 |fn f l=>obtain⟨cs,e,hl⟩:=hr;exact⟨cs,e,hl.trans (abb h).symm⟩
def AV.K4 {x:AV}(h:∀i∈x.boxes,β' (g i)=β i) {cs:Array Value}(hr:x.tW T β cs):(x.mJ g).tW T β' cs:=by
 cases x with
 |o x=>
  cases x with
  |s x=>exact hr
  |a l=>exact MH h hr
 |_=>exact hr
def SV.xO {x:SV}:x.mJ (λi=>i)=x:=by cases x<;>rfl
theorem ad6:∀{l:List SV},GI (λi=>i) l=l
 |[]=>rfl
 |x::l=>by simp [GI,SV.xO,ad6 (l:=l)]
def A0.xO {x:A0}:x.mJ (λi=>i)=x:=by
 cases x with
 |s x=>simp [A0.mJ,SV.xO]
 |a l=>simp [A0.mJ,ad6]
theorem ad5:∀{l:List A0},GH (λi=>i) l=l
 |[]=>rfl
 |x::l=>by simp [GH,A0.xO,ad5 (l:=l)]
theorem ad7:∀{l:List (Nat×Nat)},GJ (λi=>i) l=l
 |[]=>rfl
 |p::l=>by simp [GJ,ad7 (l:=l)]
theorem AV.xO {x:AV}:x.mJ (λi=>i)=x:=by
 cases x with
 |o x=>simp [AV.mJ,A0.xO]
 |t l=>simp [AV.mJ,ad5]
 |fn f l=>simp [AV.mJ,ad7]
 |_=>rfl
def AV.ahR {x:AV}(h:∀i∈x.boxes,β' i=β i) {v:Value}(hr:x.rel T β v):x.rel T β' v:=by
 have:=AV.oR (g:=λi=>i) h hr
 rwa [AV.xO] at this
def AV.ads {x:AV}(h:∀i∈x.boxes,β' i=β i) {cs:Array Value}(hr:x.tW T β cs):x.tW T β' cs:=by
 have:=AV.K4 (g:=λi=>i) h hr
 rwa [AV.xO] at this
def SV.ig {x:SV}{i:Nat}(h:i∈(x.mJ g).boxes):∃j∈x.boxes,i=g j:=by
 cases x<;>simp [SV.mJ,SV.boxes] at h ⊢ <;>exact h
def MF {i:Nat}:∀{l:List SV},i∈ct (GI g l)->∃j∈ct l,i=g j
 |[],h=>by simp [GI,ct] at h
 |x::l,h=>by
  simp only [GI,ct,ZB5] at h
  rcases h with h |h
  ·obtain⟨j,hj,e⟩:=SV.ig h;exact⟨j,by simp [ct,hj],e⟩
  ·obtain⟨j,hj,e⟩:=MF h;exact⟨j,by simp [ct,hj],e⟩
def A0.ig {x:A0}{i:Nat}(h:i∈(x.mJ g).boxes):∃j∈x.boxes,i=g j:=by
 cases x with
 |s x=>exact SV.ig h
 |a l=>exact MF h
def ME {i:Nat}:∀{l:List A0},i∈fD (GH g l)->∃j∈fD l,i=g j
 |[],h=>by simp [GH,fD] at h
 |x::l,h=>by
  simp only [GH,fD,ZB5] at h
  rcases h with h |h
  ·obtain⟨j,hj,e⟩:=A0.ig h;exact⟨j,by simp [fD,hj],e⟩
  ·obtain⟨j,hj,e⟩:=ME h;exact⟨j,by simp [fD,hj],e⟩
def MG {i:Nat}:∀{l:List (Nat×Nat)},i∈kz (GJ g l)->∃j∈kz l,i=g j
 |[],h=>by simp [GJ,kz] at h
 |p::l,h=>by
  simp only [GJ,kz,ZB7] at h
  rcases h with h |h
  ·exact⟨p.1,by simp [kz],h⟩
  ·obtain⟨j,hj,e⟩:=MG h;exact⟨j,by simp [kz,hj],e⟩
def AV.ig {x:AV}{i:Nat}(h:i∈(x.mJ g).boxes):∃j∈x.boxes,i=g j:=by
 cases x with
 |o x=>exact A0.ig h
 |t l=>exact ME h
 |fn f l=>exact MG h
 |rs ek l=>simp [AV.mJ,AV.boxes] at h
 |zz=>simp [AV.mJ,AV.boxes] at h
end
section
variable {T:a8}{β:Nat->Nat}
theorem lx:∀{l:List SV}{cs:List Value},dY T β l cs->l.length=cs.length
 |[],[],_=>rfl
 |_::_,[],h=>h.elim
 |[],_::_,h=>h.elim
 |_::l,_::cs,h=>by simp [lx h.2]
def vC:∀{l:List SV}{cs:List Value},dY T β l cs->∀{i:Nat}{x:SV},l[i]?=some x->∃v,cs[i]?=some v/\x.rel T β v
 |[],[],_,i,x,hx=>by simp at hx
 |_::_,[],h,_,_,_=>h.elim
 |[],_::_,h,_,_,_=>h.elim
 |y::l,v::cs,h,i,x,hx=>by
  cases i with
  |zero=>simp at hx;subst hx;exact⟨v,by simp,h.1⟩
  |succ i=>simpa using vC h.2 (by simpa using hx)
def zn:∀{l:List SV}{cs:List Value}(n:Nat),dY T β l cs->dY T β (l.take n) (cs.take n)
 |_,_,0,_=>by simp [dY]
 |[],[],_,_=>by simp [dY]
 |_::_,[],_,h=>h.elim
 |[],_::_,_,h=>h.elim
 |_::l,_::cs,n+1,h=>⟨h.1,zn n h.2⟩
def zo:∀{l:List SV}{cs:List Value}(n:Nat),dY T β l cs->dY T β (l.drop n) (cs.drop n)
 |_,_,0,h=>by simpa using h
 |[],[],_,_=>by simp [dY]
 |_::_,[],_,h=>h.elim
 |[],_::_,_,h=>h.elim
 |_::l,_::cs,n+1,h=>by simpa using zo n h.2
def ad8:∀{l:List A0}{cs:List Value},uj T β l cs->∀{i:Nat}{x:A0},l[i]?=some x->∃v,cs[i]?=some v/\x.rel T β v
 |[],[],_,i,x,hx=>by simp at hx
 |_::_,[],h,_,_,_=>h.elim
 |[],_::_,h,_,_,_=>h.elim
 |y::l,v::cs,h,i,x,hx=>by
  cases i with
  |zero=>simp at hx;subst hx;exact⟨v,by simp,h.1⟩
  |succ i=>simpa using ad8 h.2 (by simpa using hx)
theorem YQ:∀{l:List A0}{cs:List Value},uj T β l cs->l.length=cs.length
 |[],[],_=>rfl
 |_::_,[],h=>h.elim
 |[],_::_,h=>h.elim
 |_::l,_::cs,h=>by simp [YQ h.2]
def CP.abt (c:CP) (x:c.Ty):(c.sv x).rel T β (c.val x):=by cases c<;>rfl
def EK.KC:∀(ek:List CP) (x:EK.Ty ek),dY T β (EK.FQ ek x) (EK.cells ek x)
 |[],_=>trivial
 |[c],x=>⟨c.abt x,trivial⟩
 |c::d::l,x=>⟨c.abt x.1,EK.KC (d::l) x.2⟩
theorem EK.F2:∀(ek:List CP) (x:EK.Ty ek),ct (EK.FQ ek x)=[]
 |[],_=>rfl
 |[c],x=>by cases c<;>rfl
 |c::d::l,x=>by
  have:=EK.F2 (d::l) x.2
  cases c<;>simp [EK.FQ,ct,CP.sv,SV.boxes,this]
end
inductive gx where
 |s (n:Nat)
 |b (n:Nat)
 deriving DecidableEq
def gx.beq:gx->gx->Bool
 |.s m,.s n=>Nat.beq m n
 |.b m,.b n=>Nat.beq m n
 |_,_=>false
def gx.beq_iff {x y:gx}:x.beq y=true↔x=y:=by
 cases x<;>cases y<;>simp [gx.beq]
def gx.beq_false {x y:gx}:x.beq y=false↔x≠y:=by
 rw [<-Bool.not_eq_true,ne_eq,gx.beq_iff]
def gx.abe (x:gx):x.beq x=true:=gx.beq_iff.2 rfl
abbrev St:=gx->Option AV
abbrev FJ:=List (gx×AV)
def St.ap (τ:St):FJ->St
 |[]=>τ
 |(k,v)::u=>λr=>bif gx.beq k r then some v else St.ap τ u r
def agree (R:List gx) (τ τ':St):Prop:=∀r∈R,τ r=τ' r
theorem St.za {τ:St}{u:FJ}{r:gx}(h:∀p∈u,p.1≠r):τ.ap u r=τ r:=by
 induction u with
 |nil=>rfl
 |cons p u ih=>
  obtain⟨k,v⟩:=p
  have hk:gx.beq k r=false:=gx.beq_false.2 (h (k,v) (by simp))
  show (bif gx.beq k r then some v else St.ap τ u r)=_
  rw [hk]
  exact ih λp hp=>h p (by simp [hp])
def St.FH {τ:St}{u:FJ}{r:gx}:(∃v,τ.ap u r=some v/\(r,v)∈u)\/(τ.ap u r=τ r/\∀p∈u,p.1≠r):=by
 induction u with
 |nil=>exact .inr ⟨rfl,λ_ h=>by cases h⟩
 |cons p u ih=>
  obtain⟨k,v⟩:=p
  cases hk:gx.beq k r with
  |true=>
   obtain rfl:=gx.beq_iff.1 hk
   exact .inl ⟨v,by show (bif gx.beq k k then some v else St.ap τ u k)=_;rw [hk];rfl,by simp⟩
  |false=>
   have e:St.ap τ ((k,v)::u) r=St.ap τ u r:=by
    show (bif gx.beq k r then some v else St.ap τ u r)=_
    rw [hk];rfl
   rcases ih with ⟨x,hx,hm⟩ |⟨hx,hn⟩
   ·exact .inl ⟨x,by rw [e,hx],by simp [hm]⟩
   ·refine .inr ⟨by rw [e,hx],λp hp=>?_⟩
    rcases ZB7.1 hp with rfl |hp
    ·exact gx.beq_false.1 hk
    ·exact hn p hp
theorem St.afd {τ τ':St}{r:gx}:∀{v:FJ},(∃p∈v,p.1=r)->τ.ap v r=τ'.ap v r:=by
 intro v
 induction v with
 |nil=>intro ⟨p,hp,_⟩;cases hp
 |cons p v ih=>
  obtain⟨k,z⟩:=p
  intro hex
  show (bif gx.beq k r then some z else St.ap τ v r)=(bif gx.beq k r then some z else St.ap τ' v r)
  cases hk:gx.beq k r with
  |true=>rfl
  |false=>
   refine ih ?_
   obtain⟨p,hp,e⟩:=hex
   rcases ZB7.1 hp with rfl |hp
   ·exact absurd e (gx.beq_false.1 hk)
   ·exact⟨p,hp,e⟩
def St.al2 {τ:St}{u v:FJ}(h:∀p∈u,∀q∈v,p.1≠q.1):(τ.ap u).ap v=(τ.ap v).ap u:=by
 funext r
 rcases St.FH (τ:=τ.ap u) (u:=v) (r:=r) with ⟨x,hx,hm⟩ |⟨hx,hn⟩
 ·have hu:∀p∈u,p.1≠r:=λp hp e=>h p hp _ hm e
  rw [St.za hu]
  exact St.afd ⟨_,hm,rfl⟩
 ·rw [hx]
  rcases St.FH (τ:=τ.ap v) (u:=u) (r:=r) with ⟨y,hy,hm⟩ |⟨hy,hn'⟩
  ·exact St.afd ⟨_,hm,rfl⟩
  ·rw [hy,St.za hn,St.za hn']
def akN {R:List gx}{τ:St}{u:FJ}(h:∀p∈u,p.1∉R):agree R (τ.ap u) τ:=λ_ hr=>
 St.za λp hp e=>h p hp (e ▸ hr)
def adn (x y:List gx):Bool:=x.all λr=>y.all λq=> !gx.beq r q
def indep (R W R' W':List gx):Bool:=adn W R'&&adn W W'&&adn W' R
def K2 {x y:List gx}(h:adn x y=true) {r q:gx}(hr:r∈x) (hq:q∈y):r≠q:=by
 have:=ZD3.1 (ZD3.1 h r hr) q hq
 exact gx.beq_false.1 (by simpa using this)
end GL
namespace GL
def uO:List (Nat×(Array Value->Prop)):=
 (0,λcs=>∃n,cs= #[.int .i64 n])::
 (1,λcs=>∃t v,cs= #[.iface t v])::
 (2,λcs=>∃t v,cs= #[.iface t v])::
 (3,λcs=>cs=(Lib.pow10Tab.map λz=>Value.int .u64 z).toArray)::
 []
end GL
namespace GL
def free (fr:Nat×Nat) (n:Nat):Prop:=fr.1=fr.2\/(n<=fr.1/\fr.1<=fr.2)
def O6 (n:Nat):free (0,0) n:=.inl rfl
def alE {fr:Nat×Nat}{n:Nat}(h:free fr n):∀i,i<n->(decide (fr.1<=i)&&decide (i<fr.2))=false:=by
 intro i hi
 rw [Bool.and_eq_false_iff]
 simp only [decide_eq_false_iff_not]
 rcases h with h |h<;>omega
def al8 (ek:EK) (n:Nat) (l:List (EK.Ty ek)) (cs:Array Value):Prop:=l.length=n/\(∀x∈l,EK.ok ek x)/\cs.toList=flat ek l
def BK.holds (w:World) (b:Nat):BK->Prop
 |.ty ek n=>ek≠[]/\∃cs e fr l,w.heap[b]?=some (.cells cs e fr)/\free fr cs.size/\al8 ek n l cs
 |.ro cs e fr=>w.heap[b]?=some (.cells cs e fr)
 |.ln cs e fr=>w.heap[b]?=some (.cells cs e fr)
 |.fz ek n cs=>ek≠[]/\∃e fr l,w.heap[b]?=some (.cells cs e fr)/\free fr cs.size/\al8 ek n l cs
 |.bx n=>∃cs e,w.heap[b]?=some (.cells cs e (0,0))/\cs.size=n
def BK.un:BK->BK
 |.fz ek n _=>.ty ek n
 |k=>k
def WT (T:a8) (w:World):Prop:=∀b k,T b=some k->k.holds w b
def BK.lt {w:World}{b:Nat}{k:BK}(h:k.holds w b):b<w.heap.size:=by
 cases k with
 |ty ek n=>obtain⟨_,cs,e,fr,l,h,_⟩:=h;exact (ZE3.1 h).1
 |ro cs e fr=>exact (ZE3.1 h).1
 |ln cs e fr=>exact (ZE3.1 h).1
 |fz ek n cs=>obtain⟨_,e,fr,l,h,_⟩:=h;exact (ZE3.1 h).1
 |bx n=>obtain⟨cs,e,h,_⟩:=h;exact (ZE3.1 h).1
def BK.rX {w w':World}{b:Nat}{k:BK}(h:k.holds w b) (e:w'.heap[b]?=w.heap[b]?):k.holds w' b:=by
 cases k with
 |ty ek n=>exact⟨h.1,by rw [e];exact h.2⟩
 |ro cs e' fr=>show w'.heap[b]?=_;rw [e];exact h
 |ln cs e' fr=>show w'.heap[b]?=_;rw [e];exact h
 |fz ek n cs=>exact⟨h.1,by rw [e];exact h.2⟩
 |bx n=>show∃cs e,_/\_;rw [e];exact h
def DT {T:a8}{w:World}(h:WT T w) {b:Nat}{cs:Array Value}(hr:rdT T b cs):∃e fr,w.heap[b]?=some (.cells cs e fr):=by
 rcases hr with ⟨e,fr,h1⟩ |⟨e,fr,h1⟩ |⟨ek,n,h1⟩
 ·exact⟨e,fr,h _ _ h1⟩
 ·exact⟨e,fr,h _ _ h1⟩
 ·obtain⟨_,e,fr,l,h2,_⟩:=h _ _ h1;exact⟨e,fr,h2⟩
structure Ctx where
 W:World
 T:a8
 H:List Nat
def quiet:Option BK->Prop
 |none=>True
 |some (.bx _)=>True
 |_=>False
def live (τ:St) (i:Nat):Prop:=match τ (.b i) with
 |none=>False
 |some .zz=>False
 |_=>True
def lO {τ:St}{i:Nat}(h:live τ i):τ (.b i)≠none:=λe=>by simp only [live,e] at h
def fg {τ:St}{i:Nat}{av:AV}(h:τ (.b i)=some av) (hz:av≠.zz):live τ i:=by
 unfold live
 rw [h]
 cases av<;>first|trivial|exact absurd rfl hz
def aoE (c:Ctx) (i b:Nat):Prop:=(i<1000->b∈c.H)/\(1000<=i->i<1000000000->c.W.heap.size<=b)/\(c.W.heap.size<=b\/b∈c.H)
def adG (T:a8):Prop:=∀g∈uO,∃cs e fr,T g.1=some (.ro cs e fr)/\g.2 cs
def adG.mono {T T':a8}(h:sK T T') (hg:adG T):adG T':=λg hm=>by
 obtain⟨cs,e,fr,h1,h2⟩:=hg g hm
 exact⟨cs,e,fr,h _ _ h1,h2⟩
structure Holds (N:Nat) (c:Ctx) (T:a8) (β:Nat->Nat) (τ:St) (a:Act) (w:World):Prop where
 defs:a.defers=[]
 size:a.tmps.size=N
 JK:c.H.length<=1000
 jD:∀i av,τ (.s i)=some av->∃v,a.tmps[i]?=some v/\av.rel T β v
 boxes:∀i av,τ (.b i)=some av->av≠.zz->∃cs e,w.heap[β i]?=some (.cells cs e (0,0))/\av.tW T β cs
 apart:∀i,live τ i->(∃n,T (β i)=some (.bx n))/\aoE c i (β i)
 handed:∀i b,c.H[i]?=some b->live τ i->β i=b
 inj:∀i j,live τ i->live τ j->β i=β j->i=j
 named:∀r av,τ r=some av->∀i∈av.boxes,τ (.b i)≠none
 typed:WT T w
 old:∀b,b<c.W.heap.size->(T b).map BK.un=c.T b
 frame:∀b,b<c.W.heap.size->b∉c.H->quiet (c.T b)->w.heap[b]?=c.W.heap[b]?
 gS:c.W.heap.size<=w.heap.size
 os:w.os=c.W.os
 tape:w.tape=c.W.tape
 output:w.output=c.W.output
 pO:adG T
def Rel (N:Nat) (c:Ctx) (τ:St) (a:Act) (w:World):Prop:=∃T β,Holds N c T β τ a w
section
variable {N:Nat}{c:Ctx}{T:a8}{β:Nat->Nat}{τ:St}{a:Act}{w w':World}
def Holds.drew (h:Holds N c T β τ a w):Holds N c T β τ a { w with drawn:=w.drawn+1 }:=
 {h with
  boxes:=h.boxes
  typed:=λb k hb=>BK.rX (h.typed b k hb) rfl
  frame:=h.frame }
def Rel.drew (h:Rel N c τ a w):Rel N c τ a { w with drawn:=w.drawn+1 }:=by
 obtain⟨T,β,h⟩:=h
 exact⟨T,β,h.drew⟩
def wN {r q:gx}{av:AV}:(τ.ap [(r,av)]) q=if q=r then some av else τ q:=by
 show (bif gx.beq r q then some av else τ q)=_
 by_cases e:q=r
 ·subst e;rw [gx.abe,if_pos rfl];rfl
 ·rw [gx.beq_false.2 (λh=>e h.symm),if_neg e];rfl
def zy {d:Nat}{av:AV}{i:Nat}:live (τ.ap [(.s d,av)]) i=live τ i:=by
 unfold live
 rw [wN,if_neg (by simp)]
def Holds.put (h:Holds N c T β τ a w) {d:Nat}(hd:d<N) {av:AV}{v:Value}
  (hav:av.rel T β v) (hsc:∀i∈av.boxes,τ (.b i)≠none)
  :Holds N c T β (τ.ap [(.s d,av)]) (a.put (some d) v) w where
 defs:=h.defs
 size:=by simp [Act.put,h.size]
 JK:=h.JK
 jD:=λi x hx=>by
  rw [wN] at hx
  by_cases e:i=d
  ·subst e
   rw [if_pos rfl] at hx;cases hx
   refine⟨v,?_,hav⟩
   simp [Act.put,h.size,hd]
  ·rw [if_neg (by simp [e])] at hx
   obtain⟨y,hy,hr⟩:=h.jD i x hx
   refine⟨y,?_,hr⟩
   simp only [Act.put]
   rw [Array.getElem?_setIfInBounds_ne (by omega)]
   exact hy
 boxes:=λi x hx=>h.boxes i x (by rwa [wN,if_neg (by simp)] at hx)
 apart:=λi hi=>h.apart i (by rwa [zy] at hi)
 handed:=λi b hb h0=>h.handed i b hb (by rwa [zy] at h0)
 inj:=λi j hi hj e=>h.inj i j (by rwa [zy] at hi) (by rwa [zy] at hj) e
 named:=λr x hx i hi=>by
  rw [wN,if_neg (by simp)]
  rw [wN] at hx
  by_cases e:r= .s d
  ·rw [if_pos e] at hx;cases hx;exact hsc i hi
  ·rw [if_neg e] at hx;exact h.named r x hx i hi
 typed:=h.typed
 old:=h.old
 frame:=h.frame
 gS:=h.gS
 os:=h.os
 tape:=h.tape
 output:=h.output
 pO:=h.pO
def L5 (x:Option AV):AV->Prop
 |.o (.s (.q c))=>match x with
  |some (.o (.s (.v (.bool b))))=>b=c
  |x=>x=some (.o (.s (.q c)))
 |y=>x=some y
def abC {y:AV}:L5 (some y) y:=by
 unfold L5
 split
 ·split
  ·rename_i h;cases h
  ·rfl
 ·rfl
def aft {x:Option AV}{y:AV}(h:L5 x y):∃z,x=some z/\∀{T:a8}{β:Nat->Nat}{v:Value},z.rel T β v->y.rel T β v:=by
 unfold L5 at h
 split at h
 ·split at h
  ·rename_i b
   subst h
   exact⟨_,rfl,λhr=>hr⟩
  ·exact⟨_,h,λhr=>hr⟩
 ·exact⟨_,h,λhr=>hr⟩
structure Sub (σ:Nat->Nat) (τ' τ:St):Prop where
 slot:∀i av,τ' (.s i)=some av->L5 (τ (.s i)) (av.mJ σ)
 box:∀i av,τ' (.b i)=some av->τ (.b (σ i))=some (av.mJ σ)
 named:∀r av,τ' r=some av->∀i∈av.boxes,τ' (.b i)≠none
 inj:∀i j,τ' (.b i)≠none->τ' (.b j)≠none->σ i=σ j->i=j
 low:∀i,τ' (.b i)≠none->σ i=i\/((1000<=i/\i<1000000000)/\1000<=σ i/\σ i<1000000000)\/1000000000<=i
def ahN {g:Nat->Nat}{av:AV}(h:av≠.zz):av.mJ g≠.zz:=by
 cases av with
 |zz=>exact absurd rfl h
 |o x=>intro e;cases e
 |t l=>intro e;cases e
 |rs ek l=>intro e;cases e
 |fn f l=>intro e;cases e
def SV.rr {σ:Nat->Nat}{x:SV}{v:Value}(hr:(x.mJ σ).rel T β v):x.rel T (λi=>β (σ i)) v:=by
 cases x<;>exact hr
def GO {σ:Nat->Nat}:∀{l:List SV}{cs:List Value},dY T β (GI σ l) cs->dY T (λi=>β (σ i)) l cs
 |[],[],_=>trivial
 |_::_,[],h'=>h'.elim
 |[],_::_,h'=>h'.elim
 |_::_,_::_,h'=>⟨SV.rr h'.1,GO h'.2⟩
def A0.rr {σ:Nat->Nat}{x:A0}{v:Value}(hr:(x.mJ σ).rel T β v):x.rel T (λi=>β (σ i)) v:=by
 cases x with
 |s x=>exact SV.rr hr
 |a l=>obtain⟨cs,e,hl⟩:=hr;exact⟨cs,e,GO hl⟩
def RQ {σ:Nat->Nat}:∀{l:List A0}{cs:List Value},uj T β (GH σ l) cs->uj T (λi=>β (σ i)) l cs
 |[],[],_=>trivial
 |_::_,[],h'=>h'.elim
 |[],_::_,h'=>h'.elim
 |_::_,_::_,h'=>⟨A0.rr h'.1,RQ h'.2⟩
theorem TX {σ:Nat->Nat}:∀{l:List (Nat×Nat)},J9 β (GJ σ l)=J9 (λi=>β (σ i)) l
 |[]=>rfl
 |p::l=>by simp only [J9,GJ];rw [TX]
def AV.rr {σ:Nat->Nat}{x:AV}{v:Value}(hr:(x.mJ σ).rel T β v):x.rel T (λi=>β (σ i)) v:=by
 cases x with
 |o x=>exact A0.rr hr
 |t l=>obtain⟨cs,e,hl⟩:=hr;exact⟨cs,e,RQ hl⟩
 |rs ek l=>exact hr
 |zz=>exact hr
 |fn f l=>obtain⟨cs,e,hl⟩:=hr;exact⟨cs,e,hl.trans TX⟩
def AV.akl {σ:Nat->Nat}{x:AV}{cs:Array Value}(hr:(x.mJ σ).tW T β cs):x.tW T (λi=>β (σ i)) cs:=by
 cases x with
 |o x=>
  cases x with
  |s x=>exact hr
  |a l=>exact GO hr
 |_=>exact hr
def Sub.live {σ:Nat->Nat}{τ':St}(h:Sub σ τ' τ) {i:Nat}(hl:live τ' i):GL.live τ (σ i):=by
 cases hb:τ' (.b i) with
 |none=>exact absurd hb (lO hl)
 |some av=>
  refine fg (h.box i av hb) (ahN λe=>?_)
  subst e
  unfold GL.live at hl
  rw [hb] at hl
  exact hl
def Rel.sub {σ:Nat->Nat}{τ':St}(h:Sub σ τ' τ) (hr:Rel N c τ a w):Rel N c τ' a w:=by
 obtain⟨T,β,hh⟩:=hr
 refine⟨T,λi=>β (σ i),{ hh with
  jD:=λi av hs=>by
   obtain⟨z,hz,hzr⟩:=aft (h.slot i av hs)
   obtain⟨v,hv,hr⟩:=hh.jD i _ hz
   exact⟨v,hv,AV.rr (hzr hr)⟩
  boxes:=λi av hs hz=>by
   obtain⟨cs,e,h1,h2⟩:=hh.boxes _ _ (h.box i av hs) (ahN hz)
   exact⟨cs,e,h1,AV.akl h2⟩
  apart:=λi hi=>by
   obtain⟨h1,h2,h3,h4⟩:=hh.apart _ (h.live hi)
   refine⟨h1,λh5=>?_,λh5 h6=>?_,h4⟩
   ·rcases h.low i (lO hi) with e |e |e
    ·exact h2 (by omega)
    ·omega
    ·omega
   ·rcases h.low i (lO hi) with e |e |e
    ·exact h3 (by omega) (by omega)
    ·exact h3 e.2.1 e.2.2
    ·omega
  handed:=λi b hb hi=>by
   have bR:i<c.H.length:=(ZB9.1 hb).1
   have H0:=h.live hi
   rcases h.low i (lO hi) with e |e |e
   ·show β (σ i)=b
    rw [e] at H0 ⊢
    exact hh.handed i b hb H0
   ·exact absurd hh.JK (by omega)
   ·exact absurd hh.JK (by omega)
  inj:=λi j hi hj e=>h.inj i j (lO hi) (lO hj) (hh.inj _ _ (h.live hi) (h.live hj) e)
  named:=h.named }⟩
structure XC (w:World) (b:Nat) (o:Obj) (w':World):Prop where
 at_:w'.heap[b]?=some o
 other:∀k,k≠b->w'.heap[k]?=w.heap[k]?
 size:w'.heap.size=w.heap.size
 os:w'.os=w.os
 tape:w'.tape=w.tape
 output:w'.output=w.output
def Holds.lt (h:Holds N c T β τ a w) {i:Nat}(hi:live τ i):β i<w.heap.size:=by
 obtain⟨⟨n,hn⟩,_⟩:=h.apart i hi
 exact BK.lt (h.typed _ _ hn)
def Holds.ad0 (h:Holds N c T β τ a w) {i n:Nat}{cs:Array Value}{e:TypeId}{fr:Nat×Nat}(hn:T (β i)=some (.bx n)) (hb:w.heap[β i]?=some (.cells cs e fr)):cs.size=n:=by
 obtain⟨mD,e',h1,h2⟩:=h.typed _ _ hn
 rw [hb] at h1
 cases h1
 exact h2
def mA {j:Nat}{av:AV}{i:Nat}(h:live (τ.ap [(.b j,av)]) i):i=j\/(i≠j/\live τ i):=by
 by_cases e:i=j
 ·exact .inl e
 ·unfold live at h
  rw [wN,if_neg (by simp [e])] at h
  exact .inr ⟨e,h⟩
def Holds.IT (h:Holds N c T β τ a w) {i:Nat}{av:AV}{cs mD:Array Value}{e e':TypeId}(hi:live τ i) (ho:w.heap[β i]?=some (.cells cs e (0,0))) (hw:XC w (β i) (.cells mD e' (0,0)) w') (db:mD.size=cs.size) (hl:av.tW T β mD) (hsc:∀j∈av.boxes,τ (.b j)≠none):
  Holds N c T β (τ.ap [(.b i,av)]) a w':=by
 have alz:∀r,τ r≠none->(τ.ap [(.b i,av)]) r≠none:=by
  intro r hr
  rw [wN]
  split
  ·simp
  ·exact hr
 have KS:∀k,live (τ.ap [(.b i,av)]) k->live τ k:=λk hk=>by
  rcases mA hk with rfl |⟨_,h⟩
  ·exact hi
  ·exact h
 obtain⟨⟨n,hn⟩,fq⟩:=h.apart i hi
 have lj:=h.ad0 hn ho
 exact {
  defs:=h.defs
  size:=h.size
  JK:=h.JK
  jD:=λk x hk=>h.jD k x (by rwa [wN,if_neg (by simp)] at hk)
  boxes:=λk x hk hz=>by
   rw [wN] at hk
   by_cases ek:k=i
   ·subst ek
    rw [if_pos rfl] at hk;cases hk
    exact⟨mD,e',hw.at_,hl⟩
   ·rw [if_neg (by simp [ek])] at hk
    obtain⟨ds,e2,h2,h3⟩:=h.boxes k x hk hz
    refine⟨ds,e2,?_,h3⟩
    rw [hw.other _ (λhe=>ek (h.inj k i (fg hk hz) hi he))]
    exact h2
  apart:=λk hk=>h.apart k (KS k hk)
  handed:=λk b hb h0=>h.handed k b hb (KS k h0)
  inj:=λk j hk hj e=>h.inj k j (KS k hk) (KS j hj) e
  named:=λr x hr k hk=>by
   refine alz _ ?_
   rw [wN] at hr
   by_cases e:r= .b i
   ·rw [if_pos e] at hr;cases hr;exact hsc k hk
   ·rw [if_neg e] at hr;exact h.named r x hr k hk
  typed:=λb k hb=>by
   by_cases e:b=β i
   ·subst e
    rw [hn] at hb;cases hb
    exact⟨mD,e',hw.at_,db.trans lj⟩
   ·exact BK.rX (h.typed b k hb) (hw.other b e)
  old:=h.old
  frame:=λb hb hH hq=>by
   have ft:b≠β i:=λe=>by
    rcases fq.2.2 with h1 |h1
    ·omega
    ·rw [e] at hH;exact hH h1
   rw [hw.other b ft]
   exact h.frame b hb hH hq
  gS:=by rw [hw.size];exact h.gS
  os:=hw.os.trans h.os
  tape:=hw.tape.trans h.tape
  output:=hw.output.trans h.output
  pO:=h.pO }
def Holds.xt (h:Holds N c T β τ a w) {b:Nat}{ek:EK}{n:Nat}(hb:T b=some (.ty ek n)) {cs:Array Value}{e:TypeId}{fr:Nat×Nat}{l:List (EK.Ty ek)}(hw:XC w b (.cells cs e fr) w') (jV:free fr cs.size) (cn:al8 ek n l cs):
  Holds N c T β τ a w':=
 {h with
  boxes:=λk x hk hz=>by
   obtain⟨mD,e',h2,h3⟩:=h.boxes k x hk hz
   refine⟨mD,e',?_,h3⟩
   rw [hw.other _ (λhe=>by obtain⟨n',hn'⟩:=(h.apart k (fg hk hz)).1;rw [he,hb] at hn';cases hn')]
   exact h2
  typed:=λb' k J6=>by
   by_cases he:b'=b
   ·subst he
    rw [hb] at J6;cases J6
    exact⟨(h.typed b' _ hb).1,cs,e,fr,l,hw.at_,jV,cn⟩
   ·exact BK.rX (h.typed b' k J6) (hw.other b' he)
  frame:=λk hk hH hq=>by
   have ft:k≠b:=λe=>by
    subst e
    have:=h.old k hk
    rw [hb] at this
    rw [<-this] at hq
    exact hq
   rw [hw.other k ft]
   exact h.frame k hk hH hq
  gS:=by rw [hw.size];exact h.gS
  os:=hw.os.trans h.os
  tape:=hw.tape.trans h.tape
  output:=hw.output.trans h.output
  pO:=h.pO }
structure qk (w:World) (o:Obj) (w':World):Prop where
 heap:w'.heap=w.heap.push o
 os:w'.os=w.os
 tape:w'.tape=w.tape
 output:w'.output=w.output
def qk.old {o:Obj}(h:qk w o w') {k:Nat}(hk:k<w.heap.size):w'.heap[k]?=w.heap[k]?:=by
 rw [h.heap,Array.getElem?_push,if_neg (by omega)]
def qk.new {o:Obj}(h:qk w o w'):w'.heap[w.heap.size]?=some o:=by
 rw [h.heap,Array.getElem?_push,if_pos rfl]
def qk.size {o:Obj}(h:qk w o w'):w'.heap.size=w.heap.size+1:=by rw [h.heap];simp
def pV (β:Nat->Nat) (d n:Nat):Nat->Nat:=λi=>if i=d then n else β i
def qW (T:a8) (b:Nat) (k:BK):a8:=λi=>if i=b then some k else T i
def FY {b:Nat}(hT:T b=none) {k:BK}:sK T (qW T b k):=λi k' hi=>by
 unfold qW
 by_cases e:i=b
 ·subst e;rw [hT] at hi;cases hi
 ·rw [if_neg e];exact hi
theorem WT.fresh (h:WT T w):T w.heap.size=none:=by
 cases hT:T w.heap.size with
 |none=>rfl
 |some k=>exact absurd (BK.lt (h _ k hT)) (by omega)
def Holds.HK (h:Holds N c T β τ a w) {k:BK}{o:Obj}(hp:qk w o w') (hk:k.holds w' w.heap.size):
  Holds N c (qW T w.heap.size k) β τ a w':=by
 have EN:sK T (qW T w.heap.size k):=FY h.typed.fresh
 exact {
  defs:=h.defs
  size:=h.size
  JK:=h.JK
  jD:=λi av hi=>by obtain⟨v,hv,hr⟩:=h.jD i av hi;exact⟨v,hv,AV.mV EN hr⟩
  boxes:=λi av hi hz=>by
   obtain⟨mD,e',h2,h3⟩:=h.boxes i av hi hz
   exact⟨mD,e',by rw [hp.old (h.lt (fg hi hz))];exact h2,AV.PN EN h3⟩
  apart:=λi hi=>by
   obtain⟨⟨n,hn⟩,ho⟩:=h.apart i hi
   exact⟨⟨n,EN _ _ hn⟩,ho⟩
  handed:=h.handed
  inj:=h.inj
  named:=h.named
  typed:=λb k' hb=>by
   unfold qW at hb
   by_cases he:b=w.heap.size
   ·rw [if_pos he] at hb;cases hb
    subst he
    exact hk
   ·rw [if_neg he] at hb
    have J6:=h.typed b k' hb
    exact BK.rX J6 (hp.old (BK.lt J6))
  old:=λb hb=>by
   have:qW T w.heap.size k b=T b:=by unfold qW;rw [if_neg (by have:=h.gS;omega)]
   rw [this]
   exact h.old b hb
  frame:=λb hb hH hq=>by
   rw [hp.old (ZF8 hb h.gS)]
   exact h.frame b hb hH hq
  gS:=by rw [hp.size];have:=h.gS;omega
  os:=hp.os.trans h.os
  tape:=hp.tape.trans h.tape
  output:=hp.output.trans h.output
  pO:=h.pO.mono EN }
def Holds.Z7 (h:Holds N c T β τ a w) {d b n:Nat}{av:AV}{cs:Array Value}{e:TypeId}(hd:1000<=d) (w0:τ (.b d)=none) (hT:T b=some (.bx n)) (tJ:aoE c d b) (hun:∀i,live τ i->β i≠b) (hb:w.heap[b]?=some (.cells cs e (0,0)))
  (hl:av.tW T β cs) (hsc:∀j∈av.boxes,τ (.b j)≠none):Holds N c T (pV β d b) (τ.ap [(.b d,av)]) a w:=by
 have aly:∀(r:gx) (av:AV),τ r=some av->d∉av.boxes:=λr av hr hm=>h.named r av hr d hm w0
 have hβ:∀i,i≠d->pV β d b i=β i:=λi hi=>by unfold pV;rw [if_neg hi]
 have hβd:pV β d b d=b:=by unfold pV;rw [if_pos rfl]
 have hnd:d∉av.boxes:=λhm=>hsc d hm w0
 have AH:∀{x:AV},d∉x.boxes->∀i∈x.boxes,pV β d b i=β i:=λhx i hi=>hβ i λe=>hx (e ▸ hi)
 exact {
  defs:=h.defs
  size:=h.size
  JK:=h.JK
  jD:=λi x hi=>by
   rw [wN,if_neg (by simp)] at hi
   obtain⟨v,hv,hr⟩:=h.jD i x hi
   exact⟨v,hv,AV.ahR (AH (aly _ _ hi)) hr⟩
  boxes:=λi x hi hz=>by
   rw [wN] at hi
   by_cases ei:i=d
   ·subst ei
    rw [if_pos rfl] at hi;cases hi
    exact⟨cs,e,by rw [hβd];exact hb,AV.ads (AH hnd) hl⟩
   ·rw [if_neg (by simp [ei])] at hi
    obtain⟨mD,e',h2,h3⟩:=h.boxes i x hi hz
    exact⟨mD,e',by rw [hβ i ei];exact h2,AV.ads (AH (aly _ _ hi)) h3⟩
  apart:=λi hi=>by
   rcases mA hi with rfl |⟨e,H0⟩
   ·rw [hβd];exact⟨⟨n,hT⟩,tJ⟩
   ·rw [hβ i e];exact h.apart i H0
  handed:=λi b' J6 hi=>by
   rcases mA hi with rfl |⟨e,H0⟩
   ·have:i<c.H.length:=(ZB9.1 J6).1
    exact absurd h.JK (by omega)
   ·rw [hβ i e];exact h.handed i b' J6 H0
  inj:=λi j hi hj e=>by
   rcases mA hi with rfl |⟨ei,H0⟩
   ·rcases mA hj with rfl |⟨ej,HZ⟩
    ·rfl
    ·rw [hβd,hβ j ej] at e
     exact absurd e.symm (hun j HZ)
   ·rcases mA hj with rfl |⟨ej,HZ⟩
    ·rw [hβd,hβ i ei] at e
     exact absurd e (hun i H0)
    ·rw [hβ i ei,hβ j ej] at e
     exact h.inj i j H0 HZ e
  named:=λr x hr k hk=>by
   rw [wN]
   by_cases ek:gx.b k= .b d
   ·rw [if_pos ek];simp
   ·rw [if_neg ek]
    rw [wN] at hr
    by_cases e2:r= .b d
    ·rw [if_pos e2] at hr;cases hr
     exact hsc k hk
    ·rw [if_neg e2] at hr
     exact h.named r x hr k hk
  typed:=h.typed
  old:=h.old
  frame:=h.frame
  gS:=h.gS
  os:=h.os
  tape:=h.tape
  output:=h.output
  pO:=h.pO }
def Holds.vX (h:Holds N c T β τ a w) {d:Nat}(hd:1000<=d) (w0:τ (.b d)=none) {av:AV}{cs:Array Value}{e:TypeId}(hp:qk w (.cells cs e (0,0)) w') (hl:av.tW T β cs) (hsc:∀j∈av.boxes,τ (.b j)≠none):
  Holds N c (qW T w.heap.size (.bx cs.size)) (pV β d w.heap.size) (τ.ap [(.b d,av)]) a w':=by
 have h1:=h.HK (k:=.bx cs.size) hp ⟨cs,e,hp.new,rfl⟩
 refine h1.Z7 hd w0 (n:=cs.size) (by unfold qW;rw [if_pos rfl]) ⟨λh=>by omega,λ_ _=>h.gS,.inl h.gS⟩ (λi hi e=>?_) hp.new (AV.PN (FY h.typed.fresh) hl) hsc
 have:=h.lt hi
 omega
def Holds.kill (h:Holds N c T β τ a w) {i:Nat}:Holds N c T β (τ.ap [(.b i,.zz)]) a w:=by
 have KS:∀k,live (τ.ap [(.b i,.zz)]) k->k≠i/\live τ k:=λk hk=>by
  rcases mA hk with rfl |h
  ·unfold live at hk;rw [wN,if_pos rfl] at hk;exact hk.elim
  ·exact h
 exact { h with
  jD:=λk x hk=>h.jD k x (by rwa [wN,if_neg (by simp)] at hk)
  boxes:=λk x hk hz=>by
   rw [wN] at hk
   by_cases e:gx.b k= .b i
   ·rw [if_pos e] at hk;cases hk;exact absurd rfl hz
   ·rw [if_neg e] at hk;exact h.boxes k x hk hz
  apart:=λk hk=>h.apart k (KS k hk).2
  handed:=λk b hb h0=>h.handed k b hb (KS k h0).2
  inj:=λk j hk hj e=>h.inj k j (KS k hk).2 (KS j hj).2 e
  named:=λr x hr k hk=>by
   rw [wN]
   split
   ·simp
   ·rw [wN] at hr
    by_cases e:r= .b i
    ·rw [if_pos e] at hr;cases hr;simp [AV.boxes] at hk
    ·rw [if_neg e] at hr;exact h.named r x hr k hk }
def Holds.aab (h:Holds N c T β τ a w) {i d:Nat}(hd:1000<=d) (hi0:1000000000<=d\/(1000<=i/\i<1000000000)) (w0:τ (.b d)=none) {av:AV}{cs mD:Array Value}{e e':TypeId}(hi:live τ i) (ho:w.heap[β i]?=some (.cells cs e (0,0))) (hw:XC w (β i) (.cells mD e' (0,0)) w') (db:mD.size=cs.size) (hl:av.tW T β mD) (hsc:av.boxes=[]):
  Holds N c T (pV β d (β i)) ((τ.ap [(.b i,.zz)]).ap [(.b d,av)]) a w':=by
 have hid:i≠d:=λe=>by subst e;exact lO hi w0
 obtain⟨⟨n,hn⟩,fq⟩:=h.apart i hi
 have h1:=(h.IT (av:=av) hi ho hw db hl (by rw [hsc];simp)).kill (i:=i)
 have e1:(τ.ap [(.b i,av)]).ap [(.b i,.zz)]=τ.ap [(.b i,.zz)]:=by
  funext r
  rw [wN,wN,wN]
  split<;>rfl
 rw [e1] at h1
 refine h1.Z7 hd (by rw [wN,if_neg (by simp;exact λh=>hid h.symm)];exact w0) hn ⟨λh=>by omega,λh1 h2=>fq.2.1 (by omega) (by omega),fq.2.2⟩ (λj hj e=>?_) hw.at_ hl (by rw [hsc];simp)
 rcases mA hj with rfl |⟨ej,HZ⟩
 ·unfold live at hj;rw [wN,if_pos rfl] at hj;exact hj.elim
 ·exact ej (h.inj j i HZ hi e)
end
end GL
namespace GL
inductive Q (α:Type 1):Type 1 where
 |ret (a:α)
 |ask (r:gx) (k:Option AV->Q α)
def Q.run {α:Type 1}:Q α->St->α
 |.ret a,_=>a
 |.ask r k,τ=>(k (τ r)).run τ
def Q.tr {α:Type 1}:Q α->St->List gx
 |.ret _,_=>[]
 |.ask r k,τ=>r::(k (τ r)).tr τ
def Q.loc {α:Type 1}{τ τ':St}:∀(q:Q α),agree (q.tr τ) τ τ'->q.run τ'=q.run τ/\q.tr τ'=q.tr τ
 |.ret _,_=>⟨rfl,rfl⟩
 |.ask r k,h=>by
  have e:τ' r=τ r:=(h r (by simp [Q.tr])).symm
  have:=Q.loc (k (τ r)) (λx hx=>h x (by simp [Q.tr,hx]))
  simp only [Q.run,Q.tr,e]
  exact⟨this.1,by rw [this.2]⟩
inductive Rs:Type 1 where
 |no
 |go (u:FJ)
 |oJ (p:Prop) (u:FJ)
 |br (p:Prop) (b:Bool) (d:Nat)
 |ex (p:Prop) (α:Type) (φ:α->Prop) (u:List (gx×(α->AV)))
def inst {α:Type}(x:α):List (gx×(α->AV))->FJ
 |[]=>[]
 |p::u=>(p.1,p.2 x)::inst x u
def Rs.pre:Rs->Prop
 |.no=>False
 |.go _=>True
 |.oJ p _=>p
 |.br p _ _=>p
 |.ex p _ _ _=>p
def Rs.ne:Rs->Prop
 |.ex _ _ φ _=>∃x,φ x
 |_=>True
def Rs.out:Rs->FJ->Prop
 |.no,_=>False
 |.go u,x=>x=u
 |.oJ _ u,x=>x=u
 |.br _ b d,x=>x=[(.s d,.s (.v (.bool b)))]
 |.ex _ _ φ u,x=>∃y,φ y/\x=inst y u
def Q7 {α:Type}:List (gx×α)->List gx
 |[]=>[]
 |p::u=>p.1::Q7 u
def Rs.dom:Rs->List gx
 |.no=>[]
 |.go u=>Q7 u
 |.oJ _ u=>Q7 u
 |.br _ _ d=>[.s d]
 |.ex _ _ _ u=>Q7 u
def NT {α:Type}{u:List (gx×α)}{p:gx×α}(h:p∈u):p.1∈Q7 u:=by
 induction u with
 |nil=>cases h
 |cons q u ih=>
  rcases ZB7.1 h with rfl |h
  ·simp [Q7]
  ·simp [Q7,ih h]
theorem S3 {α:Type}(x:α):∀(u:List (gx×(α->AV))),Q7 (inst x u)=Q7 u
 |[]=>rfl
 |p::u=>by simp [inst,Q7,S3 x u]
def Rs.K1 {r:Rs}{u:FJ}(h:r.out u):∀p∈u,p.1∈r.dom:=by
 intro p hp
 cases r with
 |no=>exact h.elim
 |go v=>cases h;exact NT hp
 |oJ q v=>cases h;exact NT hp
 |br q b d=>cases h;simp at hp;subst hp;simp [Rs.dom]
 |ex q α φ v=>
  obtain⟨x,_,rfl⟩:=h
  have:=NT hp
  rwa [S3] at this
def Rs.anh {r:Rs}(hp:r.pre) (hn:r.ne):∃u,r.out u:=by
 cases r with
 |no=>exact hp.elim
 |go v=>exact⟨_,rfl⟩
 |oJ q v=>exact⟨_,rfl⟩
 |br q b d=>exact⟨_,rfl⟩
 |ex q α φ v=>obtain⟨x,hx⟩:=hn;exact⟨_,x,hx,rfl⟩
structure Tr where
 j:Nat
 R:List gx
 W:List gx
def hit (oP:Nat->Nat->Bool) (i:Nat):Tr->Bool
 |⟨j,_,_⟩=>oP i j
theorem ajq (oP:Nat->Nat->Bool) (i:Nat) (t:Tr):hit oP i t=oP i t.j:=rfl
def kA (oP:Nat->Nat->Bool) (i:Nat) (R W:List gx):List Tr->Bool
 |[]=>true
 |t::l=>(bif hit oP i t then true else indep t.R t.W R W)&&kA oP i R W l
def QE {oP:Nat->Nat->Bool}{i:Nat}{R W:List gx}:∀{l:List Tr},kA oP i R W l=true->∀t∈l,oP i t.j=false->indep t.R t.W R W=true
 |[],_,t,ht,_=>by cases ht
 |s::l,h,t,ht,ha=>by
  simp only [kA,ZB1] at h
  rcases ZB7.1 ht with rfl |ht
  ·have:=h.1;rw [ajq,ha] at this;exact this
  ·exact QE h.2 t ht ha
def aL (F:Nat->Q Rs) (oP:Nat->Nat->Bool):List Nat->List Tr->St->(St->Prop)->Prop
 |[],_,τ,K=>K τ
 |i::l,T,τ,K=>kA oP i ((F i).tr τ) ((F i).run τ).dom T=true/\((F i).run τ).pre/\((F i).run τ).ne/\∀u,((F i).run τ).out u->aL F oP l (⟨i,(F i).tr τ,((F i).run τ).dom⟩::T) (τ.ap u) K
def tR {oP:Nat->Nat->Bool}{i:Nat}{R W:List gx}:∀{l m:List Tr},kA oP i R W (l++m)=true->kA oP i R W l=true/\kA oP i R W m=true
 |[],m,h=>⟨rfl,h⟩
 |s::l,m,h=>by
  simp only [ZH4,kA,ZB1] at h ⊢
  exact⟨⟨h.1,(tR h.2).1⟩,(tR h.2).2⟩
def FG {oP:Nat->Nat->Bool}{i:Nat}{R W:List gx}:∀{l m:List Tr},kA oP i R W l=true->kA oP i R W m=true->kA oP i R W (l++m)=true
 |[],m,_,h=>h
 |s::l,m,h,h'=>by
  simp only [ZH4,kA,ZB1] at h ⊢
  exact⟨h.1,FG h.2 h'⟩
def al6 {F:Nat->Q Rs}{oP:Nat->Nat->Bool}{K:St->Prop}{t:Tr}{M:List Tr}:∀(l:List Nat) (L:List Tr) (τ:St),aL F oP l (L++t::M) τ K->aL F oP l (L++M) τ K:=by
 intro l
 induction l with
 |nil=>intro L τ h;exact h
 |cons i l ih=>
  intro L τ ⟨h1,h2,h3,h4⟩
  have h5:=tR h1
  have h6:=h5.2
  simp only [kA,ZB1] at h6
  exact⟨FG h5.1 h6.2,h2,h3,λu hu=>ih (_::L) _ (h4 u hu)⟩
def akO {F:Nat->Q Rs}{oP:Nat->Nat->Bool}{i:Nat}{post:List Nat}{K:St->Prop}:
  ∀(pre:List Nat) (T:List Tr) (τ:St),(∀j∈pre,oP i j=false)->aL F oP (pre++i::post) T τ K->
   ((F i).run τ).pre/\((F i).run τ).ne/\(∀t∈T,oP i t.j=false->indep t.R t.W ((F i).tr τ) ((F i).run τ).dom=true)/\∀u,((F i).run τ).out u->aL F oP (pre++post) T (τ.ap u) K:=by
 intro pre
 induction pre with
 |nil=>
  intro T τ _ h
  obtain⟨h1,h2,h3,h4⟩:=h
  exact⟨h2,h3,QE h1,λu hu=>al6 post [] _ (h4 u hu)⟩
 |cons j pre ih=>
  intro T τ ajC h
  obtain⟨hj1,CC,hj3,hj4⟩:=h
  obtain⟨u0,hu0⟩:=Rs.anh CC hj3
  have hIH:=λu hu=>ih (⟨j,(F j).tr τ,((F j).run τ).dom⟩::T) (τ.ap u) (λk hk=>ajC k (by simp [hk])) (hj4 u hu)
  have OX:∀u,((F j).run τ).out u->(F i).run (τ.ap u)=(F i).run τ/\(F i).tr (τ.ap u)=(F i).tr τ:=by
   intro u hu
   obtain⟨_,_,h3,_⟩:=hIH u hu
   have ape:=h3 ⟨j,(F j).tr τ,((F j).run τ).dom⟩ (by simp) (ajC j (by simp))
   simp only [indep,ZB1] at ape
   have hag:agree ((F i).tr (τ.ap u)) (τ.ap u) τ:=akN λp hp hm=>K2 ape.1.1 (Rs.K1 hu p hp) hm rfl
   have:=Q.loc (F i) hag
   exact⟨this.1.symm,this.2.symm⟩
  obtain⟨e1,e2⟩:=OX u0 hu0
  obtain⟨g1,g2,g3,g4⟩:=hIH u0 hu0
  rw [e1] at g1 g2
  rw [e1,e2] at g3
  have ajr:=g3 ⟨j,(F j).tr τ,((F j).run τ).dom⟩ (by simp) (ajC j (by simp))
  simp only [indep,ZB1] at ajr
  refine⟨g1,g2,λt ht ha=>g3 t (by simp [ht]) ha,λv hv=>?_⟩
  have arp:agree ((F j).tr τ) τ (τ.ap v):=λr hr=>(St.za (λp hp e=>K2 ajr.2 (Rs.K1 hv p hp) hr e)).symm
  have hj:=Q.loc (F j) arp
  refine⟨by rw [hj.1,hj.2];exact hj1,by rw [hj.1];exact CC,by rw [hj.1];exact hj3,λu hu=>?_⟩
  rw [hj.1] at hu
  obtain⟨f1,f2⟩:=OX u hu
  obtain⟨_,_,_,k4⟩:=hIH u hu
  have:=k4 v (by rw [f1];exact hv)
  rw [St.al2 (u:=u) (v:=v) (λp hp q hq=>K2 ajr.1.2 (Rs.K1 hu p hp) (Rs.K1 hv q hq))] at this
  rw [hj.1,hj.2]
  exact this
def OpS (P:Program) (N:Nat) (ops:Array Oper) (o:Oper) (q:Q Rs):Prop:=
 ∀c τ a w,Rel N c τ a w->(q.run τ).pre->∀(K:Act->World->Prop) (Q':Exit->Act->World->Prop),
  (∀u a' w',(q.run τ).out u->Rel N c (τ.ap u) a' w'->K a' w')->if Region.wanted o (yielded ops a.tmps)=true then o.wp P a w K Q' else K (a.put o.dst undef) w
section
variable {P:Program}{N:Nat}{ops:Array Oper}{F:Nat->Q Rs}
def AB (o:Oper):List Nat:=(o.after.toList.filter (Region.binds .any)).map (·.on)
def EH (listed:Array Bool) (i:Nat):Prop:=listed.getD i false=true
def rest (n:Nat) (listed:Array Bool):List Nat:=(List.range n).filter λi=> !listed.getD i true
def closed (ops:Array Oper) (listed:Array Bool):Prop:=∀i o,ops[i]?=some o->EH listed i->∀p∈AB o,EH listed p
structure Anc (ops:Array Oper) (oP:Nat->Nat->Bool):Prop where
 lt:∀i o,ops[i]?=some o->∀p∈AB o,p<i
 step:∀i o,ops[i]?=some o->∀j,oP i j=true->∃k∈AB o,k=j\/oP k j=true
def aoi {oP:Nat->Nat->Bool}(h:Anc ops oP) {listed:Array Bool}(hc:closed ops listed):∀(i:Nat) (o:Oper),ops[i]?=some o->(∀p∈AB o,EH listed p)->
  ∀j,oP i j=true->EH listed j:=by
 intro i
 induction i using Nat.strongRecOn with
 |_ i ih=>
  intro o ho hp j ht
  obtain⟨k,hk,rfl |htk⟩:=h.step i o ho j ht
  ·exact hp k hk
  ·have hki:=h.lt i o ho k hk
   have hi:i<ops.size:=(ZE3.1 ho).1
   have cn:ops[k]?=some ops[k]:=ZH2 (by omega)
   exact ih k hki _ cn (hc k _ cn (hp k hk)) j htk
def mem_ready {listed:Array Bool}{i:Nat}:i∈Region.ready .any ops listed↔i∈rest ops.size listed/\∀o,ops[i]?=some o->∀p∈AB o,EH listed p:=by
 simp only [Region.ready,rest,ZG1,ZE8,ZB1]
 constructor
 ·rintro⟨hi,hl,ha⟩
  refine⟨⟨hi,hl⟩,λo ho p hp=>?_⟩
  rw [ho] at ha
  simp only [Option.map_some,ZA2] at ha
  obtain⟨e,he,rfl⟩:=List.mem_map.1 hp
  rw [ZG1] at he
  have:=Array.all_eq_true_iff_forall_mem.1 ha e (by simpa using he.1)
  simp only [Bool.or_eq_true,he.2,Bool.not_true] at this
  simpa [EH] using this
 ·rintro⟨⟨hi,hl⟩,ha⟩
  refine⟨hi,hl,?_⟩
  have ho:ops[i]?=some ops[i]:=ZH2 hi
  rw [ho]
  simp only [Option.map_some,ZA2]
  rw [Array.all_eq_true_iff_forall_mem]
  intro e he
  cases hb:Region.binds .any e with
  |false=>simp
  |true=>
   have:=ha _ ho e.on (List.mem_map.2 ⟨e,by rw [ZG1];exact⟨by simpa using he,hb⟩,rfl⟩)
   simpa [EH] using this
def abS {n:Nat}{listed:Array Bool}{i:Nat}(hs:listed.size=n) (hi:i∈rest n listed):
  ∃pre post,rest n listed=pre++i::post/\rest n (listed.setIfInBounds i true)=pre++post/\∀j∈pre,j<i:=by
 obtain⟨pre,post,he⟩:=List.append_of_mem hi
 have hp:(rest n listed).Pairwise (· < ·):=List.Pairwise.filter _ List.pairwise_lt_range
 have hpp:=hp
 rw [he] at hp
 have cF:i<n:=by simp only [rest,ZG1,ZE8] at hi;exact hi.1
 obtain⟨h1,h2,h3⟩:=List.pairwise_append.1 hp
 refine⟨pre,post,he,?_,λj hj=>h3 j hj i (by simp)⟩
 have e1:rest n (listed.setIfInBounds i true)=(rest n listed).filter (λj=> !Nat.beq j i):=by
  simp only [rest,List.filter_filter]
  refine List.filter_congr λj hj=>?_
  by_cases hji:j=i
  ·subst hji
   simp [Array.getD,hs,cF]
  ·have hb:Nat.beq j i=false:=by rw [<-Bool.not_eq_true];simpa using hji
   rw [hb]
   simp only [Bool.not_false,Bool.true_and]
   have:(listed.setIfInBounds i true).getD j true=listed.getD j true:=by
    rw [ZF7,ZF7,Array.getElem?_setIfInBounds_ne (λh=>hji h.symm)]
   rw [this]
 rw [e1,he,List.filter_append,List.filter_cons]
 have hb:Nat.beq i i=true:=by simp
 rw [hb]
 simp only [Bool.not_true,Bool.false_eq_true,if_false]
 congr 1
 ·rw [List.filter_eq_self]
  intro j hj
  have:=h3 j hj i (by simp)
  have ft:Nat.beq j i=false:=by rw [<-Bool.not_eq_true];simp;omega
  simp [ft]
 ·rw [List.filter_eq_self]
  intro j hj
  have:=(List.pairwise_cons.1 h2).1 j hj
  have ft:Nat.beq j i=false:=by rw [<-Bool.not_eq_true];simp;omega
  simp [ft]
theorem ag8 {oP:Nat->Nat->Bool}(h:∀i o,ops[i]?=some o->OpS P N ops o (F i)) (hA:Anc ops oP) {Q':Exit->Act->World->Prop}{c:Ctx}{K:St->Prop}
  (hQ:∀τ a w,K τ->Rel N c τ a w->Q' .normal a w):∀(fuel:Nat) (listed:Array Bool) (τ:St) (a:Act) (w:World),
   (rest ops.size listed).length=fuel->listed.size=ops.size->closed ops listed->aL F oP (rest ops.size listed) [] τ K->Rel N c τ a w->wpAny P .any ops Q' fuel listed a w:=by
 intro fuel
 induction fuel with
 |zero=>
  intro listed τ a w hlen _ _ hk hr
  have agK:rest ops.size listed=[]:=ZE2.1 hlen
  refine⟨?_,?_⟩
  ·rw [List.eq_nil_iff_forall_not_mem]
   intro i hi
   have:=(mem_ready.1 hi).1
   rw [agK] at this
   cases this
  ·rw [agK] at hk
   exact hQ τ a w hk hr
 |succ fuel ih=>
  intro listed τ a w hlen hs hcl hk hr
  refine⟨λagK=>?_,λi hi=>?_⟩
  ·
   exfalso
   cases hl:rest ops.size listed with
   |nil=>rw [hl] at hlen;simp at hlen
   |cons i l=>
    have CA:i∈rest ops.size listed:=by rw [hl];simp
    have cF:i<ops.size:=by simp only [rest,ZG1,ZE8] at CA;exact CA.1
    have ho:ops[i]?=some ops[i]:=ZH2 cF
    have ajh:i∈Region.ready .any ops listed:=by
     refine mem_ready.2 ⟨CA,λo ho' p hp=>?_⟩
     rw [ho] at ho';cases ho'
     have hpi:=hA.lt i _ ho p hp
     have hpw:(rest ops.size listed).Pairwise (· < ·):=List.Pairwise.filter _ List.pairwise_lt_range
     have aly:p∉rest ops.size listed:=by
      intro hm
      rw [hl] at hm hpw
      rcases ZB7.1 hm with rfl |hm
      ·omega
      ·have:=(List.pairwise_cons.1 hpw).1 p hm;omega
     have hpn:p<listed.size:=by omega
     have:listed.getD p true=true:=by
      cases hb:listed.getD p true with
      |true=>rfl
      |false=>exact absurd (by simp only [rest,ZG1,ZE8];exact⟨by omega,by rw [hb];rfl⟩) aly
     unfold EH
     simp only [Array.getD,hpn,dif_pos] at this ⊢
     exact this
    rw [agK] at ajh
    cases ajh
  ·have hm:=mem_ready.1 hi
   obtain⟨pre,post,he,he',bR⟩:=abS hs hm.1
   have cF:i<ops.size:=by have:=hm.1;simp only [rest,ZG1,ZE8] at this;exact this.1
   have ho:ops[i]?=some ops[i]:=ZH2 cF
   have hp:=hm.2 _ ho
   have ajC:∀j∈pre,oP i j=false:=by
    intro j hj
    cases ht:oP i j with
    |false=>rfl
    |true=>
     exfalso
     have HZ:=aoi hA hcl i _ ho hp j ht
     have hmj:j∈rest ops.size listed:=by rw [he];simp [hj]
     simp only [rest,ZG1,ZE8] at hmj
     have hjn:j<listed.size:=by omega
     have e2:=hmj.2
     unfold EH at HZ
     simp only [Array.getD,hjn,dif_pos] at e2 HZ
     rw [HZ] at e2
     cases e2
   rw [he] at hk
   obtain⟨aaC,_,_,hK⟩:=akO pre [] τ ajC hk
   have apc:(rest ops.size (listed.setIfInBounds i true)).length=fuel:=by
    rw [he'];rw [he] at hlen;simp at hlen ⊢;omega
   have ari:closed ops (listed.setIfInBounds i true):=by
    have up:∀p,EH listed p->EH (listed.setIfInBounds i true) p:=by
     intro p hp
     unfold EH at hp ⊢
     rw [ZF7] at hp ⊢
     by_cases e:i=p
     ·subst e
      simp [hs,cF]
     ·rw [Array.getElem?_setIfInBounds_ne e]
      exact hp
    intro k o hk alB p hpp
    by_cases e:i=k
    ·subst e
     rw [ho] at hk;cases hk
     exact up p (hp p hpp)
    ·refine up p (hcl k o hk ?_ p hpp)
     unfold EH at alB ⊢
     rw [ZF7] at alB ⊢
     rw [Array.getElem?_setIfInBounds_ne e] at alB
     exact alB
   refine wpOp_step ho λK' hK'=>?_
   exact h i _ ho c τ a w hr aaC K' Q' λu a' w' hu xj=>hK' _ _ (ih _ _ a' w' apc (by simpa using hs) ari (by rw [he'];exact hK u hu) xj)
def aT (F:Nat->Q Rs):List Nat->St->(St->Prop)->Prop
 |[],τ,K=>K τ
 |i::l,τ,K=>((F i).run τ).pre/\∀u,((F i).run τ).out u->aT F l (τ.ap u) K
def abo (h:∀i o,ops[i]?=some o->OpS P N ops o (F i)) {Q':Exit->Act->World->Prop}{c:Ctx}{K:St->Prop}
  (hQ:∀τ a w,K τ->Rel N c τ a w->Q' .normal a w):∀(l:List Nat) (τ:St) (a:Act) (w:World),(∀i∈l,i<ops.size)->aT F l τ K->Rel N c τ a w->wpOps P ops Q' l a w:=by
 intro l
 induction l with
 |nil=>intro τ a w _ hk hr;exact hQ τ a w hk hr
 |cons i l ih=>
  intro τ a w hl hk hr
  obtain⟨hp,hK⟩:=hk
  have hi:i<ops.size:=hl i (by simp)
  have ho:ops[i]?=some ops[i]:=ZH2 hi
  rw [wpOps_cons]
  refine wpOp_step ho λK' hK'=>?_
  exact h i _ ho c τ a w hr hp K' Q' λu a' w' hu xj=>hK' _ _ (ih _ a' w' (λk hk=>hl k (by simp [hk])) (hK u hu) xj)
def YH (n:Nat):rest n (Array.replicate n false)=List.range n:=by
 unfold rest
 rw [List.filter_eq_self]
 intro i hi
 have:i<n:=by simpa using hi
 simp [Array.getD,this]
end
end GL
namespace GL
def RY (ms:List Nat):List Nat->Nat
 |[]=>0
 |p::ps=>(2 ^ p|||ms.getD p 0)|||RY ms ps
def RX {ms:List Nat}{j:Nat}:∀{ps:List Nat},(RY ms ps).testBit j=true->∃p∈ps,p=j\/(ms.getD p 0).testBit j=true
 |[],h=>by simp [RY] at h
 |p::ps,h=>by
  simp only [RY,Nat.testBit_or,Bool.or_eq_true,Nat.testBit_two_pow] at h
  rcases h with (h |h) |h
  ·exact⟨p,by simp,.inl (by simpa using h)⟩
  ·exact⟨p,by simp,.inr h⟩
  ·obtain⟨q,hq,h⟩:=RX h;exact⟨q,by simp [hq],h⟩
def wT:List Oper->List Nat->List Nat
 |[],ms=>ms
 |o::l,ms=>wT l (ms++[RY ms (AB o)])
def QZ:List Oper->Nat->Bool
 |[],_=>true
 |o::l,i=>(AB o).all (λp=>Nat.blt p i)&&QZ l (i+1)
theorem B1:∀(l:List Oper) (ms:List Nat) (i:Nat),i<ms.length->(wT l ms).getD i 0=ms.getD i 0
 |[],_,_,_=>rfl
 |o::l,ms,i,h=>by
  rw [wT,B1 l _ i (by simp;omega)]
  simp [ZC3 h]
def aac:∀(l:List Oper) (ms:List Nat) (i:Nat) (o:Oper),l[i]?=some o->QZ l ms.length=true->
  ∀j,((wT l ms).getD (ms.length+i) 0).testBit j=true->∃k∈AB o,k=j\/((wT l ms).getD k 0).testBit j=true
 |[],_,i,o,h,_=>by simp at h
 |o'::l,ms,0,o,h,bR=>by
  simp at h;subst h
  intro j hj
  simp only [QZ,ZB1] at bR
  rw [wT,B1 l _ _ (by simp)] at hj
  simp at hj
  obtain⟨p,hp,h⟩:=RX hj
  have tU:p<ms.length:=by have:=ZD3.1 bR.1 p hp;simpa using this
  refine⟨p,hp,?_⟩
  rcases h with h |h
  ·exact .inl h
  ·right
   rw [wT,B1 l _ p (by simp;omega)]
   simpa [ZC3 tU] using h
 |o'::l,ms,i+1,o,h,bR=>by
  intro j hj
  simp only [QZ,ZB1] at bR
  have:=aac l (ms++[RY ms (AB o')]) i o (by simpa using h) (by simpa using bR.2) j (by
   rw [wT] at hj
   simpa [ZG5,Nat.add_comm 1 i] using hj)
  rw [wT]
  exact this
def aeq:∀(l:List Oper) (n i:Nat) (o:Oper),QZ l n=true->l[i]?=some o->∀p∈AB o,p<n+i
 |[],_,i,o,_,h=>by simp at h
 |o'::l,n,0,o,bR,h=>by
  simp at h;subst h
  simp only [QZ,ZB1] at bR
  intro p hp
  have:=ZD3.1 bR.1 p hp
  simpa using this
 |o'::l,n,i+1,o,bR,h=>by
  simp only [QZ,ZB1] at bR
  intro p hp
  have:=aeq l (n+1) i o bR.2 (by simpa using h) p hp
  omega
def afe (ms:List Nat) (i j:Nat):Bool:=(ms.getD i 0).testBit j
def aoh {ops:Array Oper}(h:QZ ops.toList 0=true):Anc ops (afe (wT ops.toList [])) where
 lt:=λi o ho p hp=>by
  have:=aeq ops.toList 0 i o h (by simpa using ho) p hp
  omega
 step:=λi o ho j hj=>by
  have:=aac ops.toList [] i o (by simpa using ho) (by simpa using h) j (by simpa [afe] using hj)
  exact this
abbrev va:=Exit->St->Prop
def R2 (r:Rs) (τ:St) (k:St->Prop):Prop:=match r with
 |.no=>False
 |.go u=>k (τ.ap u)
 |.oJ p u=>p/\k (τ.ap u)
 |.br p b d=>p/\(b=true->k (τ.ap [(.s d,.s (.v (.bool true)))]))/\(b=false->k (τ.ap [(.s d,.s (.v (.bool false)))]))
 |.ex p _ φ u=>p/\∀x,φ x->k (τ.ap (inst x u))
noncomputable def vcT (F:Oper->Q Rs) (l:List Oper) (τ:St) (K:St->Prop):Prop:=
 List.rec (motive:=λ_=>St->Prop) K (λo _ ih τ=>R2 ((F o).run τ) τ ih) l τ
theorem ahj {F:Oper->Q Rs}{o:Oper}{l:List Oper}{τ:St}{K:St->Prop}:vcT F (o::l) τ K=R2 ((F o).run τ) τ (λτ'=>vcT F l τ' K):=rfl
def amW (A B:List gx):Bool:=A.all λr=>B.any (gx.beq r)
def XZ {A B:List gx}(h:amW A B=true):∀r∈A,r∈B:=λr hr=>by
 have:=ZD3.1 h r hr
 obtain⟨q,hq,e⟩:=List.any_eq_true.1 this
 rw [gx.beq_iff.1 e];exact hq
def Z3 (r:Rs) (τ:St) (k:St->Prop):Prop:=match r with
 |.no=>False
 |.go u=>k (τ.ap u)
 |.oJ p u=>p/\k (τ.ap u)
 |.br p b d=>p/\(b=true->k (τ.ap [(.s d,.s (.v (.bool true)))]))/\(b=false->k (τ.ap [(.s d,.s (.v (.bool false)))]))
 |.ex p _ φ u=>p/\(∃x,φ x)/\∀x,φ x->k (τ.ap (inst x u))
def ame (F:Oper->Q Rs) (oP:Nat->Nat->Bool) (o:Oper) (i:Nat) (T:List Tr) (τ:St) (ih:Nat->List Tr->St->Prop):Prop:=
 ∃R W:List gx,(amW ((F o).tr τ) R&&amW ((F o).run τ).dom W)=true/\match kA oP i R W T with
  |false=>False
  |true=>Z3 ((F o).run τ) τ (ih (i+1) (⟨i,R,W⟩::T))
noncomputable def vcA (F:Oper->Q Rs) (oP:Nat->Nat->Bool) (l:List Oper) (i:Nat) (T:List Tr) (τ:St) (K:St->Prop):Prop:=
 List.rec (motive:=λ_=>Nat->List Tr->St->Prop) (λ_ _ τ=>K τ) (λo _ ih i T τ=>ame F oP o i T τ ih) l i T τ
theorem ahk {F:Oper->Q Rs}{oP:Nat->Nat->Bool}{o:Oper}{l:List Oper}{i:Nat}{T:List Tr}{τ:St}{K:St->Prop}:vcA F oP (o::l) i T τ K=ame F oP o i T τ (λi T τ'=>vcA F oP l i T τ' K):=rfl
def al7:List Tr->List Tr->Prop
 |[],[]=>True
 |t::l,s::m=>(t.j=s.j/\(∀r∈t.R,r∈s.R)/\∀r∈t.W,r∈s.W)/\al7 l m
 |_,_=>False
def PG {x y x' y':List gx}(h:adn x' y'=true) (hx:∀r∈x,r∈x') (hy:∀r∈y,r∈y'):adn x y=true:=by
 unfold adn
 refine ZD3.2 λr hr=>ZD3.2 λq hq=>?_
 have:=K2 h (hx r hr) (hy q hq)
 rw [gx.beq_false.2 this];rfl
theorem QD {oP:Nat->Nat->Bool}{i:Nat}{R W R' W':List gx}(hR:∀r∈R,r∈R') (hW:∀r∈W,r∈W'):∀{T T':List Tr},al7 T T'->kA oP i R' W' T'=true->kA oP i R W T=true
 |[],[],_,_=>rfl
 |[],_::_,h,_=>h.elim
 |_::_,[],h,_=>h.elim
 |t::l,s::m,h,h'=>by
  simp only [kA,ajq,ZB1] at h' ⊢
  refine⟨?_,QD hR hW h.2 h'.2⟩
  rw [h.1.1]
  cases ha:oP i s.j with
  |true=>rfl
  |false=>
   have h1:=h'.1
   rw [ha] at h1
   simp only [cond_false,indep,ZB1] at h1 ⊢
   exact⟨⟨PG h1.1.1 h.1.2.2 hR,PG h1.1.2 h.1.2.2 hW⟩,PG h1.2 hW h.1.2.1⟩
def lift (N:Nat) (c:Ctx) (Q':va):Exit->Act->World->Prop:=λe a w=>∃τ,Rel N c τ a w/\Q' e τ
def TW (P:Program) (N:Nat) (cd:Code) (τ:St) (Q':va):Prop:=∀c a w,Rel N c τ a w->cd.wp P (lift N c Q') a w
def IW (next:St->Prop) (Q':va):va:=λe τ=>match e with
 |.normal=>next τ
 |e=>Q' e τ
def OV (id:Nat) (Q':va):va:=λe τ=>match e with
 |.exit id'=>bif Nat.beq id' id then Q' .normal τ else Q' (.exit id') τ
 |e=>Q' e τ
abbrev Sm:=Array Oper->Oper->Q Rs
def adF (P:Program) (N:Nat) (S:Sm):Prop:=∀(ops:Array Oper) (i:Nat) (o:Oper),ops[i]?=some o->OpS P N ops o (S ops o)
def vc (P:Program) (N:Nat) (S:Sm):Code->St->va->Prop
 |.skip,τ,Q'=>Q' .normal τ
 |.region _ ops false,τ,Q'=>vcT (S ops) ops.toList τ (Q' .normal)
 |.region _ ops true,τ,Q'=>match QZ ops.toList 0 with
  |false=>False
  |true=>vcA (S ops) (afe (wT ops.toList [])) ops.toList 0 [] τ (Q' .normal)
 |.seq x y,τ,Q'=>vc P N S x τ (IW (λτ'=>vc P N S y τ' Q') Q')
 |.cond o x y,τ,Q'=>match o with
  |.tmp t=>match τ (.s t) with
   |some (.o (.s (.q b)))=>(b=true->vc P N S x τ Q')/\(b=false->vc P N S y τ Q')
   |some (.o (.s (.v (.bool true))))=>vc P N S x τ Q'
   |some (.o (.s (.v (.bool false))))=>vc P N S y τ Q'
   |_=>False
  |.const (.bool true)=>vc P N S x τ Q'
  |.const (.bool false)=>vc P N S y τ Q'
  |_=>False
 |.block id x,τ,Q'=>vc P N S x τ (OV id Q')
 |.loop x,τ,Q'=>TW P N (.loop x) τ Q'
 |.scope x,τ,Q'=>TW P N (.scope x) τ Q'
 |.exit id,τ,Q'=>Q' (.exit id) τ
 |.label _,τ,Q'=>Q' .normal τ
 |.ret,τ,Q'=>Q' .ret τ
 |_,_,_=>False
section
variable {P:Program}{N:Nat}{τ:St}{Q':va}{S:Sm}
def TW.mono {cd:Code}{Q2:va}(h:TW P N cd τ Q') (hq:∀e τ,Q' e τ->Q2 e τ):TW P N cd τ Q2:=
 λc a w hr=>Code.wp_mono (λ_ _ _ ⟨τ',xj,hq'⟩=>⟨τ',xj,hq _ _ hq'⟩) (h c a w hr)
def TW.seq {x y:Code}(h:TW P N x τ (IW (λτ'=>TW P N y τ' Q') Q')):TW P N (.seq x y) τ Q':=λc a w hr=>by
 refine wp_seq (Code.wp_mono ?_ (h c a w hr))
 rintro e a' w' ⟨τ',xj,hq⟩
 cases e with
 |normal=>exact hq c a' w' xj
 |_=>exact⟨τ',xj,hq⟩
def TW.block {id:Nat}{x:Code}(h:TW P N x τ (OV id Q')):TW P N (.block id x) τ Q':=λc a w hr=>by
 refine wp_block (Code.wp_mono ?_ (h c a w hr))
 rintro e a' w' ⟨τ',xj,hq⟩
 cases e with
 |exit id'=>
  simp only [Exit.inBlock]
  simp only [OV] at hq
  split
  ·rename_i e;subst e;simp at hq;exact⟨τ',xj,hq⟩
  ·rename_i e
   have:Nat.beq id' id=false:=by rw [<-Bool.not_eq_true];simpa using e
   rw [this] at hq;exact⟨τ',xj,hq⟩
 |_=>exact⟨τ',xj,hq⟩
def amO {F:Oper->Q Rs}{K:St->Prop}(ops:List Oper):∀(l:List Oper) (k:Nat) (τ:St),ops.drop k=l->vcT F l τ K->aT (λi=>match ops[i]? with
  |some o=>F o
  |none=>.ret .no) (List.range' k l.length) τ K:=by
 intro l
 induction l with
 |nil=>intro k τ _ h;exact h
 |cons o l ih=>
  intro k τ hk h
  have h0:ops[k]?=some o:=by
   have:(ops.drop k)[0]?=some o:=by rw [hk];rfl
   simpa using this
  have hd:ops.drop (k+1)=l:=by
   have:=ZH0 (i:=1) (j:=k) (l:=ops)
   rw [hk] at this
   simpa using this.symm
  simp only [ZA1,List.range'_succ,aT,h0]
  rw [ahj] at h
  cases hr:(F o).run τ with
  |no=>rw [hr] at h;exact (h:False).elim
  |go u=>rw [hr] at h;simp only [R2] at h;exact⟨trivial,λv hv=>by cases hv;exact ih (k+1) _ hd h⟩
  |oJ p u=>rw [hr] at h;simp only [R2] at h;exact⟨h.1,λv hv=>by cases hv;exact ih (k+1) _ hd h.2⟩
  |br p b d=>
   rw [hr] at h
   simp only [R2] at h
   refine⟨h.1,λv hv=>?_⟩
   cases hv
   cases b with
   |true=>exact ih (k+1) _ hd (h.2.1 rfl)
   |false=>exact ih (k+1) _ hd (h.2.2 rfl)
  |ex p α φ u=>
   rw [hr] at h
   simp only [R2] at h
   refine⟨h.1,λv hv=>?_⟩
   obtain⟨x,hx,rfl⟩:=hv
   exact ih (k+1) _ hd (h.2 x hx)
def amP {F:Oper->Q Rs}{oP:Nat->Nat->Bool}{K:St->Prop}(ops:List Oper):∀(l:List Oper) (k:Nat) (T T':List Tr) (τ:St),al7 T T'->ops.drop k=l->vcA F oP l k T' τ K->aL (λi=>match ops[i]? with
  |some o=>F o
  |none=>.ret .no) oP (List.range' k l.length) T τ K:=by
 intro l
 induction l with
 |nil=>intro k T T' τ _ _ h;exact h
 |cons o l ih=>
  intro k T T' τ hT hk h
  have h0:ops[k]?=some o:=by
   have:(ops.drop k)[0]?=some o:=by rw [hk];rfl
   simpa using this
  have hd:ops.drop (k+1)=l:=by
   have:=ZH0 (i:=1) (j:=k) (l:=ops)
   rw [hk] at this
   simpa using this.symm
  simp only [ZA1,List.range'_succ,aL,h0]
  rw [ahk] at h
  obtain⟨R,W,hs,h⟩:=h
  simp only [ZB1] at hs
  have hR:=XZ hs.1
  have hW:=XZ hs.2
  split at h
  ·exact h.elim
  ·rename_i hap
   refine⟨QD hR hW hT hap,?_⟩
   have hT':al7 (⟨k,(F o).tr τ,((F o).run τ).dom⟩::T) (⟨k,R,W⟩::T'):=⟨⟨rfl,hR,hW⟩,hT⟩
   cases hr:(F o).run τ with
   |no=>rw [hr] at h;exact (h:False).elim
   |go u=>rw [hr] at h hT';simp only [Z3] at h;exact⟨trivial,trivial,λv hv=>by cases hv;exact ih (k+1) _ _ _ hT' hd h⟩
   |oJ p u=>rw [hr] at h hT';simp only [Z3] at h;exact⟨h.1,trivial,λv hv=>by cases hv;exact ih (k+1) _ _ _ hT' hd h.2⟩
   |br p b d=>
    rw [hr] at h hT'
    simp only [Z3] at h
    refine⟨h.1,aa,λv hv=>?_⟩
    cases hv
    cases b with
    |true=>exact ih (k+1) _ _ _ hT' hd (h.2.1 rfl)
    |false=>exact ih (k+1) _ _ _ hT' hd (h.2.2 rfl)
   |ex p α φ u=>
    rw [hr] at h hT'
    simp only [Z3] at h
    refine⟨h.1,h.2.1,λv hv=>?_⟩
    obtain⟨x,hx,rfl⟩:=hv
    exact ih (k+1) _ _ _ hT' hd (h.2.2 x hx)
def TW.text {id:Nat}{ops:Array Oper}(hS:adF P N S) (hk:vcT (S ops) ops.toList τ (Q' .normal)):TW P N (.region id ops false) τ Q':=λc a w hr=>by
 refine wp_region ?_
 have h1:=amO ops.toList ops.toList 0 τ (by simp) hk
 refine abo (F:=λi=>match ops.toList[i]? with
  |some o=>S ops o
  |none=>.ret .no) (λi o ho=>?_) (Q':=lift N c Q') (c:=c) (K:=Q' .normal) (λτ' _ _ hk' xj=>⟨τ',xj,hk'⟩) _ τ a w (λi hi=>by simpa using hi) ?_ hr
 ·have:ops.toList[i]?=some o:=by simpa using ho
  simp only [this]
  exact hS ops i o ho
 ·simpa [List.range_eq_range'] using h1
def TW.any {id:Nat}{ops:Array Oper}(hm:P.follows .mixedOrders=true) (hS:adF P N S) (hl:QZ ops.toList 0=true) (hk:vcA (S ops) (afe (wT ops.toList [])) ops.toList 0 [] τ (Q' .normal)):
  TW P N (.region id ops true) τ Q':=λc a w hr=>by
 refine wp_region_any hm ?_
 have h1:=amP ops.toList ops.toList 0 [] [] τ trivial (by simp) hk
 refine ag8 (F:=λi=>match ops.toList[i]? with
  |some o=>S ops o
  |none=>.ret .no) (λi o ho=>?_) (aoh hl) (Q':=lift N c Q') (c:=c) (K:=Q' .normal) (λτ' _ _ hk' xj=>⟨τ',xj,hk'⟩) ops.size (Array.replicate ops.size false) τ a _ ?_ (by simp) ?_ ?_ hr.drew
 ·have:ops.toList[i]?=some o:=by simpa using ho
  simp only [this]
  exact hS ops i o ho
 ·rw [YH];simp
 ·intro i o ho hi
  have:i<ops.size:=(ZE3.1 ho).1
  simp [EH,Array.getD,this] at hi
 ·rw [YH];simpa [List.range_eq_range'] using h1
def F3 {c:Ctx}{a:Act}{w:World}{t:Nat}{av:AV}{b:Bool}(hr:Rel N c τ a w) (h:τ (.s t)=some av) (hav:∀T β v,av.rel T β v->v= .bool b):a.eval (.tmp t)= .bool b:=by
 obtain⟨T,β,hh⟩:=hr
 obtain⟨v,hv,cB⟩:=hh.jD t _ h
 have:v= .bool b:=hav T β v cB
 subst this
 show a.tmps.getD t undef=_
 rw [ZF7,hv];rfl
def iQ (hm:P.follows .mixedOrders=true) (hS:adF P N S):∀(cd:Code) (τ:St) (Q':va),vc P N S cd τ Q'->TW P N cd τ Q'
 |.skip,τ,Q',h=>λ_ _ _ hr=>wp_skip ⟨τ,hr,h⟩
 |.region _ ops false,τ,Q',h=>TW.text hS h
 |.region _ ops true,τ,Q',h=>by
  simp only [vc] at h
  split at h
  ·exact h.elim
  ·rename_i hl;exact TW.any hm hS hl h
 |.seq x y,τ,Q',h=>TW.seq ((iQ hm hS x τ _ h).mono λe τ' hq=>by
  cases e with
  |normal=>exact iQ hm hS y τ' Q' hq
  |_=>exact hq)
 |.cond o x y,τ,Q',h=>by
  intro c a w hr
  simp only [vc] at h
  split at h
  ·rename_i t
   split at h
   ·rename_i b hb
    have hv:=F3 (b:=b) hr hb (λ_ _ _ h=>h)
    refine wp_cond hv ?_
    cases b
    ·exact iQ hm hS y τ Q' (h.2 rfl) c a w hr
    ·exact iQ hm hS x τ Q' (h.1 rfl) c a w hr
   ·rename_i hb
    exact wp_cond (F3 (b:=true) hr hb (λ_ _ _ h=>h)) (iQ hm hS x τ Q' h c a w hr)
   ·rename_i hb
    exact wp_cond (F3 (b:=false) hr hb (λ_ _ _ h=>h)) (iQ hm hS y τ Q' h c a w hr)
   ·exact h.elim
  ·exact wp_cond (show a.eval (.const (.bool true))= .bool true from rfl) (iQ hm hS x τ Q' h c a w hr)
  ·exact wp_cond (show a.eval (.const (.bool false))= .bool false from rfl) (iQ hm hS y τ Q' h c a w hr)
  ·exact h.elim
 |.block id x,τ,Q',h=>TW.block (iQ hm hS x τ _ h)
 |.loop x,τ,Q',h=>h
 |.scope x,τ,Q',h=>h
 |.exit id,τ,Q',h=>λ_ _ _ hr=>wp_exit ⟨τ,hr,h⟩
 |.label l,τ,Q',h=>λ_ _ _ hr=>wp_label ⟨τ,hr,h⟩
 |.ret,τ,Q',h=>λ_ _ _ hr=>wp_ret ⟨τ,hr,h⟩
 |.rangeFunc _ _ _ _,_,_,h=>h.elim
 |.goto _,_,_,h=>h.elim
 |.refuse _,_,_,h=>h.elim
def qm (τ:St) (cm:List gx):St:=λr=>bif cm.any (gx.beq r) then τ r else none
def RH:List (Nat×Nat)->Nat->Nat
 |[],i=>i
 |p::l,i=>bif Nat.beq p.1 i then p.2 else RH l i
def jK:List gx->List Nat
 |[]=>[]
 |.b i::l=>i::jK l
 |.s _::l=>jK l
def jJ:FJ->List Nat
 |[]=>[]
 |(.b i,_)::l=>i::jJ l
 |(.s _,_)::l=>jJ l
def jo (l:List Nat) (i:Nat):Bool:=l.any λj=>Nat.beq j i
def alu (σ:Nat->Nat):List Nat->Bool
 |[]=>true
 |i::l=>(l.all λj=>Nat.beq j i|| !(Nat.beq (σ j) (σ i)))&&alu σ l
def aqz (σ:Nat->Nat) (l:List Nat):Bool:=l.all λi=>Nat.beq (σ i) i||((Nat.ble 1000 i&&Nat.blt i 1000000000)&&(Nat.ble 1000 (σ i)&&Nat.blt (σ i) 1000000000))||Nat.ble 1000000000 i
def VL (bk:List Nat):FJ->Bool
 |[]=>true
 |p::u=>p.2.boxes.all (jo bk)&&VL bk u
def HM (bk:List Nat) (σ:Nat->Nat) (τ:St):List gx->Bool
 |[]=>true
 |r::l=>(match τ r with
  |some av=>av.boxes.all (λi=>jo bk i&&Nat.beq (σ i) i)
  |none=>match r with
   |.b _=>false
   |.s _=>true)&&(match r with
  |.b i=>Nat.beq (σ i) i
  |.s _=>true)&&HM bk σ τ l
def ad2 (σ:Nat->Nat) (τ':St):FJ->Prop
 |[]=>True
 |(.s n,av)::u=>L5 (τ' (.s n)) (av.mJ σ)/\ad2 σ τ' u
 |(.b i,av)::u=>τ' (.b (σ i))=some (av.mJ σ)/\ad2 σ τ' u
def X9 (τ τ':St):List gx->Prop
 |[]=>True
 |r::l=>match τ r with
  |some av=>τ' r=some av/\X9 τ τ' l
  |none=>X9 τ τ' l
def JX (sg:List (Nat×Nat)) (τ τ':St) (cm:List gx) (u:FJ):Prop:=
 match alu (RH sg) (jJ u++jK cm)&&(aqz (RH sg) (jJ u++jK cm)&&(VL (jJ u++jK cm) u&&HM (jJ u++jK cm) (RH sg) τ cm)) with
 |true=>ad2 (RH sg) τ' u/\X9 τ τ' cm
 |false=>False
def gn {l:List Nat}{i:Nat}:jo l i=true↔i∈l:=by
 unfold jo
 rw [List.any_eq_true]
 constructor
 ·rintro⟨j,hj,h⟩
  have:j=i:=by simpa using h
  exact this ▸ hj
 ·intro h;exact⟨i,h,by simp⟩
def R6 {u:FJ}{i:Nat}:i∈jJ u↔∃p∈u,p.1= .b i:=by
 induction u with
 |nil=>simp [jJ]
 |cons p u ih=>
  obtain⟨r,av⟩:=p
  cases r with
  |s n=>simp [jJ,ih]
  |b n=>simp [jJ,ih,eq_comm]
def R7 {l:List gx}{i:Nat}:i∈jK l↔.b i∈l:=by
 induction l with
 |nil=>simp [jK]
 |cons r l ih=>
  cases r with
  |s n=>simp [jK,ih]
  |b n=>simp [jK,ih]
def aaA {σ:Nat->Nat}:∀{l:List Nat},alu σ l=true->∀i∈l,∀j∈l,σ i=σ j->i=j
 |[],_,i,hi,j,hj=>by cases hi
 |k::l,h,i,hi,j,hj=>by
  intro e
  simp only [alu,ZB1] at h
  have key:∀x∈l,σ x=σ k->x=k:=by
   intro x hx he
   have:=ZD3.1 h.1 x hx
   simp only [Bool.or_eq_true] at this
   rcases this with h1 |h1
   ·simpa using h1
   ·rw [he] at h1;simp at h1
  rcases ZB7.1 hi with rfl |H0
  ·rcases ZB7.1 hj with rfl |HZ
   ·rfl
   ·exact (key j HZ e.symm).symm
  ·rcases ZB7.1 hj with rfl |HZ
   ·exact key i H0 e
   ·exact aaA h.2 i H0 j HZ e
def R4 {bk:List Nat}:∀{u:FJ},VL bk u=true->∀p∈u,∀i∈p.2.boxes,i∈bk
 |[],_,p,hp=>by cases hp
 |q::u,h,p,hp=>by
  intro i hi
  simp only [VL,ZB1] at h
  rcases ZB7.1 hp with rfl |hp
  ·exact gn.1 (ZD3.1 h.1 i hi)
  ·exact R4 h.2 p hp i hi
def NS {bk:List Nat}{σ:Nat->Nat}{τ:St}:∀{l:List gx},HM bk σ τ l=true->∀i,.b i∈l->τ (.b i)≠none
 |[],_,i,hi=>by cases hi
 |q::l,h,i,hi=>by
  simp only [HM,ZB1] at h
  rcases ZB7.1 hi with rfl |hi
  ·intro hn
   have h1:=h.1.1
   rw [hn] at h1
   cases h1
  ·exact NS h.2 i hi
def uG {bk:List Nat}{σ:Nat->Nat}{τ:St}:∀{l:List gx},HM bk σ τ l=true->∀r∈l,(∀av,τ r=some av->∀i∈av.boxes,i∈bk/\σ i=i)/\∀i,r= .b i->σ i=i
 |[],_,r,hr=>by cases hr
 |q::l,h,r,hr=>by
  simp only [HM,ZB1] at h
  rcases ZB7.1 hr with rfl |hr
  ·refine⟨λav hav i hi=>?_,λi hi=>?_⟩
   ·have h1:=h.1.1
    rw [hav] at h1
    have h2:=ZD3.1 h1 i hi
    simp only [ZB1] at h2
    exact⟨gn.1 h2.1,by simpa using h2.2⟩
   ·subst hi
    simpa using h.1.2
  ·exact uG h.2 r hr
def DM {σ:Nat->Nat}{τ':St}:∀{u:FJ},ad2 σ τ' u->∀p∈u,(∀n,p.1= .s n->L5 (τ' (.s n)) (p.2.mJ σ))/\∀n,p.1= .b n->τ' (.b (σ n))=some (p.2.mJ σ)
 |[],_,p,hp=>by cases hp
 |(.s m,av)::u,h,p,hp=>by
  rcases ZB7.1 hp with rfl |hp
  ·exact⟨λn hn=>(by cases hn;exact h.1),λn hn=>(by cases hn)⟩
  ·exact DM h.2 p hp
 |(.b m,av)::u,h,p,hp=>by
  rcases ZB7.1 hp with rfl |hp
  ·exact⟨λn hn=>(by cases hn),λn hn=>(by cases hn;exact h.1)⟩
  ·exact DM h.2 p hp
def DN {τ τ':St}:∀{l:List gx},X9 τ τ' l->∀r∈l,∀av,τ r=some av->τ' r=some av
 |[],_,r,hr=>by cases hr
 |q::l,h,r,hr=>by
  intro av hav
  simp only [X9] at h
  split at h
  ·rename_i av' hq
   rcases ZB7.1 hr with rfl |hr
   ·rw [hq] at hav;cases hav;exact h.1
   ·exact DN h.2 r hr av hav
  ·rename_i hq
   rcases ZB7.1 hr with rfl |hr
   ·rw [hq] at hav;cases hav
   ·exact DN h r hr av hav
def SV.sM {σ:Nat->Nat}{x:SV}(h:∀i∈x.boxes,σ i=i):x.mJ σ=x:=by
 cases x<;>simp [SV.mJ,SV.boxes] at h ⊢ <;>exact h
theorem YK {σ:Nat->Nat}:∀{l:List SV},(∀i∈ct l,σ i=i)->GI σ l=l
 |[],_=>rfl
 |x::l,h=>by
  simp only [ct,ZB5] at h
  simp [GI,SV.sM (x:=x) (λi hi=>h i (.inl hi)),YK (l:=l) (λi hi=>h i (.inr hi))]
def A0.sM {σ:Nat->Nat}{x:A0}(h:∀i∈x.boxes,σ i=i):x.mJ σ=x:=by
 cases x with
 |s x=>simp [A0.mJ,SV.sM (x:=x) h]
 |a l=>simp [A0.mJ,YK (l:=l) h]
theorem YJ {σ:Nat->Nat}:∀{l:List A0},(∀i∈fD l,σ i=i)->GH σ l=l
 |[],_=>rfl
 |x::l,h=>by
  simp only [fD,ZB5] at h
  simp [GH,A0.sM (x:=x) (λi hi=>h i (.inl hi)),YJ (l:=l) (λi hi=>h i (.inr hi))]
theorem YL {σ:Nat->Nat}:∀{l:List (Nat×Nat)},(∀i∈kz l,σ i=i)->GJ σ l=l
 |[],_=>rfl
 |p::l,h=>by
  simp only [kz,ZB7] at h
  simp [GJ,h p.1 (.inl rfl),YL (l:=l) (λi hi=>h i (.inr hi))]
theorem AV.sM {σ:Nat->Nat}{x:AV}(h:∀i∈x.boxes,σ i=i):x.mJ σ=x:=by
 cases x with
 |fn f l=>simp [AV.mJ,YL (l:=l) h]
 |o x=>simp [AV.mJ,A0.sM (x:=x) h]
 |t l=>simp [AV.mJ,YJ (l:=l) h]
 |_=>rfl
def acI {cm:List gx}{r:gx}{av:AV}(h:qm τ cm r=some av):r∈cm/\τ r=some av:=by
 unfold qm at h
 cases hk:cm.any (gx.beq r) with
 |true=>
  rw [hk] at h
  obtain⟨q,hq,e⟩:=List.any_eq_true.1 hk
  have:r=q:=gx.beq_iff.1 e
  exact⟨this ▸ hq,h⟩
 |false=>rw [hk] at h;cases h
def LV {sg:List (Nat×Nat)}{τ':St}{cm:List gx}{u:FJ}(h:JX sg τ τ' cm u):Sub (RH sg) ((qm τ cm).ap u) τ':=by
 unfold JX at h
 split at h
 ·rename_i hc
  simp only [ZB1] at hc
  obtain⟨ara,ajl,hU,hK⟩:=hc
  obtain⟨h1,h2⟩:=h
  have key:∀r av,(qm τ cm).ap u r=some av->(∃p∈u,p=(r,av))\/(r∈cm/\τ r=some av):=by
   intro r av hr
   rcases St.FH (τ:=qm τ cm) (u:=u) (r:=r) with ⟨v,hv,hm⟩ |⟨hv,_⟩
   ·rw [hr] at hv;cases hv;exact .inl ⟨_,hm,rfl⟩
   ·rw [hr] at hv;exact .inr (acI hv.symm)
  have anu:∀i,(qm τ cm).ap u (.b i)≠none->i∈jJ u++jK cm:=by
   intro i hi
   obtain⟨av,hav⟩:=Option.ne_none_iff_exists'.1 hi
   rw [ZB5]
   rcases key _ _ hav with ⟨p,hp,rfl⟩ |⟨hk,_⟩
   ·exact .inl (R6.2 ⟨_,hp,rfl⟩)
   ·exact .inr (R7.2 hk)
  refine⟨λi av hi=>?_,λi av hi=>?_,λr av hr i hi=>?_,λi j hi hj e=>aaA ara i (anu i hi) j (anu j hj) e,λi hi=>?_⟩
  ·rcases key _ _ hi with ⟨p,hp,rfl⟩ |⟨hk,ht⟩
   ·exact (DM h1 _ hp).1 i rfl
   ·rw [AV.sM λj hj=>(((uG hK _ hk).1 av ht) j hj).2,DN h2 _ hk av ht]
    exact abC
  ·rcases key _ _ hi with ⟨p,hp,rfl⟩ |⟨hk,ht⟩
   ·exact (DM h1 _ hp).2 i rfl
   ·rw [AV.sM λj hj=>(((uG hK _ hk).1 av ht) j hj).2,(uG hK _ hk).2 i rfl]
    exact DN h2 _ hk av ht
  ·have CA:i∈jJ u++jK cm:=by
    rcases key _ _ hr with ⟨p,hp,rfl⟩ |⟨hk,ht⟩
    ·exact R4 hU _ hp i hi
    ·exact (((uG hK _ hk).1 av ht) i hi).1
   rcases ZB5.1 CA with hm |hm
   ·obtain⟨p,hp,e⟩:=R6.1 hm
    intro hn
    rcases St.FH (τ:=qm τ cm) (u:=u) (r:=.b i) with ⟨v,hv,_⟩ |⟨_,tV⟩
    ·rw [hn] at hv;cases hv
    ·exact tV p hp e
   ·intro hn
    rcases St.FH (τ:=qm τ cm) (u:=u) (r:=.b i) with ⟨v,hv,_⟩ |⟨hv,tV⟩
    ·rw [hn] at hv;cases hv
    ·rw [hn] at hv
     have hk:=R7.1 hm
     have hx:qm τ cm (.b i)=τ (.b i):=by
      unfold qm
      have:cm.any (gx.beq (.b i))=true:=List.any_eq_true.2 ⟨_,hk,gx.abe _⟩
      rw [this];rfl
     rw [hx] at hv
     exact NS hK i hk hv.symm
  ·have:=ZD3.1 ajl i (anu i hi)
   simp only [Bool.or_eq_true,ZB1] at this
   rcases this with (h3 |h3) |h3
   ·exact .inl (by simpa using h3)
   ·exact .inr (.inl ⟨⟨zqNlb h3.1.1,zqNlb h3.1.2⟩,zqNlb h3.2.1,zqNlb h3.2.2⟩)
   ·exact .inr (.inr (zqNlb h3))
 ·exact h.elim
end
end GL
namespace GL
section
variable {P:Program}{N:Nat}{τ:St}{Q':va}{S:Sm}
def TW.aoK {cd:Code}{ι:Type}(I:ι->St) (φ:ι->Prop) (μ:ι->Nat) (x0:ι) (h0:φ x0) (hs:∃σ,Sub σ (I x0) τ)
  (wj:∀x,φ x->TW P N cd (I x) (IW (λτ'=>∃y,φ y/\μ y < μ x/\∃σ,Sub σ (I y) τ') Q')):TW P N (.loop cd) τ Q':=λc a w hr=>by
 classical
 let J:Act->World->Nat->Prop:=λa w n=>∃x,μ x=n/\φ x/\Rel N c (I x) a w
 let m:Act->World->Nat:=λa w=>if h:∃n,J a w n then Classical.epsilon (λn=>J a w n/\∀k,J a w k->n<=k) else 0
 have hm:∀a w,(∃n,J a w n)->J a w (m a w)/\∀k,J a w k->m a w<=k:=by
  intro a w h
  have hex:∃n,J a w n/\∀k,J a w k->n<=k:=by
   obtain⟨n,hn⟩:=h
   induction n using Nat.strongRecOn with
   |_ n ih=>
    by_cases anG:∀k,J a w k->n<=k
    ·exact⟨n,hn,anG⟩
    ·simp only [Classical.not_forall] at anG
     obtain⟨k,hk,bR⟩:=anG
     exact ih k (by omega) hk
  have:m a w=Classical.epsilon (λn=>J a w n/\∀k,J a w k->n<=k):=by
   simp only [m];rw [dif_pos h]
  rw [this]
  exact Classical.epsilon_spec hex
 obtain⟨σ0,hs0⟩:=hs
 refine wp_loop (λa w=>∃n,J a w n) m ⟨μ x0,x0,rfl,h0,hr.sub hs0⟩ ?_
 intro a' w' hJ
 obtain⟨⟨x,hx,hφ,cB⟩,_⟩:=hm a' w' hJ
 refine Code.wp_mono ?_ (wj x hφ c a' w' cB)
 rintro e a2 w2 ⟨τ2,hr2,hq⟩
 cases e with
 |normal=>
  obtain⟨y,hy,bR,σ,alw⟩:=hq
  have hJ2:J a2 w2 (μ y):=⟨y,rfl,hy,hr2.sub alw⟩
  exact⟨⟨_,hJ2⟩,by rw [<-hx];exact Nat.lt_of_le_of_lt ((hm a2 w2 ⟨_,hJ2⟩).2 _ hJ2) bR⟩
 |_=>exact⟨τ2,hr2,hq⟩
def TW.aoL (hm:P.follows .mixedOrders=true) (hS:adF P N S) {cd:Code}{ι:Type}(cm:List gx) (J:ι->FJ) (φ:ι->Prop) (μ:ι->Nat) (x0:ι) (sg0:List (Nat×Nat)) (h0:φ x0) (hs:JX sg0 τ τ cm (J x0))
  (wj:∀x,φ x->vc P N S cd ((qm τ cm).ap (J x)) (IW (λτ'=>∃y sg,φ y/\μ y < μ x/\JX sg τ τ' cm (J y)) Q')):TW P N (.loop cd) τ Q':=
 TW.aoK (λx=>(qm τ cm).ap (J x)) φ μ x0 h0 ⟨_,LV hs⟩ λx hx=>(iQ hm hS _ _ _ (wj x hx)).mono λe τ' hq=>by
  cases e with
  |normal=>
   obtain⟨y,sg,h1,h2,h3⟩:=hq
   exact⟨y,h1,h2,_,LV h3⟩
  |_=>exact hq
def TW.alF {cd:Code}(cm:List gx) (u:FJ) (sg:List (Nat×Nat)) (h:JX sg τ τ cm u) (hk:TW P N cd ((qm τ cm).ap u) Q'):TW P N cd τ Q':=λc a w hr=>hk c a w (hr.sub (LV h))
def Sh (P:Program) (t:TypeId):Option (Bool×Nat):=
 match P.underlying t,P.info? t with
 |some (.struct _),some i |some (.array _ _),some i=>some (true,i.size)
 |some _,some i=>some (false,i.size)
 |_,_=>none
def kB {t:TypeId}{b:Bool}{n:Nat}(h:Sh P t=some (b,n)) (w:World):(isAgg t).run P w= .ok b w/\(sizeOf t).run P w= .ok n w:=by
 unfold Sh at h
 cases hu:P.underlying t with
 |none=>rw [hu] at h;simp at h
 |some d=>
  cases hi:P.info? t with
  |none=>rw [hu,hi] at h;cases d<;>simp at h
  |some i=>
   rw [hu,hi] at h
   refine⟨?_,?_⟩
   ·cases d<;>simp at h<;>simp [isAgg,run_underlying hu,h.1]
   ·cases d<;>simp at h<;>simp [sizeOf,typeInfo,hi,h.2]
def wR {t:TypeId}{n:Nat}(h:Sh P t=some (true,n)) {w:World}{a:Addr}{cs:List Value}(hn:cs.length=n) (hc:∀j v,cs[j]?=some v->w.cell? (a.add j)=some v):
  (loadVar t a).run P w= .ok (.agg cs.toArray) w:=by
 obtain⟨h1,h2⟩:=kB h w
 have h3:=run_loadCells_list (P:=P) w a cs hc
 rw [hn] at h3
 simp [loadVar,h1,h2,h3]
def wQ {t:TypeId}{n:Nat}(h:Sh P t=some (false,n)) {w:World}{a:Addr}{v:Value}(hc:w.cell? a=some v):(loadVar t a).run P w= .ok v w:=by
 obtain⟨h1,_⟩:=kB h w
 simp [loadVar,h1,hc]
def bO {w:World}{b:Nat}{cs:Array Value}{e:TypeId}{fr:Nat×Nat}(h:w.heap[b]?=some (.cells cs e fr)) (o:Nat):w.cell? ⟨b,o,none⟩=cs[o]?:=by simp [World.cell?,h]
def gV (b o j:Nat):(⟨b,o,none⟩:Addr).add j=⟨b,o+j,none⟩:=by
 unfold Addr.add
 split
 ·rename_i h;subst h;rfl
 ·rfl
def abT (sh:TypeId->Option (Bool×Nat)) (τ:St):ResultVar->Option A0
 |.tmp t=>match τ (.s t) with
  |some (.o x)=>some x
  |_=>none
 |.cell ad ty=>match τ (.s ad) with
  |some (.o (.s (.bp i 0)))=>match τ (.b i) with
   |some (.o (.a l))=>match sh ty with
    |some (true,n)=>bif Nat.beq n l.length then some (.a l) else none
    |some (false,_)=>match l with
     |[x]=>some (.s x)
     |_=>none
    |none=>none
   |_=>none
  |_=>none
def xN (tmps:Array Value):ResultVar->Sem Value
 |.tmp t=>pure (tmps.getD t undef)
 |.cell a t=>do loadVar t (<-asAddr (tmps.getD a undef))
variable {sh:TypeId->Option (Bool×Nat)}
def ahM (hsh:∀t x,sh t=some x->Sh P t=some x) {c:Ctx}{T:a8}{β:Nat->Nat}{a:Act}{w:World}(hh:Holds N c T β τ a w) {x:ResultVar}{r:A0}(h:abT sh τ x=some r):∃v,(xN a.tmps x).run P w= .ok v w/\r.rel T β v:=by
 cases x with
 |tmp t=>
  simp only [abT] at h
  split at h
  ·rename_i y hy
   cases h
   obtain⟨v,hv,hr⟩:=hh.jD t _ hy
   exact⟨v,by simp [xN,hv],hr⟩
  ·cases h
 |cell ad ty=>
  simp only [abT] at h
  split at h
  ·rename_i i hy
   split at h
   ·rename_i l hl
    obtain⟨v,hv,hr⟩:=hh.jD ad _ hy
    have xj:v= .pointer (some ⟨β i,0,none⟩):=hr
    subst xj
    obtain⟨cs,e,hb,cB⟩:=hh.boxes i _ hl (by intro e;cases e)
    have yw:dY T β l cs.toList:=cB
    have hlen:=lx yw
    split at h
    ·rename_i n hS
     cases hbq:Nat.beq n l.length with
     |false=>rw [hbq] at h;cases h
     |true=>
      rw [hbq] at h;cases h
      have hn:n=l.length:=by simpa using hbq
      subst hn
      refine⟨.agg cs,?_,cs,ζ,yw⟩
      have:=wR (P:=P) (hsh _ _ hS) (w:=w) (a:=⟨β i,0,none⟩) (cs:=cs.toList) hlen.symm (λj v hj=>by
       rw [gV,bO hb];simpa using hj)
      simpa [xN,hv,asAddr] using this
    ·rename_i n hS
     split at h
     ·rename_i y
      cases h
      obtain⟨v0,hv0,hr0⟩:=vC yw (i:=0) (x:=y) rfl
      refine⟨v0,?_,hr0⟩
      have:=wQ (P:=P) (hsh _ _ hS) (w:=w) (a:=⟨β i,0,none⟩) (v:=v0) (by rw [bO hb];simpa using hv0)
      simpa [xN,hv,asAddr] using this
     ·cases h
    ·cases h
   ·cases h
  ·cases h
def UQ (sh:TypeId->Option (Bool×Nat)) (τ:St):List ResultVar->Option (List A0)
 |[]=>some []
 |x::l=>match abT sh τ x,UQ sh τ l with
  |some r,some rs=>some (r::rs)
  |_,_=>none
def YI (hsh:∀t x,sh t=some x->Sh P t=some x) {c:Ctx}{T:a8}{β:Nat->Nat}{a:Act}{w:World}(hh:Holds N c T β τ a w):∀{l:List ResultVar}{rs:List A0},UQ sh τ l=some rs->∃vs:List Value,(l.mapM (xN a.tmps)).run P w= .ok vs w/\uj T β rs vs
 |[],rs,h=>by
  simp only [UQ] at h;cases h
  exact⟨[],by simp,trivial⟩
 |x::l,rs,h=>by
  simp only [UQ] at h
  split at h
  ·rename_i r rs' hr hrs
   cases h
   obtain⟨v,hv,hvr⟩:=ahM hsh hh hr
   obtain⟨vs,hvs,aqH⟩:=YI hsh hh hrs
   exact⟨v::vs,by simp [List.mapM_cons,hv,hvs],hvr,aqH⟩
  ·cases h
def ak0 (sh:TypeId->Option (Bool×Nat)) (τ:St) (l:List ResultVar):Option AV:=
 match UQ sh τ l with
 |some [x]=>some (.o x)
 |some rs=>some (.t rs)
 |none=>none
def ahL (hsh:∀t x,sh t=some x->Sh P t=some x) {c:Ctx}{T:a8}{β:Nat->Nat}{a:Act}{w:World}(hh:Holds N c T β τ a w) {fn:Func}{r:AV}(h:ak0 sh τ fn.results.toList=some r):∃v,(results fn a.tmps).run P w= .ok v w/\r.rel T β v:=by
 have key:∀rs,UQ sh τ fn.results.toList=some rs->∃vs:List Value,(fn.results.mapM (xN a.tmps)).run P w= .ok vs.toArray w/\uj T β rs vs:=by
  intro rs hrs
  obtain⟨vs,hvs,cB⟩:=YI hsh hh hrs
  refine⟨vs,?_,cB⟩
  rw [<-Array.toArray_toList (xs:=fn.results),List.mapM_toArray]
  simp [hvs]
 have ao1:∀vs:Array Value,(fn.results.mapM (xN a.tmps)).run P w= .ok vs w->(results fn a.tmps).run P w= .ok (if h:vs.size=1 then vs[0] else .tuple vs) w:=by
  intro vs hvs
  have e:results fn a.tmps=(do let vs<-fn.results.mapM (xN a.tmps);pure (if h:vs.size=1 then vs[0] else .tuple vs)):=by
   unfold results
   congr 1
  rw [e]
  simp [hvs]
 unfold ak0 at h
 split at h
 ·rename_i x hx
  cases h
  obtain⟨vs,hvs,cB⟩:=key _ hx
  match vs,cB with
  |[v],cB=>exact⟨v,by rw [ao1 _ hvs];simp,cB.1⟩
 ·rename_i rs ft hx
  cases h
  obtain⟨vs,hvs,cB⟩:=key _ hx
  refine⟨.tuple vs.toArray,?_,vs.toArray,ζ,by simpa using cB⟩
  rw [ao1 _ hvs]
  have hl:=YQ cB
  have:¬(vs.toArray.size=1):=by
   intro h1
   match rs,hl with
   |[x],_=>exact ft x rfl
   |[],hl=>simp at hl h1;omega
   |_::_::_,hl=>simp at hl h1;omega
  rw [dif_neg this]
 ·cases h
def IZ (τ:St) (own:List Nat):SV->Option (Prop×SV)
 |.v (.bool b)=>some (True,.q b)
 |.xs i sz o m=>match jo own i with
  |true=>some (True,.xs i sz o m)
  |false=>match τ (.b i) with
   |some (.rs ek l)=>bif Nat.beq ek.length sz&&(Nat.ble 1000 i&&Nat.blt i 1000000000) then some (o+m<=l.length,.vw ek ((l.drop o).take m)) else none
   |_=>none
 |.bp i o=>bif jo own i then some (True,.bp i o) else none
 |.xp i sz k j=>bif jo own i then some (True,.xp i sz k j) else none
 |.vz _ _=>none
 |.vp _ _ _=>none
 |.vs _ _=>none
 |x=>some (True,x)
def A2 (τ:St) (own:List Nat):List SV->Option (Prop×List SV)
 |[]=>some (True,[])
 |x::l=>match IZ τ own x,A2 τ own l with
  |some (p,y),some (q,m)=>some (p/\q,y::m)
  |_,_=>none
def xB (τ:St) (own:List Nat):A0->Option (Prop×A0)
 |.s x=>match IZ τ own x with
  |some (p,y)=>some (p,.s y)
  |none=>none
 |.a l=>match A2 τ own l with
  |some (p,m)=>some (p,.a m)
  |none=>none
def F6 (τ:St) (own:List Nat):List A0->Option (Prop×List A0)
 |[]=>some (True,[])
 |x::l=>match xB τ own x,F6 τ own l with
  |some (p,y),some (q,m)=>some (p/\q,y::m)
  |_,_=>none
def A3 (τ:St) (own:List Nat):AV->Option (Prop×AV)
 |.o x=>match xB τ own x with
  |some (p,y)=>some (p,.o y)
  |none=>none
 |.t l=>match F6 τ own l with
  |some (p,m)=>some (p,.t m)
  |none=>none
 |_=>none
def SV.pQ:SV->Bool
 |.vz _ _=>false
 |.vp _ _ _=>false
 |.vs _ _=>false
 |_=>true
def ET:List SV->Bool
 |[]=>true
 |x::l=>x.pQ&&ET l
def A0.pQ:A0->Bool
 |.s x=>x.pQ
 |.a l=>ET l
def xa:List A0->Bool
 |[]=>true
 |x::l=>x.pQ&&xa l
def AV.pQ:AV->Bool
 |.o x=>x.pQ
 |.t l=>xa l
 |_=>true
theorem L2 {own:List Nat}{x y:SV}{p:Prop}(h:IZ τ own x=some (p,y)):y.pQ=true:=by
 unfold IZ at h
 split at h
 ·cases h;rfl
 ·split at h
  ·cases h;rfl
  ·split at h
   ·cases hc:(Nat.beq _ _&&(Nat.ble 1000 _&&Nat.blt _ 1000000000):Bool) with
    |false=>rw [hc] at h;cases h
    |true=>rw [hc] at h;cases h;rfl
   ·cases h
 ·cases hc:jo own _ with
  |false=>rw [hc] at h;cases h
  |true=>rw [hc] at h;cases h;rfl
 ·cases hc:jo own _ with
  |false=>rw [hc] at h;cases h
  |true=>rw [hc] at h;cases h;rfl
 ·cases h
 ·cases h
 ·cases h
 ·rename_i h1 h2 h3 h4 h5 h6
  cases h
  cases x with
  |vz ek l=>exact absurd rfl (h4 ek l)
  |vp ek r j=>exact absurd rfl (h5 ek r j)
  |vs l j=>exact absurd rfl (h6 l j)
  |_=>rfl
def xA {own:List Nat}:∀{x y:List SV}{p:Prop},A2 τ own x=some (p,y)->ET y=true
 |[],y,p,h=>by cases h;rfl
 |x::l,y,p,h=>by
  simp only [A2] at h
  split at h
  ·rename_i h1 h2
   cases h
   simp [ET,L2 h1,xA h2]
  ·cases h
def I1 {own:List Nat}{x y:A0}{p:Prop}(h:xB τ own x=some (p,y)):y.pQ=true:=by
 cases x with
 |s x=>
  simp only [xB] at h
  split at h
  ·rename_i h1;cases h;exact L2 h1
  ·cases h
 |a l=>
  simp only [xB] at h
  split at h
  ·rename_i h1;cases h;exact xA h1
  ·cases h
def I0 {own:List Nat}:∀{x y:List A0}{p:Prop},F6 τ own x=some (p,y)->xa y=true
 |[],y,p,h=>by cases h;rfl
 |x::l,y,p,h=>by
  simp only [F6] at h
  split at h
  ·rename_i h1 h2
   cases h
   simp [xa,I1 h1,I0 h2]
  ·cases h
def X7 {own:List Nat}{x y:AV}{p:Prop}(h:A3 τ own x=some (p,y)):y.pQ=true:=by
 cases x with
 |o x=>
  simp only [A3] at h
  split at h
  ·rename_i h1;cases h;exact I1 h1
  ·cases h
 |t l=>
  simp only [A3] at h
  split at h
  ·rename_i h1;cases h;exact I0 h1
  ·cases h
 |rs ek l=>cases h
 |zz=>cases h
 |fn f l=>cases h
def SV.pP {g:Nat->Nat}{x:SV}:(x.mJ g).pQ=x.pQ:=by cases x<;>rfl
theorem S8 {g:Nat->Nat}:∀{l:List SV},ET (GI g l)=ET l
 |[]=>rfl
 |x::l=>by simp [GI,ET,SV.pP,S8 (l:=l)]
def A0.pP {g:Nat->Nat}{x:A0}:(x.mJ g).pQ=x.pQ:=by
 cases x with
 |s x=>exact SV.pP
 |a l=>exact S8
theorem S7 {g:Nat->Nat}:∀{l:List A0},xa (GH g l)=xa l
 |[]=>rfl
 |x::l=>by simp [GH,xa,A0.pP,S7 (l:=l)]
theorem AV.pP {g:Nat->Nat}{x:AV}:(x.mJ g).pQ=x.pQ:=by
 cases x with
 |o x=>exact A0.pP
 |t l=>exact S7
 |_=>rfl
noncomputable def uQ (T:a8) (β:Nat->Nat) (τ:St) (W w:World) (own:List Nat):a8:=λb=>
 match T b with
 |some (.bx n)=>open Classical in if W.heap.size<=b/\¬(∃i∈own,live τ i/\β i=b) then (match w.heap[b]? with
  |some (.cells cs e fr)=>some (.ro cs e fr)
  |_=>some (.bx n)) else some (.bx n)
 |k=>k.map BK.un
section
variable {c:Ctx}{T:a8}{β:Nat->Nat}{a:Act}{w:World}{own:List Nat}
def aeX {W:World}{b n:Nat}{ek:EK}(h:T b=some (.ty ek n)):uQ T β τ W w own b=some (.ty ek n):=by
 unfold uQ;rw [h];rfl
def aeY {W:World}{b:Nat}{cs:Array Value}{e:TypeId}{fr:Nat×Nat}(h:T b=some (.ro cs e fr)):uQ T β τ W w own b=some (.ro cs e fr):=by
 unfold uQ;rw [h];rfl
def aa6 {W:World}{i n:Nat}(h:T (β i)=some (.bx n)) (hi:i∈own) (hl:live τ i):uQ T β τ W w own (β i)=some (.bx n):=by
 unfold uQ
 rw [h]
 simp only
 rw [if_neg]
 rintro⟨_,h⟩
 exact h ⟨i,hi,hl,rfl⟩
def ag0 {W:World}{i n:Nat}{cs:Array Value}{e:TypeId}{fr:Nat×Nat}(hh:Holds N c T β τ a w) (h:T (β i)=some (.bx n)) (hi:i∉own) (hl:live τ i) (hb:w.heap[β i]?=some (.cells cs e fr)) (hW:W.heap.size<=β i):uQ T β τ W w own (β i)=some (.ro cs e fr):=by
 unfold uQ
 rw [h]
 simp only
 rw [if_pos,hb]
 refine⟨hW,?_⟩
 rintro⟨j,hj,hlj,e⟩
 exact hi (hh.inj j i hlj hl e ▸ hj)
def xo {cs:Array Value}{ek:EK}{l z:List (EK.Ty ek)}(h:cs.toList=flat ek (l++z)) (o m:Nat):win cs (o*ek.length) (flat ek ((l.drop o).take m)):=by
 intro j v hj
 have h1:(flat ek ((l.drop o).take m))[j]?=((flat ek l).drop (o*ek.length))[j]?:=by
  rw [qM,<-oE,List.getElem?_take]
  split
  ·rfl
  ·rename_i bR
   exfalso
   have:=(ZB9.1 hj).1
   rw [<-oE,ZB6] at this
   omega
 rw [h1,List.getElem?_drop] at hj
 have h2:cs.toList[o*ek.length+j]?=some v:=by
  rw [h,iA]
  exact ZC3 (ZB9.1 hj).1 ▸ hj
 simpa using h2
def RL (hh:Holds N c T β τ a w) (fq:∀i∈own,τ (.b i)≠none->live τ i) {x y:SV}{p:Prop}(h:IZ τ own x=some (p,y)) (hp:p) {v:Value}(hnm:∀i∈x.boxes,τ (.b i)≠none) (hr:x.rel T β v):y.rel (uQ T β τ c.W w own) β v/\∀i∈y.boxes,i∈own:=by
 cases x with
 |v x=>cases x<;>(cases h;exact⟨hr,by simp [SV.boxes]⟩)
 |q b=>cases h;exact⟨hr,by simp [SV.boxes]⟩
 |bp i o=>
  simp only [IZ] at h
  cases hm:jo own i with
  |false=>rw [hm] at h;cases h
  |true=>rw [hm] at h;cases h;exact⟨hr,by simp [SV.boxes];exact gn.1 hm⟩
 |xp i sz k j=>
  simp only [IZ] at h
  cases hm:jo own i with
  |false=>rw [hm] at h;cases h
  |true=>rw [hm] at h;cases h;exact⟨hr,by simp [SV.boxes];exact gn.1 hm⟩
 |xs i sz o m=>
  simp only [IZ] at h
  cases hm:jo own i with
  |true=>
   rw [hm] at h;cases h
   have hi:=gn.1 hm
   refine⟨?_,by simp [SV.boxes];exact hi⟩
   rcases hr with hr |⟨cap,n,h1,h2,h3,h4⟩
   ·exact .inl hr
   ·exact .inr ⟨cap,n,h1,h2,aa6 h3 hi (fq i hi (hnm i (by simp [SV.boxes]))),h4⟩
  |false=>
   rw [hm] at h
   simp only at h
   split at h
   ·rename_i ek l hb
    cases hc:Nat.beq ek.length sz&&(Nat.ble 1000 i&&Nat.blt i 1000000000) with
    |false=>rw [hc] at h;cases h
    |true=>
     rw [hc] at h;cases h
     simp only [ZB1] at hc
     have db:ek.length=sz:=by simpa using hc.1
     subst db
     have apt:1000<=i:=zqNlb hc.2.1
     have hM:i<1000000000:=zqNlb hc.2.2
     refine⟨?_,by simp [SV.boxes]⟩
     have hlen:((l.drop o).take m).length=m:=by simp;omega
     rcases hr with ⟨rfl,p,e⟩ |⟨cap,n,h1,h2,h3,h4⟩
     ·exact .inl ⟨by simp,p,0,e⟩
     ·have hl:live τ i:=fg hb (by intro e;cases e)
      obtain⟨cs,te,hc1,ft,z,lj,hz⟩:=hh.boxes i _ hb (by intro e;cases e)
      refine .inr ⟨β i,o*ek.length,cap,cs,te,(0,0),by rw [hlen];exact h1,by rw [hlen];exact h2,?_,xo lj o m⟩
      exact ag0 hh h3 (λhi=>by have:=gn.2 hi;rw [hm] at this;cases this) hl hc1 ((hh.apart i hl).2.2.1 apt hM)
   ·cases h
 |ep ek j=>cases h;obtain⟨b,o,n,h1,h2,h3⟩:=hr;exact⟨⟨b,o,n,h1,aeX h2,h3⟩,by simp [SV.boxes]⟩
 |sl ek len=>
  cases h
  refine⟨?_,by simp [SV.boxes]⟩
  rcases hr with hr |⟨b,o,cap,n,h1,h2,h3,h4⟩
  ·exact .inl hr
  ·exact .inr ⟨b,o,cap,n,h1,h2,aeX h3,h4⟩
 |vw ek l=>
  cases h
  refine⟨?_,by simp [SV.boxes]⟩
  rcases hr with hr |⟨b,o,cap,cs,e,fr,h1,h2,h3,h4⟩
  ·exact .inl hr
  ·exact .inr ⟨b,o,cap,cs,e,fr,h1,h2,aeY h3,h4⟩
 |vz ek l=>cases h
 |vp ek x j=>cases h
 |vs l j=>cases h
 |er b=>cases h;exact⟨hr,by simp [SV.boxes]⟩
 |e0=>cases h;exact⟨hr,by simp [SV.boxes]⟩
def A1 (hh:Holds N c T β τ a w) (fq:∀i∈own,τ (.b i)≠none->live τ i):∀{x y:List SV}{p:Prop},A2 τ own x=some (p,y)->p->∀{v:List Value},(∀i∈ct x,τ (.b i)≠none)->dY T β x v->dY (uQ T β τ c.W w own) β y v/\∀i∈ct y,i∈own
 |[],y,p,h,hp,v,hnm,hr=>by
  cases h
  cases v with
  |nil=>exact⟨trivial,by simp [ct]⟩
  |cons _ _=>exact hr.elim
 |x::l,y,p,h,hp,v,hnm,hr=>by
  simp only [A2] at h
  split at h
  ·rename_i p1 y1 q1 m1 h1 h2
   cases h
   cases v with
   |nil=>exact hr.elim
   |cons v vs=>
    simp only [ct,ZB5] at hnm
    have g1:=RL hh fq h1 hp.1 (λi hi=>hnm i (.inl hi)) hr.1
    have g2:=A1 hh fq h2 hp.2 (λi hi=>hnm i (.inr hi)) hr.2
    refine⟨⟨g1.1,g2.1⟩,λi hi=>?_⟩
    simp only [ct,ZB5] at hi
    rcases hi with hi |hi
    ·exact g1.2 i hi
    ·exact g2.2 i hi
  ·cases h
def L4 (hh:Holds N c T β τ a w) (fq:∀i∈own,τ (.b i)≠none->live τ i) {x y:A0}{p:Prop}(h:xB τ own x=some (p,y)) (hp:p) {v:Value}(hnm:∀i∈x.boxes,τ (.b i)≠none) (hr:x.rel T β v):y.rel (uQ T β τ c.W w own) β v/\∀i∈y.boxes,i∈own:=by
 cases x with
 |s x=>
  simp only [xB] at h
  split at h
  ·rename_i p1 y1 h1;cases h;exact RL hh fq h1 hp hnm hr
  ·cases h
 |a l=>
  simp only [xB] at h
  split at h
  ·rename_i p1 y1 h1
   cases h
   obtain⟨cs,e,hl⟩:=hr
   have:=A1 hh fq h1 hp hnm hl
   exact⟨⟨cs,e,this.1⟩,this.2⟩
  ·cases h
def L3 (hh:Holds N c T β τ a w) (fq:∀i∈own,τ (.b i)≠none->live τ i):∀{x y:List A0}{p:Prop},F6 τ own x=some (p,y)->p->∀{v:List Value},(∀i∈fD x,τ (.b i)≠none)->uj T β x v->uj (uQ T β τ c.W w own) β y v/\∀i∈fD y,i∈own
 |[],y,p,h,hp,v,hnm,hr=>by
  cases h
  cases v with
  |nil=>exact⟨trivial,by simp [fD]⟩
  |cons _ _=>exact hr.elim
 |x::l,y,p,h,hp,v,hnm,hr=>by
  simp only [F6] at h
  split at h
  ·rename_i p1 y1 q1 m1 h1 h2
   cases h
   cases v with
   |nil=>exact hr.elim
   |cons v vs=>
    simp only [fD,ZB5] at hnm
    have g1:=L4 hh fq h1 hp.1 (λi hi=>hnm i (.inl hi)) hr.1
    have g2:=L3 hh fq h2 hp.2 (λi hi=>hnm i (.inr hi)) hr.2
    refine⟨⟨g1.1,g2.1⟩,λi hi=>?_⟩
    simp only [fD,ZB5] at hi
    rcases hi with hi |hi
    ·exact g1.2 i hi
    ·exact g2.2 i hi
  ·cases h
def abB (hh:Holds N c T β τ a w) (fq:∀i∈own,τ (.b i)≠none->live τ i) {x y:AV}{p:Prop}(h:A3 τ own x=some (p,y)) (hp:p) {v:Value}(hnm:∀i∈x.boxes,τ (.b i)≠none) (hr:x.rel T β v):y.rel (uQ T β τ c.W w own) β v/\∀i∈y.boxes,i∈own:=by
 cases x with
 |o x=>
  simp only [A3] at h
  split at h
  ·rename_i p1 y1 h1;cases h;exact L4 hh fq h1 hp hnm hr
  ·cases h
 |t l=>
  simp only [A3] at h
  split at h
  ·rename_i p1 y1 h1
   cases h
   obtain⟨cs,e,hl⟩:=hr
   have:=L3 hh fq h1 hp hnm hl
   exact⟨⟨cs,e,this.1⟩,this.2⟩
  ·cases h
 |rs ek l=>cases h
 |zz=>cases h
 |fn f l=>cases h
end
end
end GL
namespace GL
def mW (T:a8) (β:Nat->Nat):List AV->List Value->Prop
 |[],[]=>True
 |x::l,y::r=>x.rel T β y/\mW T β l r
 |_,_=>False
theorem MK {T:a8}{β:Nat->Nat}:∀{l:List AV}{cs:List Value},mW T β l cs->l.length=cs.length
 |[],[],_=>rfl
 |_::_,[],h=>h.elim
 |[],_::_,h=>h.elim
 |_::l,_::cs,h=>by simp [MK h.2]
def UR {T:a8}{β:Nat->Nat}:∀{l:List AV}{cs:List Value},mW T β l cs->∀{i:Nat}{x:AV},l[i]?=some x->∃v,cs[i]?=some v/\x.rel T β v
 |[],[],_,i,x,hx=>by simp at hx
 |_::_,[],h,_,_,_=>h.elim
 |[],_::_,h,_,_,_=>h.elim
 |y::l,v::cs,h,i,x,hx=>by
  cases i with
  |zero=>simp at hx;subst hx;exact⟨v,by simp,h.1⟩
  |succ i=>simpa using UR h.2 (by simpa using hx)
structure pY (T:a8):Prop where
 no:∀b ek n cs,T b≠some (.fz ek n cs)
 pO:adG T
structure afh (W:World) (T:a8) (β:Nat->Nat) (bs:List AV):Prop where
 JK:bs.length<=1000
 at_:∀i av,bs[i]?=some av->av≠.zz/\(∃n,T (β i)=some (.bx n))/\(∃cs e,W.heap[β i]?=some (.cells cs e (0,0))/\av.tW T β cs)/\∀j∈av.boxes,j<bs.length
 inj:∀i j,i<bs.length->j<bs.length->β i=β j->i=j
structure FN (W:World) (k:Nat) (mv:Bool) (β:Nat->Nat) (T':a8) (β':Nat->Nat) (w':World) (os:List AV):Prop where
 len:k<=os.length
 same:∀i,i<k->β' i=β i
 at_:∀i av,os[i]?=some av->av≠.zz->(∃n,T' (β' i)=some (.bx n))/\(k<=i->W.heap.size<=β' i\/(mv=true/\∃j,j<k/\β' i=β j))/\(∃cs e,w'.heap[β' i]?=some (.cells cs e (0,0))/\av.tW T' β' cs)/\(∀j∈av.boxes,j<os.length)/\av.pQ=true
 inj:∀i j av av',os[i]?=some av->av≠.zz->os[j]?=some av'->av'≠.zz->β' i=β' j->i=j
structure afi (W:World) (T:a8) (β:Nat->Nat) (k:Nat) (T':a8) (w':World):Prop where
 typed:WT T' w'
 ala:pY T'
 new:∀b,b<W.heap.size->T' b=T b
 frame:∀b,b<W.heap.size->(∀i,i<k->b≠β i)->quiet (T b)->w'.heap[b]?=W.heap[b]?
 gS:W.heap.size<=w'.heap.size
 os:w'.os=W.os
 tape:w'.tape=W.tape
 output:w'.output=W.output
def TC (P:Program) (f:FuncId) (mv:Bool) (args bs:List AV) (post:AV->List AV->Prop):Prop:=
 ∀(W:World) (T:a8) (β:Nat->Nat) (vs:List Value),WT T W->pY T->mW T β args vs->(∀av∈args,∀i∈av.boxes,i<bs.length)->afh W T β bs->
  Calls P f vs.toArray W λe w'=>∃v r os T' β',e= .returned v/\post r os/\r.rel T' β' v/\((∀i∈r.boxes,i<os.length)/\r.pQ=true)/\afi W T β bs.length T' w'/\FN W bs.length mv β T' β' w' os
def TC.mono {P:Program}{f:FuncId}{mv:Bool}{args bs:List AV}{post DW:AV->List AV->Prop}(h:TC P f mv args bs post) (hp:∀r os,post r os->DW r os):TC P f mv args bs DW:=by
 intro W T β vs h1 h2 h3 h4 h5
 exact (h W T β vs h1 h2 h3 h4 h5).mono λe w' ⟨v,r,os,T',β',e1,e2,e3⟩=>⟨v,r,os,T',β',e1,hp _ _ e2,e3⟩
def aa3:Nat->List AV->FJ
 |_,[]=>[]
 |i,av::l=>(.s i,av)::aa3 (i+1) l
def JM:Nat->List AV->FJ
 |_,[]=>[]
 |i,av::l=>(.b i,av)::JM (i+1) l
def NG:St:=λ_=>none
def entry (args bs:List AV):St:=NG.ap (aa3 0 args++JM 0 bs)
def TM {av:AV}{r:gx}:∀{l:List AV}{i:Nat},(r,av)∈aa3 i l->∃j,r= .s (i+j)/\l[j]?=some av
 |[],_,h=>by cases h
 |x::l,i,h=>by
  rcases ZB7.1 h with h |h
  ·cases h;exact⟨0,rfl,by simp⟩
  ·obtain⟨j,hj,hl⟩:=TM h
   exact⟨j+1,by rw [hj];congr 1;omega,by simpa using hl⟩
def TN {av:AV}{r:gx}:∀{l:List AV}{i:Nat},(r,av)∈JM i l->∃j,r= .b (i+j)/\l[j]?=some av
 |[],_,h=>by cases h
 |x::l,i,h=>by
  rcases ZB7.1 h with h |h
  ·cases h;exact⟨0,rfl,by simp⟩
  ·obtain⟨j,hj,hl⟩:=TN h
   exact⟨j+1,by rw [hj];congr 1;omega,by simpa using hl⟩
def TO:∀{l:List AV}{i j:Nat}{av:AV},l[j]?=some av->(.b (i+j),av)∈JM i l
 |[],_,j,av,h=>by simp at h
 |x::l,i,0,av,h=>by simp at h;subst h;simp [JM]
 |x::l,i,j+1,av,h=>by
  have:=TO (i:=i+1) (j:=j) (l:=l) (av:=av) (by simpa using h)
  simp only [JM,ZB7]
  right
  have e:i+1+j=i+(j+1):=by omega
  rwa [e] at this
def ko {args bs:List AV}{r:gx}{av:AV}(h:entry args bs r=some av):(∃j,r= .s j/\args[j]?=some av)\/∃j,r= .b j/\bs[j]?=some av:=by
 unfold entry at h
 rcases St.FH (τ:=NG) (u:=aa3 0 args++JM 0 bs) (r:=r) with ⟨v,hv,hm⟩ |⟨hv,_⟩
 ·rw [h] at hv;cases hv
  rcases ZB5.1 hm with hm |hm
  ·obtain⟨j,hj,hl⟩:=TM hm;exact .inl ⟨j,by simpa using hj,hl⟩
  ·obtain⟨j,hj,hl⟩:=TN hm;exact .inr ⟨j,by simpa using hj,hl⟩
 ·rw [h] at hv;cases hv
def zW {args bs:List AV}{i:Nat}(h:i<bs.length):entry args bs (.b i)≠none:=by
 intro hn
 unfold entry at hn
 rcases St.FH (τ:=NG) (u:=aa3 0 args++JM 0 bs) (r:=.b i) with ⟨v,hv,_⟩ |⟨_,tV⟩
 ·rw [hn] at hv;cases hv
 ·refine tV (.b i,bs[i]) ?_ rfl
  refine List.mem_append_right _ ?_
  have:=TO (l:=bs) (i:=0) (j:=i) (ZB2 h)
  simpa using this
def cV:Nat->Nat->List Nat
 |_,0=>[]
 |i,n+1=>i::cV (i+1) n
def gM {j:Nat}:∀{n i:Nat},j∈cV i n↔i<=j/\j<i+n
 |0,i=>by simp [cV]<;>omega
 |n+1,i=>by simp only [cV,ZB7,gM (n:=n)];omega
theorem lV:∀(n i:Nat),(cV i n).length=n
 |0,_=>rfl
 |n+1,i=>by simp [cV,lV n]
def kG:∀(n i j:Nat),j<n->(cV i n)[j]?=some (i+j)
 |0,_,_,h=>by omega
 |n+1,i,0,_=>by simp [cV]
 |n+1,i,j+1,h=>by
  simp only [cV,List.getElem?_cons_succ]
  rw [kG n (i+1) j (by omega)]
  congr 1;omega
def isLive (τ:St) (i:Nat):Bool:=match τ (.b i) with
 |none=>false
 |some .zz=>false
 |some _=>true
def wi {τ:St}{i:Nat}:isLive τ i=true↔live τ i:=by
 unfold isLive live
 cases τ (.b i) with
 |none=>simp
 |some av=>cases av<;>simp
def idxOf:List Nat->Nat->Nat
 |[],_=>0
 |x::l,i=>bif Nat.beq x i then 0 else idxOf l i+1
def uK:∀{l:List Nat}{i:Nat},i∈l->l[idxOf l i]?=some i/\idxOf l i<l.length
 |[],_,h=>by cases h
 |x::l,i,h=>by
  simp only [idxOf]
  cases hb:Nat.beq x i with
  |true=>
   have:x=i:=by simpa using hb
   subst this;simp
  |false=>
   have ft:x≠i:=by intro e;subst e;simp at hb
   have hm:i∈l:=by
    rcases ZB7.1 h with e |h
    ·exact absurd e.symm ft
    ·exact h
   have h:=uK hm
   exact⟨by simpa using h.1,by simpa using h.2⟩
def ah3 (τ:St) (own:List Nat) (i:Nat):Option (Prop×AV):=
 match τ (.b i) with
 |some (.o (.a l))=>match A2 τ own l with
  |some (p,m)=>some (p,.o (.a m))
  |none=>none
 |some (.rs ek l)=>some (True,.rs ek l)
 |_=>some (True,.zz)
def amj (τ:St) (own gone:List Nat) (i:Nat):Option (Prop×AV):=bif jo gone i then some (True,.zz) else ah3 τ own i
def ah4 (V:Nat->Option (Prop×AV)) (g:Nat->Nat):List Nat->Option (Prop×List AV)
 |[]=>some (True,[])
 |i::l=>match V i,ah4 V g l with
  |some (p,x),some (q,m)=>some (p/\q,x.mJ g::m)
  |_,_=>none
def nodupB:List Nat->Bool
 |[]=>true
 |i::l=> !(jo l i)&&nodupB l
def M0 (τ:St) (k:Nat) (ex dr:List Nat):List Nat:=(cV 0 k).filter (λi=>isLive τ i&& !(jo dr i))++ex
def nameOut (k:Nat) (ex:List Nat) (i:Nat):Nat:=bif jo ex i then k+idxOf ex i else i
def alL (τ:St) (k:Nat) (mv:Bool) (i:Nat):Bool:=isLive τ i&&(mv||(Nat.ble 1000 i&&(Nat.blt i 1000000000||(cV 0 k).all (isLive τ))))
def am3 (sh:TypeId->Option (Bool×Nat)) (τ:St) (rs:List ResultVar) (k:Nat) (mv:Bool) (ex dr:List Nat):Option (Prop×AV×List AV):=
 match ak0 sh τ rs with
 |none=>none
 |some r0=>match A3 τ (M0 τ k ex dr) r0,ah4 (amj τ (M0 τ k ex dr) (ex++dr)) (nameOut k ex) (cV 0 k),ah4 (ah3 τ (M0 τ k ex dr)) (nameOut k ex) ex with
  |some (p,r),some (q,os),some (q',os')=>bif (ex.all (alL τ k mv))&&(nodupB ex&&Nat.ble k 1000) then some ((p/\q)/\q',r.mJ (nameOut k ex),os++os') else none
  |_,_,_=>none
def endQ (sh:TypeId->Option (Bool×Nat)) (rs:List ResultVar) (k:Nat) (mv:Bool) (post:AV->List AV->Prop):va:=λe τ=>
 match e with
 |.normal |.ret=>∃ex dr p r os,am3 sh τ rs k mv ex dr=some (p,r,os)/\p/\post r os
 |_=>False
theorem vT:∀{l:List Nat},nodupB l=true->∀(i j:Nat) (x:Nat),l[i]?=some x->l[j]?=some x->i=j
 |[],_,i,j,x,h,_=>by simp at h
 |y::l,h,i,j,x,h1,h2=>by
  simp only [nodupB,ZB1,ZG6] at h
  have hn:y∉l:=λhm=>by rw [gn.2 hm] at h;exact absurd h.1 (by simp)
  cases i with
  |zero=>
   cases j with
   |zero=>rfl
   |succ j=>
    simp at h1 h2;subst h1
    exact absurd (ZB8 h2) hn
  |succ i=>
   cases j with
   |zero=>
    simp at h1 h2;subst h2
    exact absurd (ZB8 h1) hn
   |succ j=>
    simp at h1 h2
    rw [vT h.2 i j x h1 h2]
section
variable {N:Nat}{c:Ctx}{T:a8}{β:Nat->Nat}{τ:St}{a:Act}{w:World}{own:List Nat}
def DZ (hh:Holds N c T β τ a w) (fq:∀i∈own,τ (.b i)≠none->live τ i) {i:Nat}{p:Prop}{x:AV}(h:ah3 τ own i=some (p,x)) (hp:p) (hz:x≠.zz):
  ∃cs e,w.heap[β i]?=some (.cells cs e (0,0))/\x.tW (uQ T β τ c.W w own) β cs/\((∀j∈x.boxes,j∈own)/\x.pQ=true)/\live τ i:=by
 unfold ah3 at h
 split at h
 ·rename_i l hb
  split at h
  ·rename_i p1 m hs
   cases h
   obtain⟨cs,e,h1,h2⟩:=hh.boxes i _ hb (by intro e;cases e)
   have:=A1 hh fq hs hp (λj hj=>hh.named (.b i) _ hb j hj) h2
   exact⟨cs,e,h1,this.1,⟨this.2,xA hs⟩,fg hb (by intro e;cases e)⟩
  ·cases h
 ·rename_i ek l hb
  cases h
  obtain⟨cs,e,h1,h2⟩:=hh.boxes i _ hb (by intro e;cases e)
  exact⟨cs,e,h1,h2,⟨by simp [AV.boxes],rfl⟩,fg hb (by intro e;cases e)⟩
 ·cases h;exact absurd rfl hz
def U4 {V:Nat->Option (Prop×AV)}{g:Nat->Nat}:∀{l:List Nat}{p:Prop}{os:List AV},ah4 V g l=some (p,os)->p->os.length=l.length/\∀(j:Nat) (av:AV),os[j]?=some av->∃(i:Nat) (x:AV) (q:Prop),l[j]?=some i/\V i=some (q,x)/\q/\av=x.mJ g
 |[],p,os,h,_=>by cases h;exact⟨rfl,by simp⟩
 |i::l,p,os,h,hp=>by
  simp only [ah4] at h
  split at h
  ·rename_i p1 x q1 m h1 h2
   cases h
   obtain⟨hl,AH⟩:=U4 h2 hp.2
   refine⟨by simp [hl],λj av hj=>?_⟩
   cases j with
   |zero=>simp at hj;exact⟨i,x,p1,by simp,h1,hp.1,hj.symm⟩
   |succ j=>simpa using AH j av (by simpa using hj)
  ·cases h
def KH {g:Nat->Nat}{x:AV}(h:x.mJ g≠.zz):x≠.zz:=λe=>h (by subst e;rfl)
def alM {W:World}(h:WT T w):WT (uQ T β τ W w own) w:=by
 intro b k hb
 unfold uQ at hb
 split at hb
 ·rename_i n hT
  have hn:=h b _ hT
  split at hb
  ·split at hb
   ·rename_i cs e fr hc;cases hb;exact hc
   ·cases hb;exact hn
  ·cases hb;exact hn
 ·obtain⟨k',hk',rfl⟩:=Option.map_eq_some_iff.1 hb
  have hk:=h b _ hk'
  cases k' with
  |ty ek n=>exact hk
  |ro cs e fr=>exact hk
  |ln cs e fr=>exact hk
  |fz ek n cs=>obtain⟨h1,e,fr,l,h2⟩:=hk;exact⟨h1,cs,e,fr,l,h2⟩
  |bx n=>exact hk
def ag1 {W:World}(hg:adG T):pY (uQ T β τ W w own):=by
 refine⟨?_,λg hm=>by obtain⟨cs,e,fr,h1,h2⟩:=hg g hm;exact⟨cs,e,fr,aeY h1,h2⟩⟩
 intro b ek n cs hb
 unfold uQ at hb
 split at hb
 ·split at hb
  ·split at hb<;>cases hb
  ·cases hb
 ·obtain⟨k',_,hk⟩:=Option.map_eq_some_iff.1 hb
  cases k'<;>cases hk
end
theorem wv {P:Program}{N:Nat}{sh:TypeId->Option (Bool×Nat)}(hsh:∀t x,sh t=some x->Sh P t=some x) {fn:Func}{args bs:List AV}{mv:Bool}{post:AV->List AV->Prop}{W:World}{T0:a8}{β0:Nat->Nat}(hnf:pY T0) (ard:bs.length<=1000)
  {τ:St} {a:Act} {w:World} (hr:Rel N ⟨W,T0,(cV 0 bs.length).map β0⟩ τ a w) (h:∃ex dr p r os,am3 sh τ fn.results.toList bs.length mv ex dr=some (p,r,os)/\p/\post r os):
  ∃v,(results fn a.tmps).run P w= .ok v w/\∃r os T' β',post r os/\r.rel T' β' v/\((∀i∈r.boxes,i<os.length)/\r.pQ=true)/\afi W T0 β0 bs.length T' w/\FN W bs.length mv β0 T' β' w os:=by
 obtain⟨T,β,hh⟩:=hr
 obtain⟨ex,dr,p,r,os,hX,hp,ao3⟩:=h
 unfold am3 at hX
 split at hX
 ·cases hX
 ·rename_i r0 hr0
  split at hX
  ·rename_i p1 r1 q1 os1 q2 os2 hs ho1 ho2
   cases hc:(ex.all (alL τ bs.length mv))&&(nodupB ex&&Nat.ble bs.length 1000) with
   |false=>rw [hc] at hX;cases hX
   |true=>
    rw [hc] at hX;cases hX
    simp only [ZB1] at hc
    obtain⟨hex,hnd,_⟩:=hc
    have amy:∀i,i<bs.length->live τ i->β i=β0 i:=λi hi hl=>hh.handed i (β0 i) (by
     show ((cV 0 bs.length).map β0)[i]?=_
     rw [ZG7,kG _ _ _ hi];simp) hl
    have anH:∀b,b∈(cV 0 bs.length).map β0->∃j,j<bs.length/\b=β0 j:=λb hm=>by
     obtain⟨j,hj,e⟩:=List.mem_map.1 hm
     exact⟨j,by have:=gM.1 hj;omega,e.symm⟩
    have api:∀i∈ex,live τ i:=by
     intro i hi
     have:=ZD3.1 hex i hi
     unfold alL at this
     simp only [ZB1] at this
     exact wi.1 this.1
    have are:∀i∈ex,W.heap.size<=β i\/(mv=true/\∃j,j<bs.length/\β i=β0 j):=by
     intro i hi
     have hl:=api i hi
     have:=ZD3.1 hex i hi
     unfold alL at this
     simp only [ZB1,Bool.or_eq_true] at this
     obtain⟨_,g1,g2,g3⟩:=hh.apart i hl
     rcases this.2 with hm |⟨h1,h2⟩
     ·rcases g3 with g3 |g3
      ·exact .inl g3
      ·exact .inr ⟨hm,anH _ g3⟩
     ·have h1':1000<=i:=zqNlb h1
      rcases h2 with h2 |h2
      ·exact .inl (g2 h1' (zqNlb h2))
      ·rcases g3 with g3 |g3
       ·exact .inl g3
       ·exfalso
        obtain⟨j,hj,e⟩:=anH _ g3
        have hlj:=wi.1 (ZD3.1 h2 j (gM.2 ⟨by omega,by omega⟩))
        rw [<-amy j hj hlj] at e
        have:=hh.inj i j hl hlj e
        omega
    obtain⟨v,hv,hvr⟩:=ahL hsh hh hr0
    have amx:∀i∈M0 τ bs.length ex dr,(i∈ex\/(i∉ex/\i<bs.length))/\live τ i:=by
     intro i hi
     by_cases hm:i∈ex
     ·exact⟨.inl hm,api i hm⟩
     ·rcases ZB5.1 hi with hi |hi
      ·have h1:=ZG1.1 hi
       simp only [ZB1] at h1
       exact⟨.inr ⟨hm,by have:=gM.1 h1.1;omega⟩,wi.1 h1.2.1⟩
      ·exact absurd hi hm
    have fq:∀i∈M0 τ bs.length ex dr,τ (.b i)≠none->live τ i:=λi hi _=>(amx i hi).2
    have aqV:∀i∈r0.boxes,τ (.b i)≠none:=by
     have k1:∀{x:ResultVar} {y:A0},abT sh τ x=some y->∀i∈y.boxes,τ (.b i)≠none:=by
      intro x y hy i hi
      cases x with
      |tmp t=>
       simp only [abT] at hy
       split at hy
       ·rename_i z hz;cases hy;exact hh.named (.s t) _ hz i hi
       ·cases hy
      |cell ad ty=>
       simp only [abT] at hy
       split at hy
       ·rename_i b _
        split at hy
        ·rename_i l hl
         split at hy
         ·rename_i n _
          cases hq:Nat.beq n l.length with
          |false=>rw [hq] at hy;cases hy
          |true=>rw [hq] at hy;cases hy;exact hh.named (.b b) _ hl i hi
         ·split at hy
          ·cases hy
           exact hh.named (.b b) _ hl i (by simpa [AV.boxes,A0.boxes,ct] using hi)
          ·cases hy
         ·cases hy
        ·cases hy
       ·cases hy
     have k2:∀{l:List ResultVar} {ys:List A0},UQ sh τ l=some ys->∀i∈fD ys,τ (.b i)≠none:=by
      intro l
      induction l with
      |nil=>intro ys h i hi;simp only [UQ] at h;cases h;simp [fD] at hi
      |cons x l ih=>
       intro ys h i hi
       simp only [UQ] at h
       split at h
       ·rename_i y ys' h1 h2
        cases h
        simp only [fD,ZB5] at hi
        rcases hi with hi |hi
        ·exact k1 h1 i hi
        ·exact ih h2 i hi
       ·cases h
     unfold ak0 at hr0
     split at hr0
     ·rename_i x hx
      cases hr0
      intro i hi
      exact k2 hx i (by simp only [fD,ZD4];exact hi)
     ·rename_i ys _ hx;cases hr0;exact k2 hx
     ·cases hr0
    obtain⟨cB,hrb⟩:=abB hh fq hs hp.1.1 aqV hvr
    obtain⟨ajo,arn⟩:=U4 ho1 hp.1.2
    obtain⟨ajm,arl⟩:=U4 ho2 hp.2
    rw [lV] at ajo
    have hlen:(os1++os2).length=bs.length+ex.length:=by rw [ZA0,ajo,ajm]
    let β':Nat->Nat:=λj=>if j<bs.length then β0 j else match ex[j-bs.length]? with
     |some i=>β i
     |none=>0
    have hβex:∀j i,ex[j]?=some i->β' (bs.length+j)=β i:=λj i hj=>by
     show (if bs.length+j<bs.length then _ else _)=_
     rw [if_neg (by omega),ZG8,hj]
    have hβin:∀j,j<bs.length->live τ j->β' j=β j:=λj hj hl=>by
     show (if j<bs.length then _ else _)=_
     rw [if_pos hj]
     exact (amy j hj hl).symm
    have hg:∀i∈M0 τ bs.length ex dr,β' (nameOut bs.length ex i)=β i/\nameOut bs.length ex i<(os1++os2).length:=λi hi=>by
     unfold nameOut
     obtain⟨h1,h2⟩:=amx i hi
     rcases h1 with h1 |⟨h1,h3⟩
     ·rw [gn.2 h1]
      have h4:=uK h1
      exact⟨hβex _ _ h4.1,by rw [hlen];show bs.length+_<_;omega⟩
     ·have:jo ex i=false:=by
       cases hm:jo ex i with
       |false=>rfl
       |true=>exact absurd (gn.1 hm) h1
      rw [this]
      exact⟨hβin i h3 h2,by rw [hlen];show i<_;omega⟩
    have qw:∀j av,(os1++os2)[j]?=some av->av≠.zz->∃(i:Nat) (x:AV) (q:Prop),ah3 τ (M0 τ bs.length ex dr) i=some (q,x)/\q/\av=x.mJ (nameOut bs.length ex)/\((j<bs.length/\i=j/\i∉ex/\i∈M0 τ bs.length ex dr)\/(bs.length<=j/\ex[j-bs.length]?=some i)):=by
     intro j av hj hz
     by_cases hjk:j<bs.length
     ·rw [ZC3 (by omega)] at hj
      obtain⟨i,x,q,h1,h2,h3,h4⟩:=arn j av hj
      rw [kG _ _ _ hjk] at h1
      simp only [ZA6,Option.some.injEq] at h1
      subst h1
      unfold amj at h2
      cases hm:jo (ex++dr) j with
      |true=>rw [hm] at h2;cases h2;exact absurd (by rw [h4];rfl) hz
      |false=>
       rw [hm] at h2
       have hnm:∀l,l=ex\/l=dr->j∉l:=λl hl cF=>by
        have:j∈ex++dr:=by
         rcases hl with rfl |rfl
         ·exact List.mem_append_left _ cF
         ·exact List.mem_append_right _ cF
        rw [gn.2 this] at hm;cases hm
       have hx0:x≠.zz:=λe=>hz (by rw [h4,e];rfl)
       obtain⟨_,_,_,_,_,hl⟩:=DZ hh fq h2 h3 hx0
       refine⟨j,x,q,h2,h3,h4,.inl ⟨hjk,ζ,hnm ex (.inl rfl),?_⟩⟩
       refine List.mem_append_left _ (ZG1.2 ⟨gM.2 ⟨by omega,by omega⟩,?_⟩)
       have:jo dr j=false:=by
        cases hm2:jo dr j with
        |false=>rfl
        |true=>exact absurd (gn.1 hm2) (hnm dr (.inr rfl))
       rw [wi.2 hl,this];rfl
     ·rw [ZD2 (by omega),ajo] at hj
      obtain⟨i,x,q,h1,h2,h3,h4⟩:=arl _ av hj
      exact⟨i,x,q,h2,h3,h4,.inr ⟨by omega,h1⟩⟩
    refine⟨v,hv,_,os1++os2,uQ T β τ W w (M0 τ bs.length ex dr),β',ao3,AV.oR (λi hi=>(hg i (hrb i hi)).1) cB,⟨λi hi=>?_,by rw [AV.pP];exact X7 hs⟩,?_,?_⟩
    ·obtain⟨j,hj,rfl⟩:=AV.ig hi
     exact (hg j (hrb j hj)).2
    ·exact {
      typed:=alM hh.typed
      ala:=ag1 hh.pO
      new:=λb hb=>by
       have h1:(T b).map BK.un=T0 b:=hh.old b hb
       unfold uQ
       split
       ·rename_i n hT
        rw [if_neg (λh=>by have:=h.1;omega)]
        rw [hT] at h1;exact h1
       ·exact h1
      frame:=λb hb ft hq=>hh.frame b hb (λhm=>by
       obtain⟨i,hi,e⟩:=anH b hm
       exact ft i hi e) hq
      gS:=hh.gS
      os:=hh.os
      tape:=hh.tape
      output:=hh.output }
    ·refine {
      len:=by rw [hlen];omega
      same:=λi hi=>if_pos hi
      at_:=λj av hj hz=>?_
      inj:=λj j' av av' hj hz HZ hz' e=>?_ }
     ·obtain⟨i,x,q,hx,hq,rfl,uN⟩:=qw j av hj hz
      obtain⟨cs,e,h1,h2,⟨h3,alC⟩,hl⟩:=DZ hh fq hx hq (KH hz)
      have eβ:β' j=β i:=by
       rcases uN with ⟨h4,rfl,_⟩ |⟨h4,h5⟩
       ·exact hβin _ h4 hl
       ·have:=hβex _ _ h5
        rwa [show bs.length+(j-bs.length)=j by omega] at this
      have CA:i∈M0 τ bs.length ex dr:=by
       rcases uN with ⟨_,_,_,h⟩ |⟨_,h⟩
       ·exact h
       ·exact List.mem_append_right _ (ZB8 h)
      obtain⟨⟨n,hn⟩,_⟩:=hh.apart i hl
      rw [eβ]
      refine⟨⟨n,aa6 hn CA hl⟩,λhk=>?_,⟨cs,e,h1,AV.K4 (λi hi=>(hg i (h3 i hi)).1) h2⟩,λy hy=>?_,by rw [AV.pP];exact alC⟩
      ·rcases uN with ⟨h4,_⟩ |⟨_,h5⟩
       ·omega
       ·exact are i (ZB8 h5)
      ·obtain⟨y',hy',rfl⟩:=AV.ig hy
       exact (hg y' (h3 y' hy')).2
     ·obtain⟨i,x,q,hx,hq,rfl,uN⟩:=qw j av hj hz
      obtain⟨i',x',q',hx',hq',rfl,ac3⟩:=qw j' av' HZ hz'
      obtain⟨_,_,_,_,_,hl⟩:=DZ hh fq hx hq (KH hz)
      obtain⟨_,_,_,_,_,hl'⟩:=DZ hh fq hx' hq' (KH hz')
      have eβ:∀(j i:Nat),live τ i->((j<bs.length/\i=j/\i∉ex/\i∈M0 τ bs.length ex dr)\/(bs.length<=j/\ex[j-bs.length]?=some i))->β' j=β i:=by
       intro j i hl uN
       rcases uN with ⟨h4,rfl,_⟩ |⟨h4,h5⟩
       ·exact hβin _ h4 hl
       ·have:=hβex _ _ h5
        rwa [show bs.length+(j-bs.length)=j by omega] at this
      rw [eβ j i hl uN,eβ j' i' hl' ac3] at e
      have eii:=hh.inj i i' hl hl' e
      subst eii
      rcases uN with ⟨h1,h2,h3,_⟩ |⟨h1,h2⟩
      ·rcases ac3 with ⟨_,h5,_⟩ |⟨_,h5⟩
       ·omega
       ·exact absurd (ZB8 h5) h3
      ·rcases ac3 with ⟨_,_,h5,_⟩ |⟨h4,h5⟩
       ·exact absurd (ZB8 h2) h5
       ·have:=vT hnd _ _ _ h2 h5
        omega
  ·cases hX
theorem TC.D3 {P:Program}{N:Nat}{S:Sm}{sh:TypeId->Option (Bool×Nat)}{f:FuncId}{fn:Func}{cd:Code}{args bs:List AV}{mv:Bool}{post:AV->List AV->Prop}(hm:P.follows .mixedOrders=true) (hS:adF P N S) (hsh:∀t x,sh t=some x->Sh P t=some x)
  (hf:P.funcs[f]?=some fn) (hb:fn.body=some cd) (hN:fn.ntmps=N) (hlen:args.length<=N)
  (h:vc P N S cd (entry args bs) (endQ sh fn.results.toList bs.length mv post)):TC P f mv args bs post:=by
 intro W T β0 vs hT hnf cB wo rY
 refine calls_of_wp hf hb ?_
 have hvl:=MK cB
 let c:Ctx:=⟨W,T,(cV 0 bs.length).map β0⟩
 have hlb:∀i,live (entry args bs) i->i<bs.length:=λi hi=>by
  obtain⟨av,hav⟩:=Option.ne_none_iff_exists'.1 (lO hi)
  rcases ko hav with ⟨j,e,_⟩ |⟨j,e,hj⟩
  ·cases e
  ·cases e;exact (ZB9.1 hj).1
 have anM:Holds N c T β0 (entry args bs) { tmps:=vs.toArray++Array.replicate (fn.ntmps-vs.toArray.size) undef,defers:=[] } W:= {
  defs:=rfl
  size:=by simp;omega
  JK:=by show ((cV 0 bs.length).map β0).length<=1000;rw [ZH3,lV];exact rY.JK
  jD:=λi av hi=>by
   rcases ko hi with ⟨j,e,hj⟩ |⟨j,e,_⟩
   ·cases e
    obtain⟨v,hv,hr⟩:=UR cB hj
    refine⟨v,?_,hr⟩
    have H0:i<vs.length:=(ZB9.1 hv).1
    rw [Array.getElem?_append_left (by simpa using H0)]
    simpa using hv
   ·cases e
  boxes:=λi av hi hz=>by
   rcases ko hi with ⟨j,e,_⟩ |⟨j,e,hj⟩
   ·cases e
   ·cases e;exact (rY.at_ i av hj).2.2.1
  apart:=λi hi=>by
   have bR:=hlb i hi
   obtain⟨_,h1,_⟩:=rY.at_ i _ (ZB2 bR)
   have cF:β0 i∈(cV 0 bs.length).map β0:=List.mem_map.2 ⟨i,gM.2 ⟨by omega,by omega⟩,rfl⟩
   exact⟨h1,λ_=>cF,λh=>absurd rY.JK (by omega),.inr cF⟩
  handed:=λi b hb hi=>by
   have bR:=hlb i hi
   have J6:((cV 0 bs.length).map β0)[i]?=some b:=hb
   rw [ZG7,kG _ _ _ bR] at J6
   simpa using J6
  inj:=λi j hi hj e=>rY.inj i j (hlb i hi) (hlb j hj) e
  named:=λr av hr i hi=>by
   rcases ko hr with ⟨j,rfl,hj⟩ |⟨j,rfl,hj⟩
   ·exact zW (wo av (ZB8 hj) i hi)
   ·exact zW ((rY.at_ j av hj).2.2.2 i hi)
  typed:=hT
  old:=λb hb=>by
   show (T b).map BK.un=T b
   cases hk:T b with
   |none=>rfl
   |some k=>
    cases k with
    |fz ek n cs=>exact absurd hk (hnf.no b ek n cs)
    |_=>rfl
  frame:=λ_ _ _ _=>rfl
  gS:=ZB0 _
  os:=rfl
  tape:=rfl
  output:=rfl
  pO:=hnf.pO }
 refine Code.wp_mono ?_ (iQ hm hS cd _ _ h c _ W ⟨T,_,anM⟩)
 rintro e a w ⟨τ,hr,hq⟩
 have hd:a.defers=[]:=by obtain⟨_,_,hh⟩:=hr;exact hh.defs
 cases e with
 |normal=>
  obtain⟨v,hv,r,os,T',β',h1⟩:=wv (args:=args) hsh hnf rY.JK hr hq
  exact⟨hd,v,hv,v,r,os,T',β',rfl,h1⟩
 |ret=>
  obtain⟨v,hv,r,os,T',β',h1⟩:=wv (args:=args) hsh hnf rY.JK hr hq
  exact⟨hd,v,hv,v,r,os,T',β',rfl,h1⟩
 |_=>exact hq.elim
