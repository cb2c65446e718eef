/- FnTreeOk returns true for every code (its row lists package variables, tied by the card): part 11. -/
import Derived.Test.YtbfgjadbfjkcdaaGreatDoorProg
import Derived.Test.YtbfgjadbfjkcdaaGreatDoorPaj
set_option maxHeartbeats 20000000
set_option linter.all false
namespace Go.Proofs.YtbfgjadbfjkcdaaGreatDoor
namespace GL
inductive Kd where
 |str
 |bool
 |int (k:IntKind)
 |slice (ek:EK) (jd:Nat)
 |bytes (jd:Nat)
 |ints (n:Nat)
 |other
 |iface
 |arr (jd:Nat)
structure TI where
 agg:Bool
 size:Nat
 kd:Kd
 zero:List Value
 acm:List (Nat×Bool×Nat)
 places:List (Nat×Nat)
def isIface (P:Program) (t:TypeId):Bool:=match P.underlying t with
 |some (.interface _)=>true
 |_=>false
theorem XU {P:Program}{t:TypeId}(h:isIface P t=true):∃ms,P.underlying t=some (.interface ms):=by
 unfold isIface at h
 split at h
 ·rename_i ms e;exact⟨ms,e⟩
 ·cases h
def ako (P:Program) (t:TypeId):Kd→Prop
 |.str=>P.underlying t=some .string
 |.bool=>P.underlying t=some .bool
 |.int k=>P.underlying t=some (.int k)
 |.slice ek jd=>Fits P t ek jd
 |.bytes jd=>Fits P t kL jd∧∃e,P.underlying t=some (.slice e)∧P.underlying e=some (.int .u8)
 |.ints n=>aiP P t n
 |.other=>True
 |.iface=>isIface P t=true
 |.arr jd=>Arr P t jd
structure TIok (P:Program) (t:TypeId) (i:TI):Prop where
 sh:Sh P t=some (i.agg,i.size)
 zero:zeroOf P t=some i.zero
 acm:∀(f:Nat) (x:Nat×Bool×Nat),i.acm[f]?=some x→kt P t f=some x
 places:i.places=[]∨afB P t=some (i.places,i.zero)
 kd:ako P t i.kd
structure Env where
 N:Nat
 tab:TypeId→Option TI
 rZ:FuncId→Option Con
 exact:Nat→Bool:=fun _=>true
 wr:Nat→Bool:=fun _=>false
 part:Nat→Bool:=fun _=>false
structure A4 (P:Program) (E:Env):Prop where
 tab:∀t i,E.tab t=some i→TIok P t i
 rZ:∀f c,E.rZ f=some c→wx P f c∧Enters P f
def mX:Q Rs:=.ret .no
def iK (N:Nat) (o:Option Nat) (k:Nat→Q Rs):Q Rs:=
 match o with
 |some d=>bif Nat.blt d N then k d else mX
 |none=>mX
def mA (E:Env) (t:TypeId) (k:TI→Q Rs):Q Rs:=
 match E.tab t with
 |some i=>k i
 |none=>mX
def agB:Kd→Option EK
 |.slice ek _=>some ek
 |.bytes _=>some kL
 |_=>none
def Y1 (E:Env) (t:TypeId) (k:EK→Q Rs):Q Rs:=mA E t fun i=>match agB i.kd with
 |some ek=>k ek
 |none=>mX
def Y9 (E:Env) (d:Nat) (c:Call):Q Rs:=
 match c with
 |⟨.value (.func f),args,_⟩=>afy E.rZ (E.part d) d f args.toList
 |⟨.value (.tmp k),args,_⟩=>cb (.tmp k) fun v=>afw E.rZ (E.part d) d args.toList v
 |⟨.builtin .len,⟨[x]⟩,⟨[t]⟩⟩=>mA E t fun i=>match i.kd with
  |.str=>cb x fun v=>.ret ((TM true v).rs d)
  |.slice _ _=>cb x fun v=>.ret ((TM false v).rs d)
  |.bytes _=>cb x fun v=>.ret ((TM false v).rs d)
  |.arr _=>cb x fun v=>.ret ((TM false v).rs d)
  |_=>mX
 |⟨.builtin .append,⟨[x,y]⟩,⟨[t,t']⟩⟩=>bif Nat.beq t t' then Y1 E t fun ek=>bif E.exact d then cb x fun v=>cb y fun u=>aiI (E.part d) d ek v u else cb x fun v=>cb y fun u=>aiJ (E.part d) d ek v u else mX
 |⟨.builtin .max,⟨[x,y]⟩,_⟩=>cb x fun v=>cb y fun u=>.ret ((mmV true v u).rs d)
 |⟨.builtin .min,⟨[x,y]⟩,_⟩=>cb x fun v=>cb y fun u=>.ret ((mmV false v u).rs d)
 |_=>mX
def stp (E:Env) (o:Oper):Q Rs:=
 match o.op with
 |.move x=>iK E.N o.dst fun d=>cb x fun v=>.ret ((V1.go v).rs d)
 |.assign x=>iK E.N o.dst fun d=>cb x fun v=>.ret ((V1.go v).rs d)
 |.pick z x y=>iK E.N o.dst fun d=>cb z fun v=>cb x fun u=>cb y fun s=>.ret ((ac8 v u s).rs d)
 |.alloc t=>iK E.N o.dst fun d=>mA E t fun i=>YX d (uM i.zero)
 |.box _ x=>iK E.N o.dst fun d=>cb x fun v=>aiq d v
 |.build t parts=>iK E.N o.dst fun d=>mA E t fun i=>match i.places with
  |[]=>mX
  |p::l=>QG parts.toList fun vs=>.ret ((YR (p::l) i.zero vs).rs d)
 |.buildSlice t k parts=>iK E.N o.dst fun d=>mA E t fun i=>match i.kd with
  |.arr _=>QG parts.toList fun vs=>afD d k vs
  |kd=>match agB kd with
   |some ek=>QG parts.toList fun vs=>QE (E.exact d) d k ek vs
   |none=>mX
 |.load t x=>iK E.N o.dst fun d=>mA E t fun i=>cb x fun v=>adU i.agg i.size d v
 |.store t x y=>match o.dst with
  |none=>mA E t fun i=>cb x fun v=>cb y fun u=>VF i.size v u
  |some _=>mX
 |.nilCheck x=>iK E.N o.dst fun d=>cb x fun v=>.ret ((ahT v).rs d)
 |.binOp op t x y _=>iK E.N o.dst fun d=>mA E t fun i=>match i.kd with
  |.bool=>cb x fun v=>cb y fun u=>.ret ((ais op v u).rs d)
  |.ints n=>cb x fun v=>cb y fun u=>.ret ((ahB n op v u).rs d)
  |.slice _ _=>match y with
   |.const (.slice none 0 0)=>cb x fun v=>ahU op d v
   |_=>mX
  |.iface=>match y with
   |.const .nilIface=>cb x fun v=>.ret ((aik op v).rs d)
   |_=>mX
  |_=>cb x fun v=>cb y fun u=>.ret ((air (E.wr d) op v u).rs d)
 |.unOp .not _ x=>iK E.N o.dst fun d=>cb x fun v=>.ret ((ahR v).rs d)
 |.unOp .neg _ x=>iK E.N o.dst fun d=>cb x fun v=>.ret ((ahW v).rs d)
 |.convert t u x=>iK E.N o.dst fun d=>mA E t fun i=>mA E u fun j=>match i.kd,j.kd with
  |.bytes _,.str=>cb x fun v=>acK (E.part d) d v
  |.bytes _,.bytes _=>bif Nat.beq t u then cb x fun v=>.ret ((acQ v).rs d) else mX
  |_,.int k=>cb x fun v=>.ret ((afn k v).rs d)
  |_,_=>mX
 |.makeSlice t x y=>iK E.N o.dst fun d=>Y1 E t fun ek=>cb x fun v=>cb y fun u=>adT (E.exact d) d ek v u
 |.slice t x l h none=>iK E.N o.dst fun d=>mA E t fun i=>match i.kd with
  |.str=>cb x fun v=>qL l fun l'=>qL h fun h'=>.ret ((YJ true 0 v l' h').rs d)
  |.slice ek _=>cb x fun v=>qL l fun l'=>qL h fun h'=>.ret ((YJ false ek.length v l' h').rs d)
  |.bytes _=>cb x fun v=>qL l fun l'=>qL h fun h'=>.ret ((YJ false 1 v l' h').rs d)
  |_=>mX
 |.slice t x l h (some m)=>iK E.N o.dst fun d=>mA E t fun i=>match i.kd with
  |.slice ek _=>cb x fun v=>qL l fun l'=>qL h fun h'=>qL (some m) fun m'=>.ret ((afm ek.length v l' h' m').rs d)
  |_=>mX
 |.makeFunc (.func f) ⟨[]⟩ DH=>iK E.N o.dst fun d=>YU DH.toList fun gh=>.ret (fnR d f gh)
 |.fieldAddr t x f=>iK E.N o.dst fun d=>mA E t fun i=>match i.acm[f]? with
  |some (off,_,_)=>cb x fun v=>.ret ((YB off v).rs d)
  |none=>mX
 |.field t x f=>iK E.N o.dst fun d=>mA E t fun i=>match i.acm[f]? with
  |some (off,b,n)=>cb x fun v=>.ret ((X2 off b n v).rs d)
  |none=>mX
 |.indexAddr t x y=>iK E.N o.dst fun d=>mA E t fun i=>match i.kd with
  |.arr _=>cb x fun v=>cb y fun u=>.ret ((PZ 1 v u).rs d)
  |kd=>match agB kd with
   |some ek=>cb x fun v=>cb y fun u=>.ret ((PZ ek.length v u).rs d)
   |none=>mX
 |.index t x y=>iK E.N o.dst fun d=>mA E t fun i=>match i.kd with
  |.str=>cb x fun v=>cb y fun u=>.ret ((XV v u).rs d)
  |_=>mX
 |.extract x i=>iK E.N o.dst fun d=>cb x fun v=>.ret ((JU i v).rs d)
 |.call c=>iK E.N o.dst fun d=>Y9 E d c
 |_=>mX
section
variable {P:Program}
theorem eh {N:Nat}{o:Oper}:fw P N o mX:=fun _ _ _ _ _ hp=>hp.elim
theorem dp {N:Nat}{o:Oper}{k:Nat→Q Rs}(h:∀d,o.dst=some d→d<N→fw P N o (k d)):fw P N o (iK N o.dst k):=by
 unfold iK
 split
 ·rename_i d hd
  cases hb:Nat.blt d N with
  |false=>exact eh
  |true=>exact h d hd (mo.1 hb)
 ·exact eh
theorem fx {E:Env}(hE:A4 P E) {o:Oper}{t:TypeId}{k:TI→Q Rs}(h:∀i,TIok P t i→fw P E.N o (k i)):fw P E.N o (mA E t k):=by
 unfold mA
 split
 ·rename_i i hi;exact h i (hE.tab t i hi)
 ·exact eh
theorem QP {E:Env}(hE:A4 P E) {o:Oper}{t:TypeId}{k:EK→Q Rs}(h:∀ek jd,Fits P t ek jd→fw P E.N o (k ek)):fw P E.N o (Y1 E t k):=by
 unfold Y1
 refine fx hE fun i hi=>?_
 have hk:=hi.kd
 cases hkd:i.kd with
 |slice ek jd=>rw [hkd] at hk;exact h ek jd hk
 |bytes jd=>rw [hkd] at hk;exact h kL jd hk.1
 |_=>exact eh
theorem aaA {t:TypeId}{kd:Kd}(hk:ako P t kd) {ek:EK}(h:agB kd=some ek):∃jd,Fits P t ek jd:=by
 cases kd with
 |slice mE jd=>cases h;exact⟨jd,hk⟩
 |bytes jd=>cases h;exact⟨jd,hk.1⟩
 |_=>cases h
theorem ahx {E:Env}(hE:A4 P E) (o:Oper):fw P E.N o (stp E o):=by
 obtain⟨dst,op,ty,pos,af,g⟩:=o
 unfold stp
 cases op
 case move x=>exact dp fun d hd hN=>by cases hd;exact aiw hN
 case assign x=>exact dp fun d hd hN=>by cases hd;exact afH hN
 case pick z x y=>exact dp fun d hd hN=>by cases hd;exact aiv hN
 case alloc t=>exact dp fun d hd hN=>fx hE fun i hi=>by cases hd;exact agM hi.zero hN
 case box t x=>exact dp fun d hd hN=>by cases hd;exact akl hN
 case build t parts=>
  refine dp fun d hd hN=>fx hE fun i hi=>?_
  cases hd
  split
  ·exact eh
  ·rename_i p l rY
   rcases hi.places with h |h
   ·rw [rY] at h;cases h
   ·rw [rY] at h;exact agL h hN
 case buildSlice t k parts=>
  refine dp fun d hd hN=>fx hE fun i hi=>?_
  cases hd
  have hk:=hi.kd
  split
  ·rename_i jd h;rw [h] at hk;exact aiF hk hN
  ·split
   ·rename_i ek h
    obtain⟨jd,hf⟩:=aaA hk h
    exact afG hf hN
   ·exact eh
 case load t x=>exact dp fun d hd hN=>fx hE fun i hi=>by cases hd;exact aiy hi.sh hN
 case store t x y=>
  cases dst with
  |none=>exact fx hE fun i hi=>agG hi.sh
  |some _=>exact eh
 case nilCheck x=>exact dp fun d hd hN=>by cases hd;exact akf hN
 case binOp op t x y t'=>
  refine dp fun d hd hN=>fx hE fun i hi=>?_
  cases hd
  have hk:=hi.kd
  split
  ·rename_i h;rw [h] at hk;exact akn hk hN
  ·rename_i n h;rw [h] at hk;exact akd hk hN
  ·rename_i ek jd h
   rw [h] at hk
   obtain⟨e,i',z',ht,_⟩:=jZ hk.info
   split
   ·exact afE ht hN
   ·exact eh
  ·rename_i h
   rw [h] at hk
   obtain⟨ms,hm⟩:=XU hk
   split
   ·exact akk hm hN
   ·exact eh
  ·exact aiE hN
 case unOp u t x=>
  cases u
  case not=>exact dp fun d hd hN=>by cases hd;exact ake hN
  case neg=>exact dp fun d hd hN=>by cases hd;exact akg hN
  all_goals exact eh
 case convert t u x=>
  refine dp fun d hd hN=>fx hE fun i hi=>fx hE fun j hj=>?_
  cases hd
  have hk:=hi.kd
  have hl:=hj.kd
  split
  ·rename_i h1 h2
   rw [h1] at hk;rw [h2] at hl
   obtain⟨_,e,g1,g2⟩:=hk
   exact ait g1 g2 hl hN
  ·rename_i h1 h2
   rw [h1] at hk
   obtain⟨_,e,g1,g2⟩:=hk
   cases hb:Nat.beq t u with
   |false=>exact eh
   |true=>
    have:t=u:=by simpa using hb
    subst this
    exact aiu g1 g2 hN
  ·rename_i k h2
   rw [h2] at hl
   have ajx:(P.underlying t).isSome=true:=by
    have:=hi.sh
    unfold Sh at this
    cases hu:P.underlying t with
    |none=>rw [hu] at this;simp at this
    |some _=>rfl
   exact aiC k ajx hl hN
  ·exact eh
 case makeSlice t x y=>exact dp fun d hd hN=>QP hE fun ek jd hf=>by cases hd;exact aix hf hN
 case slice t x l h m=>
  cases m with
  |some m=>
    refine dp fun d hd hN=>fx hE fun i hi=>?_
    cases hd
    have hk:=hi.kd
    split
    ·rename_i ek jd h1;rw [h1] at hk;exact aiB hk.sh hN
    ·exact eh
  |none=>
    refine dp fun d hd hN=>fx hE fun i hi=>?_
    cases hd
    have hk:=hi.kd
    split
    ·rename_i h1;rw [h1] at hk;exact aiA hk hN
    ·rename_i ek jd h1;rw [h1] at hk;exact afF hk.sh hN
    ·rename_i jd h1;rw [h1] at hk;exact afF hk.1.sh hN
    ·exact eh
 case fieldAddr t x f=>
  refine dp fun d hd hN=>fx hE fun i hi=>?_
  cases hd
  split
  ·rename_i off b n hf;exact agJ (hi.acm f _ hf) hN
  ·exact eh
 case field t x f=>
  refine dp fun d hd hN=>fx hE fun i hi=>?_
  cases hd
  split
  ·rename_i off b n hf;exact agI (hi.acm f _ hf) hN
  ·exact eh
 case makeFunc fn first DH=>
  obtain⟨l⟩:=first
  cases fn with
  |func f=>
   cases l with
   |nil=>exact dp fun d hd hN=>by cases hd;exact akh hN
   |cons _ _=>exact eh
  |_=>exact eh
 case indexAddr t x y=>
  refine dp fun d hd hN=>fx hE fun i hi=>?_
  cases hd
  have hk:=hi.kd
  split
  ·rename_i jd h;rw [h] at hk;exact aaN hk.sh hN
  ·split
   ·rename_i ek h
    obtain⟨jd,hf⟩:=aaA hk h
    exact aaN hf.sh hN
   ·exact eh
 case index t x y=>
  refine dp fun d hd hN=>fx hE fun i hi=>?_
  cases hd
  have hk:=hi.kd
  split
  ·rename_i h;rw [h] at hk;exact agH hk hN
  ·exact eh
 case extract x i=>exact dp fun d hd hN=>by cases hd;exact acy hN
 case call c=>
  refine dp fun d hd hN=>?_
  cases hd
  unfold Y9
  split
  ·exact aiD hE.rZ hN
  ·exact agK hE.rZ hN
  ·rename_i x t
   refine fx hE fun i hi=>?_
   ·have hk:=hi.kd
    split
    ·rename_i h;rw [h] at hk;exact aiz hk hN
    ·rename_i ek jd h;rw [h] at hk;exact YT hk.sh hN
    ·rename_i jd h;rw [h] at hk;exact YT hk.1.sh hN
    ·rename_i jd h;rw [h] at hk;exact YT hk.sh hN
    ·exact eh
  ·rename_i x y t t'
   cases hb:Nat.beq t t' with
   |false=>exact eh
   |true=>
    have:t=t':=by simpa using hb
    subst this
    refine QP hE fun ek jd hf=>?_
    cases E.exact d with
    |true=>exact aiG hf hN
    |false=>exact aiH hf hN
  ·exact akj hN
  ·exact aki hN
  ·exact eh
 all_goals exact eh
end
end GL
namespace GL
def Q.map {α β:Type 1}(f:α→β):Q α→Q β
 |.ret a=>.ret (f a)
 |.ask r k=>.ask r fun v=>(k v).map f
theorem Q.ZY {α β:Type 1}(f:α→β) (τ:St):∀q:Q α,(q.map f).run τ=f (q.run τ)
 |.ret _=>rfl
 |.ask r k=>Q.ZY f τ (k (τ r))
def brk (gs:List Nat):Rs→Rs
 |.go [(.s d,.o (.s (.q b)))]=>bif iz gs d then .br True b d else .go [(.s d,.o (.s (.q b)))]
 |.nk p [(.s d,.o (.s (.q b)))]=>bif iz gs d then .br p b d else .nk p [(.s d,.o (.s (.q b)))]
 |r=>r
def C4 (ops:Array Oper):List Oper→List Nat
 |[]=>[]
 |o::l=>match o.guard with
  |some (j,_)=>match ops[j]? with
   |some og=>match og.dst with
    |some g=>g::C4 ops l
    |none=>C4 ops l
   |none=>C4 ops l
  |none=>C4 ops l
def X1 (N:Nat) (ops:Array Oper) (o:Oper) (q:Q Rs):Q Rs:=
 match o.guard with
 |none=>q
 |some (j,want)=>match ops[j]?,o.dst with
  |some og,some d=>match og.dst with
   |some g=>.ask (.s g) fun
    |some (.o (.s (.v (.bool b))))=>bif (bif want then b else !b) then q else (bif Nat.blt d N then .ret (.go [(.s d,.s (.v undef))]) else mX)
    |some (.o (.s (.v (.tuple _))))=>bif Nat.blt d N then .ret (.go [(.s d,.s (.v undef))]) else mX
    |_=>mX
   |none=>mX
  |_,_=>mX
def DZ (E:Env):Sm:=fun ops o=>X1 E.N ops o ((stp E o).map (brk (C4 ops ops.toList)))
section
variable {P:Program}{N:Nat}
theorem Rel.swap {c:Ctx}{τ:St}{a:Act}{w:World}{d:Nat}{b:Bool}(h:Rel N c (τ.ap [(.s d,.s (.q b))]) a w):Rel N c (τ.ap [(.s d,.s (.v (.bool b)))]) a w:=by
 obtain⟨T,β,hh⟩:=h
 have hb:∀i,(τ.ap [(.s d,.s (.v (.bool b)))]) (.b i)=(τ.ap [(.s d,.s (.q b))]) (.b i):=fun i=>by rw [ur,ur,if_neg (by simp),if_neg (by simp)]
 have hl:∀i,live (τ.ap [(.s d,.s (.v (.bool b)))]) i→live (τ.ap [(.s d,.s (.q b))]) i:=fun i hi=>by
  unfold live at hi ⊢
  rwa [hb] at hi
 refine⟨T,β,{ hh with
  iL:=fun i av hi=>by
   rw [ur] at hi
   by_cases e:fK.s i= .s d
   ·rw [if_pos e] at hi
    cases hi
    exact hh.iL i (.s (.q b)) (by rw [ur,if_pos e])
   ·rw [if_neg e] at hi
    exact hh.iL i av (by rw [ur,if_neg e];exact hi)
  boxes:=fun i av hi hz=>hh.boxes i av (by rwa [hb] at hi) hz
  apart:=fun i hi=>hh.apart i (hl i hi)
  handed:=fun i b' hb' hi=>hh.handed i b' hb' (hl i hi)
  inj:=fun i j hi hj e=>hh.inj i j (hl i hi) (hl j hj) e
  named:=fun r av hr i hi=>by
   rw [hb]
   rw [ur] at hr
   by_cases e:r= .s d
   ·rw [if_pos e] at hr;cases hr;simp [AV.boxes,A0.boxes,SV.boxes] at hi
   ·rw [if_neg e] at hr
    exact hh.named r av (by rw [ur,if_neg e];exact hr) i hi }⟩
theorem aip {o:Oper}{q:Q Rs}(gs:List Nat) (h:fw P N o q):fw P N o (q.map (brk gs)):=by
 intro c τ a w hr hp K Q' hK
 rw [Q.ZY] at hp hK
 refine h c τ a w hr ?_ K Q' ?_
 ·unfold brk at hp
  split at hp
  ·rename_i heq;rw [heq];trivial
  ·rename_i p d b heq
   rw [heq]
   cases hm:iz gs d with
   |true=>rw [hm] at hp;exact hp
   |false=>rw [hm] at hp;exact hp
  ·exact hp
 ·intro u a' w' hu uP
  unfold brk at hK
  split at hK
  ·rename_i d b heq
   rw [heq] at hu
   cases hu
   cases hm:iz gs d with
   |true=>rw [hm] at hK;exact hK _ _ _ rfl uP.swap
   |false=>rw [hm] at hK;exact hK _ _ _ rfl uP
  ·rename_i p d b heq
   rw [heq] at hu
   cases hu
   cases hm:iz gs d with
   |true=>rw [hm] at hK;exact hK _ _ _ rfl uP.swap
   |false=>rw [hm] at hK;exact hK _ _ _ rfl uP
  ·exact hK _ _ _ hu uP
theorem aeJ {ops:Array Oper}{o:Oper}{q:Q Rs}(h:fw P N o q):OpS P N ops o (X1 N ops o q):=by
 intro c τ a w hr hp K Q' hK
 unfold X1 at hp hK
 cases hg:o.guard with
 |none=>
  rw [hg] at hp hK
  have:Region.wanted o (yielded ops a.tmps)=true:=by simp [Region.wanted,hg]
  rw [if_pos this]
  exact h c τ a w hr hp K Q' hK
 |some jw=>
  obtain⟨j,want⟩:=jw
  rw [hg] at hp hK
  simp only at hp hK
  split at hp
  ·rename_i og d hj hd
   simp only [hj,hd] at hK
   split at hp
   ·rename_i g hgd
    simp only [hgd,Q.run] at hK
    simp only [Q.run] at hp
    split at hp
    ·rename_i b hb
     simp only [hb] at hK
     obtain⟨T,β,hh⟩:=hr
     obtain⟨v,hv,c7⟩:=hh.iL g _ hb
     have hv':v= .bool b:=c7
     subst hv'
     have hy:yielded ops a.tmps j=some b:=by simp [yielded,hj,hgd,hv]
     cases hw:(bif want then b else !b) with
     |true=>
      rw [hw] at hp hK
      have hbw:b=want:=by cases b<;>cases want<;>simp at hw ⊢
      have:Region.wanted o (yielded ops a.tmps)=true:=by simp [Region.wanted,hg,hy,hbw]
      rw [if_pos this]
      exact h c τ a w ⟨T,β,hh⟩ hp K Q' hK
     |false=>
      rw [hw] at hp hK
      have hbw:b≠want:=by cases b<;>cases want<;>simp at hw ⊢
      have:¬Region.wanted o (yielded ops a.tmps)=true:=by simp [Region.wanted,hg,hy,hbw]
      rw [if_neg this]
      simp only [cond_false] at hp hK
      cases hN:Nat.blt d N with
      |false=>rw [hN] at hp;exact hp.elim
      |true=>
       rw [hN] at hK
       rw [hd]
       exact hK _ _ _ rfl ⟨T,β,hh.put (mo.1 hN) (av:=.s (.v undef)) rfl (by simp [AV.boxes,A0.boxes,SV.boxes])⟩
    ·rename_i x hb
     simp only [hb] at hK
     obtain⟨T,β,hh⟩:=hr
     obtain⟨v,hv,c7⟩:=hh.iL g _ hb
     have hv':v= .tuple x:=c7
     subst hv'
     have hy:yielded ops a.tmps j=none:=by simp [yielded,hj,hgd,hv]
     have:¬Region.wanted o (yielded ops a.tmps)=true:=by simp [Region.wanted,hg,hy]
     rw [if_neg this]
     cases hN:Nat.blt d N with
     |false=>rw [hN] at hp;exact hp.elim
     |true=>
      rw [hN] at hK
      rw [hd]
      exact hK _ _ _ rfl ⟨T,β,hh.put (mo.1 hN) (av:=.s (.v undef)) rfl (by simp [AV.boxes,A0.boxes,SV.boxes])⟩
    ·exact hp.elim
   ·exact hp.elim
  ·exact hp.elim
theorem oG {E:Env}(hE:A4 P E):U5 P E.N (DZ E):=fun ops _ o _=>aeJ (aip (C4 ops ops.toList) (ahx hE o))
def Env.sh (E:Env) (t:TypeId):Option (Bool×Nat):=match E.tab t with
 |some i=>some (i.agg,i.size)
 |none=>none
theorem Env.DX {E:Env}(hE:A4 P E):∀t x,E.sh t=some x→Sh P t=some x:=fun t x h=>by
 unfold Env.sh at h
 split at h
 ·rename_i i hi;cases h;exact (hE.tab t i hi).sh
 ·cases h
theorem wx.of {E:Env}(hE:A4 P E) (hm:P.follows .mixedOrders=true) {f:FuncId}{fn:Func}{cd:Code}{C:Con}(hf:P.funcs[f]?=some fn) (hb:fn.body=some cd) (hN:fn.ntmps=E.N) (hlen:C.A.length≤E.N)
  (h:∀x y,C.pre x y→vc P E.N (DZ E) cd (entry (APs.gh C.A x) (APs.gh C.B y)) (DE E.sh fn.results.toList C.B.length C.mv (fun r os=>∃z,C.φ x y z∧r=C.r x y z∧os=C.o x y z∧os.length=C.B.length+C.nf))):wx P f C:=by
 intro x y hp
 refine TC.tC hm (oG hE) (Env.DX hE) hf hb hN (by rw [APs.fF];exact hlen) ?_
 rw [APs.fF]
 exact h x y hp
theorem ag4 {E:Env}(hE:A4 P E) (hm:P.follows .mixedOrders=true) {τ:St}{Q':pb}{cd:Code}{ι:Type}(bY:List fK) (J:ι→AX) (φ:ι→Prop) (μ:ι→Nat) (x0:ι) (sg0:List (Nat×Nat)) (h0:φ x0) (hs:E2 sg0 τ τ bY (J x0))
  (tP:∀x,φ x→vc P E.N (DZ E) cd ((oR τ bY).ap (J x)) (zp (fun τ'=>∃y sg,φ y∧μ y < μ x∧E2 sg τ τ' bY (J y)) Q')):TW P E.N (.loop cd) τ Q':=
 TW.ajm hm (oG hE) bY J φ μ x0 sg0 h0 hs tP
end
end GL
namespace GL
theorem aaj {P:Program}{t:TypeId}:∀(l:List (Nat×Bool×Nat)) (k:Nat),(l.zipIdx k).map (fun p=>kt P t p.2)=l.map some→∀(f:Nat) (x:Nat×Bool×Nat),l[f]?=some x→kt P t (k+f)=some x
 |[],_,_,f,x,h=>by simp at h
 |y::l,k,h,0,x,hx=>by
  simp only [List.zipIdx_cons,ZE8,ZG7] at h
  simp at hx;subst hx
  simpa using h.1
 |y::l,k,h,f+1,x,hx=>by
  simp only [List.zipIdx_cons,ZE8,ZG7] at h
  have:=aaj l (k+1) h.2 f x (by simpa using hx)
  rwa [show k+1+f=k+(f+1) by omega] at this
theorem flds_all {P:Program}{t:TypeId}{l:List (Nat×Bool×Nat)}(h:(l.zipIdx 0).map (fun p=>kt P t p.2)=l.map some):∀(f:Nat) (x:Nat×Bool×Nat),l[f]?=some x→kt P t f=some x:=fun f x hx=>by
 have:=aaj l 0 h f x hx
 rwa [ZA7] at this
theorem ints_at {P : Program} {t : TypeId} {l : List String} (h : (P.fieldsOf t).toList.map (fun f => (f.name, P.underlying f.type, Sh P f.type, f.offset)) = l.zipIdx.map (fun p => (p.1, some (.int .i64), some (false, 1), p.2))) (hn : ∀ s ∈ l, s ≠ "_") :
  ∀ (i : Nat) (f : Field), (P.fieldsOf t)[i]? = some f → f.name ≠ "_" ∧ P.underlying f.type = some (.int .i64) ∧ Sh P f.type = some (false, 1) ∧ f.offset = i := by
 intro i f hf
 have h1:=congrArg (fun l=>l[i]?) h
 simp only [ZG6,Array.getElem?_toList,hf,Option.map_some,List.getElem?_zipIdx] at h1
 cases hl:l[i]? with
 |none=>rw [hl] at h1;simp at h1
 |some s=>
  rw [hl] at h1
  simp at h1
  obtain⟨h2,h3,h4,h5⟩:=h1
  exact⟨by rw [h2];exact hn s (ZB7 hl),h3,h4,h5⟩
def VB:TI:=⟨false,1,.int .i64,[.int .i64 0],[],[]⟩
theorem ok_int:TIok Tryz.prog 3 VB:=⟨by show Sh Tryz.prog 3=some (false,1);kernel_rfl,by show zeroOf Tryz.prog 3=some [.int .i64 0];kernel_rfl,by simp [VB],.inl rfl,by show Tryz.prog.underlying 3=some (.int .i64);kernel_rfl⟩
def N4:TI:=⟨false,1,.bool,[.bool false],[],[]⟩
theorem af0:TIok Tryz.prog 4 N4:=⟨by show Sh Tryz.prog 4=some (false,1);kernel_rfl,by show zeroOf Tryz.prog 4=some [.bool false];kernel_rfl,by simp [N4],.inl rfl,by show Tryz.prog.underlying 4=some .bool;kernel_rfl⟩
def GH:TI:=⟨false,1,.int .u8,[.int .u8 0],[],[]⟩
theorem adC:TIok Tryz.prog 5 GH:=⟨by show Sh Tryz.prog 5=some (false,1);kernel_rfl,by show zeroOf Tryz.prog 5=some [.int .u8 0];kernel_rfl,by simp [GH],.inl rfl,by show Tryz.prog.underlying 5=some (.int .u8);kernel_rfl⟩
def BB:TI:=⟨false,1,.str,[.string ByteArray.empty],[],[]⟩
theorem abN:TIok Tryz.prog 9 BB:=⟨by show Sh Tryz.prog 9=some (false,1);kernel_rfl,by show zeroOf Tryz.prog 9=some [.string ByteArray.empty];kernel_rfl,by simp [BB],.inl rfl,by show Tryz.prog.underlying 9=some .string;kernel_rfl⟩
def xU:TI:=⟨false,1,.bytes 1,[.slice none 0 0],[],[]⟩
theorem W7:TIok Tryz.prog 22 xU:=⟨by show Sh Tryz.prog 22=some (false,1);kernel_rfl,by show zeroOf Tryz.prog 22=some [.slice none 0 0];kernel_rfl,by simp [xU],.inl rfl,⟨⟨by show vV Tryz.prog 22=some (1,1,[.int .u8 0]);kernel_rfl,by simp,by decide⟩,5,by kernel_rfl,by kernel_rfl⟩⟩
abbrev ab:EK:=[.str 4096]
def uY:TI:=⟨false,1,.slice ab 16,[.slice none 0 0],[],[]⟩
theorem SU:TIok Tryz.prog 23 uY:=⟨by show Sh Tryz.prog 23=some (false,1);kernel_rfl,by show zeroOf Tryz.prog 23=some [.slice none 0 0];kernel_rfl,by simp [uY],.inl rfl,⟨by show vV Tryz.prog 23=some (1,16,[.string ByteArray.empty]);kernel_rfl,by simp,by decide⟩⟩
abbrev ag:EK:=[.i64]
def GK:TI:=⟨false,1,.slice ag 8,[.slice none 0 0],[],[]⟩
theorem adI:TIok Tryz.prog 24 GK:=⟨by show Sh Tryz.prog 24=some (false,1);kernel_rfl,by show zeroOf Tryz.prog 24=some [.slice none 0 0];kernel_rfl,by simp [GK],.inl rfl,⟨by show vV Tryz.prog 24=some (1,8,[.int .i64 0]);kernel_rfl,by simp,by decide⟩⟩
def QU:TI:=⟨true,2,.other,[.slice none 0 0,.slice none 0 0],[(0,false,1),(1,false,1)],[(0,1),(1,1)]⟩
theorem adH:TIok Tryz.prog 26 QU:=⟨by show Sh Tryz.prog 26=some (true,2);kernel_rfl,by show zeroOf Tryz.prog 26=some [.slice none 0 0,.slice none 0 0];kernel_rfl,flds_all (by kernel_rfl),.inr (by kernel_rfl),trivial⟩
abbrev ae:EK:=[.i64,.i64,.i64,.i64,.i64]
def GM:TI:=⟨false,1,.slice ae 40,[.slice none 0 0],[],[]⟩
theorem adJ:TIok Tryz.prog 27 GM:=⟨by show Sh Tryz.prog 27=some (false,1);kernel_rfl,by show zeroOf Tryz.prog 27=some [.slice none 0 0];kernel_rfl,by simp [GM],.inl rfl,⟨by show vV Tryz.prog 27=some (5,40,[.int .i64 0,.int .i64 0,.int .i64 0,.int .i64 0,.int .i64 0]);kernel_rfl,by simp,by decide⟩⟩
def pF:TI:=⟨true,8,.other,[.slice none 0 0,.slice none 0 0,.slice none 0 0,.int .i64 0,.slice none 0 0,.int .i64 0,.slice none 0 0,.bool false],[(0,false,1),(1,true,2),(3,false,1),(4,false,1),(5,false,1),(6,false,1),(7,false,1)],[(0,1),(1,2),(3,1),(4,1),(5,1),(6,1),(7,1)]⟩
theorem adG:TIok Tryz.prog 29 pF:=⟨by show Sh Tryz.prog 29=some (true,8);kernel_rfl,by show zeroOf Tryz.prog 29=some [.slice none 0 0,.slice none 0 0,.slice none 0 0,.int .i64 0,.slice none 0 0,.int .i64 0,.slice none 0 0,.bool false];kernel_rfl,flds_all (by kernel_rfl),.inr (by kernel_rfl),trivial⟩
def ti_Ptr:TI:=⟨true,5,.ints 5,[.int .i64 0,.int .i64 0,.int .i64 0,.int .i64 0,.int .i64 0],[(0,false,1),(1,false,1),(2,false,1),(3,false,1),(4,false,1)],[(0,1),(1,1),(2,1),(3,1),(4,1)]⟩
theorem ok_Ptr : TIok Tryz.prog 31 ti_Ptr := ⟨by show Sh Tryz.prog 31 = some (true, 5); kernel_rfl, by show zeroOf Tryz.prog 31 = some [.int .i64 0, .int .i64 0, .int .i64 0, .int .i64 0, .int .i64 0]; kernel_rfl, flds_all (by kernel_rfl), .inr (by kernel_rfl), ⟨by kernel_rfl, by kernel_rfl, by kernel_rfl, by kernel_rfl, ints_at (l := ["At", "Birth", "Size", "Sum", "Level"]) (by kernel_rfl) (by decide)⟩⟩
def s3:TI:=⟨true,7,.other,[.int .i64 0,.int .i64 0,.int .i64 0,.int .i64 0,.int .i64 0,.int .i64 0,.int .i64 0],[(0,true,5),(5,false,1),(6,false,1)],[(0,5),(5,1),(6,1)]⟩
theorem af1:TIok Tryz.prog 33 s3:=⟨by show Sh Tryz.prog 33=some (true,7);kernel_rfl,by show zeroOf Tryz.prog 33=some [.int .i64 0,.int .i64 0,.int .i64 0,.int .i64 0,.int .i64 0,.int .i64 0,.int .i64 0];kernel_rfl,flds_all (by kernel_rfl),.inr (by kernel_rfl),trivial⟩
def Y2:TI:=⟨true,2,.other,[.slice none 0 0,.int .i64 0],[(0,false,1),(1,false,1)],[(0,1),(1,1)]⟩
theorem afZ:TIok Tryz.prog 47 Y2:=⟨by show Sh Tryz.prog 47=some (true,2);kernel_rfl,by show zeroOf Tryz.prog 47=some [.slice none 0 0,.int .i64 0];kernel_rfl,flds_all (by kernel_rfl),.inr (by kernel_rfl),trivial⟩
abbrev pc:EK:=[.i64,.i64,.i64,.i64,.i64,.i64,.i64,.i64,.i64,.i64]
def BD:TI:=⟨false,1,.slice pc 80,[.slice none 0 0],[],[]⟩
theorem abP:TIok Tryz.prog 49 BD:=⟨by show Sh Tryz.prog 49=some (false,1);kernel_rfl,by show zeroOf Tryz.prog 49=some [.slice none 0 0];kernel_rfl,by simp [BD],.inl rfl,⟨by show vV Tryz.prog 49=some (10,80,[.int .i64 0,.int .i64 0,.int .i64 0,.int .i64 0,.int .i64 0,.int .i64 0,.int .i64 0,.int .i64 0,.int .i64 0,.int .i64 0]);kernel_rfl,by simp,by decide⟩⟩
def Y3:TI:=⟨true,10,.other,[.int .i64 0,.int .i64 0,.int .i64 0,.int .i64 0,.int .i64 0,.int .i64 0,.int .i64 0,.int .i64 0,.int .i64 0,.int .i64 0],[(0,false,1),(1,false,1),(2,false,1),(3,true,7)],[(0,1),(1,1),(2,1),(3,7)]⟩
theorem af3:TIok Tryz.prog 52 Y3:=⟨by show Sh Tryz.prog 52=some (true,10);kernel_rfl,by show zeroOf Tryz.prog 52=some [.int .i64 0,.int .i64 0,.int .i64 0,.int .i64 0,.int .i64 0,.int .i64 0,.int .i64 0,.int .i64 0,.int .i64 0,.int .i64 0];kernel_rfl,flds_all (by kernel_rfl),.inr (by kernel_rfl),trivial⟩
abbrev EZ:EK:=[.i64,.str 4096,.str 4096,.i64,.str 4096]
def N5:TI:=⟨false,1,.slice EZ 64,[.slice none 0 0],[],[]⟩
theorem af2:TIok Tryz.prog 71 N5:=⟨by show Sh Tryz.prog 71=some (false,1);kernel_rfl,by show zeroOf Tryz.prog 71=some [.slice none 0 0];kernel_rfl,by simp [N5],.inl rfl,⟨by show vV Tryz.prog 71=some (5,64,[.int .i64 0,.string ByteArray.empty,.string ByteArray.empty,.int .i64 0,.string ByteArray.empty]);kernel_rfl,by simp,by decide⟩⟩
def agU:TI:=⟨true,5,.other,[.int .i64 0,.string ByteArray.empty,.string ByteArray.empty,.int .i64 0,.string ByteArray.empty],[(0,false,1),(1,false,1),(2,false,1),(3,false,1),(4,false,1)],[(0,1),(1,1),(2,1),(3,1),(4,1)]⟩
theorem ajc:TIok Tryz.prog 76 agU:=⟨by show Sh Tryz.prog 76=some (true,5);kernel_rfl,by show zeroOf Tryz.prog 76=some [.int .i64 0,.string ByteArray.empty,.string ByteArray.empty,.int .i64 0,.string ByteArray.empty];kernel_rfl,flds_all (by kernel_rfl),.inr (by kernel_rfl),trivial⟩
def QT:TI:=⟨true,16,.other,[.slice none 0 0,.slice none 0 0,.slice none 0 0,.int .i64 0,.slice none 0 0,.int .i64 0,.slice none 0 0,.bool false,.int .i64 0,.int .i64 0,.int .i64 0,.int .i64 0,.int .i64 0,.int .i64 0,.int .i64 0,.bool false],[(0,true,8),(8,true,7),(15,false,1)],[(0,8),(8,7),(15,1)]⟩
theorem adE:TIok Tryz.prog 100 QT:=⟨by show Sh Tryz.prog 100=some (true,16);kernel_rfl,by show zeroOf Tryz.prog 100=some [.slice none 0 0,.slice none 0 0,.slice none 0 0,.int .i64 0,.slice none 0 0,.int .i64 0,.slice none 0 0,.bool false,.int .i64 0,.int .i64 0,.int .i64 0,.int .i64 0,.int .i64 0,.int .i64 0,.int .i64 0,.bool false];kernel_rfl,flds_all (by kernel_rfl),.inr (by kernel_rfl),trivial⟩
abbrev aK:EK:=[.str 4096,.i64]
def xV:TI:=⟨false,1,.slice aK 24,[.slice none 0 0],[],[]⟩
theorem W8:TIok Tryz.prog 129 xV:=⟨by show Sh Tryz.prog 129=some (false,1);kernel_rfl,by show zeroOf Tryz.prog 129=some [.slice none 0 0];kernel_rfl,by simp [xV],.inl rfl,⟨by show vV Tryz.prog 129=some (2,24,[.string ByteArray.empty,.int .i64 0]);kernel_rfl,by simp,by decide⟩⟩
def QV:TI:=⟨true,2,.other,[.string ByteArray.empty,.int .i64 0],[(0,false,1),(1,false,1)],[(0,1),(1,1)]⟩
theorem adK:TIok Tryz.prog 136 QV:=⟨by show Sh Tryz.prog 136=some (true,2);kernel_rfl,by show zeroOf Tryz.prog 136=some [.string ByteArray.empty,.int .i64 0];kernel_rfl,flds_all (by kernel_rfl),.inr (by kernel_rfl),trivial⟩
def BC:TI:=⟨false,1,.arr 8,[.slice none 0 0],[],[]⟩
theorem abO:TIok Tryz.prog 154 BC:=⟨by show Sh Tryz.prog 154=some (false,1);kernel_rfl,by show zeroOf Tryz.prog 154=some [.slice none 0 0];kernel_rfl,by simp [BC],.inl rfl,⟨⟨.pointer none,by kernel_rfl⟩,by decide⟩⟩
def GJ:TI:=⟨false,1,.iface,[.nilIface],[],[]⟩
theorem adF:TIok Tryz.prog 171 GJ:=⟨by show Sh Tryz.prog 171=some (false,1);kernel_rfl,by show zeroOf Tryz.prog 171=some [.nilIface];kernel_rfl,by simp [GJ],.inl rfl,by show isIface Tryz.prog 171=true;kernel_rfl⟩
def tab:TypeId→Option TI
 |3=>some VB
 |4=>some N4
 |5=>some GH
 |9=>some BB
 |22=>some xU
 |23=>some uY
 |24=>some GK
 |26=>some QU
 |27=>some GM
 |29=>some pF
 |31=>some ti_Ptr
 |33=>some s3
 |47=>some Y2
 |49=>some BD
 |52=>some Y3
 |71=>some N5
 |76=>some agU
 |100=>some QT
 |129=>some xV
 |136=>some QV
 |154=>some BC
 |171=>some GJ
 |_=>none
theorem acM:∀t i,tab t=some i→TIok Tryz.prog t i:=by
 intro t i h
 unfold tab at h
 split at h
 ·cases h;exact ok_int
 ·cases h;exact af0
 ·cases h;exact adC
 ·cases h;exact abN
 ·cases h;exact W7
 ·cases h;exact SU
 ·cases h;exact adI
 ·cases h;exact adH
 ·cases h;exact adJ
 ·cases h;exact adG
 ·cases h;exact ok_Ptr
 ·cases h;exact af1
 ·cases h;exact afZ
 ·cases h;exact abP
 ·cases h;exact af3
 ·cases h;exact af2
 ·cases h;exact ajc
 ·cases h;exact adE
 ·cases h;exact W8
 ·cases h;exact adK
 ·cases h;exact abO
 ·cases h;exact adF
 ·cases h
theorem mixed:Tryz.prog.follows .mixedOrders=true:=by kernel_rfl
end GL
namespace GL
def Has (P:Program) (f:FuncId) (c:Con):Prop:=wx P f c∧Enters P f
def look:List (FuncId×Con)→FuncId→Option Con
 |[],_=>none
 |p::l,f=>bif Nat.beq p.1 f then some p.2 else look l f
def AllHas (P:Program):List (FuncId×Con)→Prop
 |[]=>True
 |p::l=>Has P p.1 p.2∧AllHas P l
theorem IB {P:Program}:∀{l:List (FuncId×Con)},AllHas P l→∀{f:FuncId}{c:Con},look l f=some c→Has P f c
 |[],_,f,c,h=>by cases h
 |p::l,hl,f,c,h=>by
  simp only [look] at h
  cases hb:Nat.beq p.1 f with
  |true=>
   rw [hb] at h
   have:p.1=f:=by simpa using hb
   cases h
   rw [←this];exact hl.1
  |false=>rw [hb] at h;exact IB hl.2 h
def D9 (n:Nat) (l:List (FuncId×Con)) (ex wr pt:Nat→Bool):Env:=⟨n,tab,look l,ex,wr,pt⟩
theorem oM {n:Nat}{l:List (FuncId×Con)}{ex wr pt:Nat→Bool}(h:AllHas Tryz.prog l):A4 Tryz.prog (D9 n l ex wr pt):=⟨acM,fun _ _ hc=>IB h hc⟩
theorem Has.ofE (ex wr pt : Nat → Bool) {l : List (FuncId × Con)} (hl : AllHas Tryz.prog l) {f : FuncId} {fn : Func} {cd : Code} {C : Con} (hf : Tryz.prog.funcs[f]? = some fn) (hb : fn.body = some cd) (hnm : fn.name ≠ "runtime.NumGoroutine") (hlen : C.A.length ≤ fn.ntmps)
  (h:∀x y,C.pre x y→vc Tryz.prog fn.ntmps (DZ (D9 fn.ntmps l ex wr pt)) cd (entry (APs.gh C.A x) (APs.gh C.B y)) (DE (D9 fn.ntmps l ex wr pt).sh fn.results.toList C.B.length C.mv (fun r os=>∃z,C.φ x y z∧r=C.r x y z∧os=C.o x y z∧os.length=C.B.length+C.nf))):Has Tryz.prog f C:=
 ⟨wx.of (oM hl) mixed hf hb rfl hlen h,fn,hf,by rw [hb];rfl,hnm⟩
theorem Has.of {l : List (FuncId × Con)} (hl : AllHas Tryz.prog l) {f : FuncId} {fn : Func} {cd : Code} {C : Con} (hf : Tryz.prog.funcs[f]? = some fn) (hb : fn.body = some cd) (hnm : fn.name ≠ "runtime.NumGoroutine") (hlen : C.A.length ≤ fn.ntmps)
  (h:∀x y,C.pre x y→vc Tryz.prog fn.ntmps (DZ (D9 fn.ntmps l (fun _=>true) (fun _=>false) (fun _=>false))) cd (entry (APs.gh C.A x) (APs.gh C.B y)) (DE (D9 fn.ntmps l (fun _=>true) (fun _=>false) (fun _=>false)).sh fn.results.toList C.B.length C.mv (fun r os=>∃z,C.φ x y z∧r=C.r x y z∧os=C.o x y z∧os.length=C.B.length+C.nf))):Has Tryz.prog f C:=
 Has.ofE _ _ _ hl hf hb hnm hlen h
def Con.below (C:Con) (μ:APs.Ty C.A→APs.Ty C.B→Nat) (n:Nat):Con:= { C with pre:=fun x y=>C.pre x y∧μ x y<n }
theorem Has.recE (ex wr pt : Nat → Bool) {f : FuncId} {fn : Func} {cd : Code} {C : Con} (μ : APs.Ty C.A → APs.Ty C.B → Nat) {l : List (FuncId × Con)} (hl : AllHas Tryz.prog l) (hf : Tryz.prog.funcs[f]? = some fn) (hb : fn.body = some cd) (hnm : fn.name ≠ "runtime.NumGoroutine") (hlen : C.A.length ≤ fn.ntmps)
  (h:∀x y,C.pre x y→Has Tryz.prog f (C.below μ (μ x y))→vc Tryz.prog fn.ntmps (DZ (D9 fn.ntmps ((f,C.below μ (μ x y))::l) ex wr pt)) cd (entry (APs.gh C.A x) (APs.gh C.B y)) (DE (D9 fn.ntmps l ex wr pt).sh fn.results.toList C.B.length C.mv (fun r os=>∃z,C.φ x y z∧r=C.r x y z∧os=C.o x y z∧os.length=C.B.length+C.nf))):Has Tryz.prog f C:=by
 have hE:Enters Tryz.prog f:=⟨fn,hf,by rw [hb];rfl,hnm⟩
 have key:∀n,wx Tryz.prog f (C.below μ n):=by
  intro n
  induction n with
  |zero=>intro x y hp;exact absurd hp.2 (by omega)
  |succ n ih=>
   intro (x:APs.Ty C.A) (y:APs.Ty C.B) (hp:C.pre x y∧μ x y<n+1)
   have hm:Has Tryz.prog f (C.below μ (μ x y)):=⟨fun x' y' hp'=>ih x' y' ⟨hp'.1,by have:=hp.2;have h2:μ x' y' < μ x y:=hp'.2;omega⟩,hE⟩
   have hl':AllHas Tryz.prog ((f,C.below μ (μ x y))::l):=⟨hm,hl⟩
   have hx:(APs.gh C.A x).length≤fn.ntmps:=by rw [APs.fF];exact hlen
   have hy:(APs.gh C.B y).length=C.B.length:=APs.fF C.B y
   exact TC.tC (P:=Tryz.prog) (N:=fn.ntmps) (S:=DZ (D9 fn.ntmps ((f,C.below μ (μ x y))::l) ex wr pt)) (sh:=(D9 fn.ntmps l ex wr pt).sh) (f:=f) (fn:=fn) (cd:=cd) (args:=APs.gh C.A x) (bs:=APs.gh C.B y) (mv:=C.mv) (post:=fun r os=>∃z,C.φ x y z∧r=C.r x y z∧os=C.o x y z∧os.length=C.B.length+C.nf) mixed (oG (oM (n:=fn.ntmps) (ex:=ex) (wr:=wr) (pt:=pt) hl')) (Env.DX (oM (n:=fn.ntmps) (ex:=ex) (wr:=wr) (pt:=pt) hl)) hf hb rfl hx (by rw [hy];exact h x y hp.1 hm)
 exact⟨fun x y hp=>key (μ x y+1) x y ⟨hp,by omega⟩,hE⟩
theorem TC.ZM {P:Program}{f:FuncId}{mv:Bool}{args bs:List AV}{post zI:AV→List AV→Prop}(h:TC P f mv args bs post) (hp:∀r os,post r os→∃j,zI r (os++List.replicate j .zz)):TC P f mv args bs zI:=by
 intro W T β vs h1 h2 h3 h4 h5
 refine (h W T β vs h1 h2 h3 h4 h5).mono fun e w' ⟨v,r,os,T',β',e1,e2,e3,e4,e5,e6⟩=>?_
 obtain⟨j,hj⟩:=hp _ _ e2
 have tR:∀(i:Nat) (av:AV),(os++List.replicate j AV.zz)[i]?=some av→av≠.zz→os[i]?=some av:=by
  intro i av hi hz
  by_cases bU:i<os.length
  ·rwa [ZC2 bU] at hi
  ·rw [ZC6 (by omega)] at hi
   have:=ZB7 hi
   exact absurd (ZD6.1 this).2 hz
 have hlen:os.length≤(os++List.replicate j AV.zz).length:=by rw [ZA0];omega
 exact⟨v,r,_,T',β',e1,hj,e3,⟨fun i hi=>ZG2 (e4.1 i hi) hlen,e4.2⟩,e5,{
  len:=ZB1 e6.len hlen
  same:=e6.same
  at_:=fun i av hi hz=>by
   obtain⟨g1,g2,g3,g4,g5⟩:=e6.at_ i av (tR i av hi hz) hz
   exact⟨g1,g2,g3,fun j hj=>ZG2 (g4 j hj) hlen,g5⟩
  inj:=fun i k av av' hi hz hk hz' e=>e6.inj i k av av' (tR i av hi hz) hz (tR k av' hk hz') hz' e }⟩
theorem Has.ofZ (ex wr pt : Nat → Bool) {l : List (FuncId × Con)} (hl : AllHas Tryz.prog l) {f : FuncId} {fn : Func} {cd : Code} {C : Con} (hf : Tryz.prog.funcs[f]? = some fn) (hb : fn.body = some cd) (hnm : fn.name ≠ "runtime.NumGoroutine") (hlen : C.A.length ≤ fn.ntmps)
  (h:∀x y,C.pre x y→vc Tryz.prog fn.ntmps (DZ (D9 fn.ntmps l ex wr pt)) cd (entry (APs.gh C.A x) (APs.gh C.B y)) (DE (D9 fn.ntmps l ex wr pt).sh fn.results.toList C.B.length C.mv (fun r os=>∃z j,C.φ x y z∧r=C.r x y z∧os++List.replicate j .zz=C.o x y z∧(C.o x y z).length=C.B.length+C.nf))):Has Tryz.prog f C:=by
 refine⟨fun x y hp=>?_,fn,hf,by rw [hb];rfl,hnm⟩
 have hx:(APs.gh C.A x).length≤fn.ntmps:=by rw [APs.fF];exact hlen
 have hy:(APs.gh C.B y).length=C.B.length:=APs.fF C.B y
 refine TC.ZM (TC.tC (P:=Tryz.prog) (N:=fn.ntmps) (S:=DZ (D9 fn.ntmps l ex wr pt)) (sh:=(D9 fn.ntmps l ex wr pt).sh) (f:=f) (fn:=fn) (cd:=cd) (args:=APs.gh C.A x) (bs:=APs.gh C.B y) (mv:=C.mv) (post:=fun r os=>∃z j,C.φ x y z∧r=C.r x y z∧os++List.replicate j .zz=C.o x y z∧(C.o x y z).length=C.B.length+C.nf) mixed (oG (oM (n:=fn.ntmps) (ex:=ex) (wr:=wr) (pt:=pt) hl)) (Env.DX (oM (n:=fn.ntmps) (ex:=ex) (wr:=wr) (pt:=pt) hl)) hf hb rfl hx (by rw [hy];exact h x y hp)) ?_
 rintro r os ⟨z,j,h1,h2,h3,h4⟩
 exact⟨j,z,h1,h2,h3,by rw [h3];exact h4⟩
def Wk (r' r:AV):Prop:=(∀(T:bc) (β:Nat→Nat) (v:Value),r.rel T β v→r'.rel T β v)∧(∀i∈r'.boxes,i∈r.boxes)∧(r.ot=true→r'.ot=true)
theorem Wk.refl (r:AV):Wk r r:=⟨fun _ _ _ h=>h,fun _ h=>h,fun h=>h⟩
theorem Wk.of_eq {r' r:AV}(h:r'=r):Wk r' r:=h ▸ Wk.refl _
theorem Wk.nil (ek:EK):Wk (.s (.vw ek [])) (.s (.v (.slice none 0 0))):=⟨fun _ _ v h=>.inl ⟨rfl,none,0,h⟩,fun i h=>by simp [AV.boxes,A0.boxes,SV.boxes] at h,fun _=>rfl⟩
def WkT:List A0→List A0→Prop
 |[],[]=>True
 |x::l,y::m=>Wk (.o x) (.o y)∧WkT l m
 |_,_=>False
theorem WkT.all:∀{l m:List A0},WkT l m→(∀(T:bc) (β:Nat→Nat) (vs:List Value),uJ T β m vs→uJ T β l vs)∧(∀i∈eV l,i∈eV m)∧(uH m=true→uH l=true)
 |[],[],_=>⟨fun _ _ _ h=>h,fun _ h=>h,fun h=>h⟩
 |[],_::_,h=>h.elim
 |_::_,[],h=>h.elim
 |x::l,y::m,h=>by
  obtain⟨a1,a2,a3⟩:=h.1
  obtain⟨b1,b2,b3⟩:=WkT.all h.2
  refine⟨fun T β vs hr=>?_,fun i hi=>?_,fun hf=>?_⟩
  ·cases vs with
   |nil=>exact hr.elim
   |cons v vs=>exact⟨a1 T β v hr.1,b1 T β vs hr.2⟩
  ·simp only [eV,ZB5] at hi ⊢
   rcases hi with hi |hi
   ·exact .inl (a2 i hi)
   ·exact .inr (b2 i hi)
  ·simp only [uH,ZB0] at hf ⊢
   exact⟨a3 hf.1,b3 hf.2⟩
theorem Wk.tup {l m:List A0}(h:WkT l m):Wk (.t l) (.t m):=
 ⟨fun T β v hr=>by obtain⟨vs,e,hl⟩:=hr;exact⟨vs,e,h.all.1 T β _ hl⟩,h.all.2.1,h.all.2.2⟩
theorem TC.aiR {P:Program}{f:FuncId}{mv:Bool}{args bs:List AV}{post zI:AV→List AV→Prop}(h:TC P f mv args bs post) (hp:∀r os,post r os→∃r' j,Wk r' r∧zI r' (os++List.replicate j .zz)):TC P f mv args bs zI:=by
 refine TC.ZM (post:=fun r os=>∃j,zI r (os++List.replicate j .zz)) ?_ (fun r os h=>h)
 intro W T β vs h1 h2 h3 h4 h5
 refine (h W T β vs h1 h2 h3 h4 h5).mono fun e w' ⟨v,r,os,T',β',e1,e2,e3,e4,e5⟩=>?_
 obtain⟨r',j,hw,hj⟩:=hp _ _ e2
 exact⟨v,r',os,T',β',e1,⟨j,hj⟩,hw.1 _ _ _ e3,⟨fun i hi=>e4.1 i (hw.2.1 i hi),hw.2.2 e4.2⟩,e5⟩
theorem Has.ofW (ex wr pt : Nat → Bool) {l : List (FuncId × Con)} (hl : AllHas Tryz.prog l) {f : FuncId} {fn : Func} {cd : Code} {C : Con} (hf : Tryz.prog.funcs[f]? = some fn) (hb : fn.body = some cd) (hnm : fn.name ≠ "runtime.NumGoroutine") (hlen : C.A.length ≤ fn.ntmps)
  (h:∀x y,C.pre x y→vc Tryz.prog fn.ntmps (DZ (D9 fn.ntmps l ex wr pt)) cd (entry (APs.gh C.A x) (APs.gh C.B y)) (DE (D9 fn.ntmps l ex wr pt).sh fn.results.toList C.B.length C.mv (fun r os=>∃z j,C.φ x y z∧Wk (C.r x y z) r∧os++List.replicate j .zz=C.o x y z∧(C.o x y z).length=C.B.length+C.nf))):Has Tryz.prog f C:=by
 refine⟨fun x y hp=>?_,fn,hf,by rw [hb];rfl,hnm⟩
 have hx:(APs.gh C.A x).length≤fn.ntmps:=by rw [APs.fF];exact hlen
 have hy:(APs.gh C.B y).length=C.B.length:=APs.fF C.B y
 refine TC.aiR (TC.tC (P:=Tryz.prog) (N:=fn.ntmps) (S:=DZ (D9 fn.ntmps l ex wr pt)) (sh:=(D9 fn.ntmps l ex wr pt).sh) (f:=f) (fn:=fn) (cd:=cd) (args:=APs.gh C.A x) (bs:=APs.gh C.B y) (mv:=C.mv) (post:=fun r os=>∃z j,C.φ x y z∧Wk (C.r x y z) r∧os++List.replicate j .zz=C.o x y z∧(C.o x y z).length=C.B.length+C.nf) mixed (oG (oM (n:=fn.ntmps) (ex:=ex) (wr:=wr) (pt:=pt) hl)) (Env.DX (oM (n:=fn.ntmps) (ex:=ex) (wr:=wr) (pt:=pt) hl)) hf hb rfl hx (by rw [hy];exact h x y hp)) ?_
 rintro r os ⟨z,j,h1,h2,h3,h4⟩
 exact⟨C.r x y z,j,h2,z,h1,rfl,h3,by rw [h3];exact h4⟩
theorem aw {P:Program}{n:Nat}{S:Sm}{cd:Code}{τ:St}{Q':pb}(h:vc P n S cd τ Q'):vc P n S cd τ Q':=h
theorem ax {F:Oper→Q Rs}{l:List Oper}{τ:St}{K:St→Prop}(h:vcT F l τ K):vcT F l τ K:=h
theorem cO {l:List (FuncId×Con)}{n:Nat}{ex wr pt:Nat→Bool}(hl:AllHas Tryz.prog l) {τ:St}{Q':pb}{cd:Code}{ι:Type}(bY:List fK) (J:ι→AX) (φ:ι→Prop) (μ:ι→Nat) (x0:ι) (sg0:List (Nat×Nat)) (h0:φ x0) (hs:E2 sg0 τ τ bY (J x0))
  (tP:∀x,φ x→vc Tryz.prog n (DZ (D9 n l ex wr pt)) cd ((oR τ bY).ap (J x)) (zp (fun τ'=>∃y sg,φ y∧μ y < μ x∧E2 sg τ τ' bY (J y)) Q')):TW Tryz.prog n (.loop cd) τ Q':=
 ag4 (E:=D9 n l ex wr pt) (oM hl) mixed bY J φ μ x0 sg0 h0 hs tP
abbrev YL (A:List AP) (pre:APs.Ty A→Prop) (r:APs.Ty A→AV):Con where
 A:=A
 B:=[]
 pre:=fun x _=>pre x
 α:=fun _ _=>Unit
 φ:=fun _ _ _=>True
 r:=fun x _ _=>r x
 o:=fun _ _ _=>[]
 nf:=0
def iC (n lo hi:Int):Bool:=decide (lo≤n)&&decide (n≤hi)
theorem cz {n lo hi:Int}:iC n lo hi=true↔lo≤n∧n≤hi:=by simp [iC]
def dE:Con:=YL [.s .int,.s .int,.s .int] (fun _=>True) fun (n,lo,hi)=>.q (iC n lo hi)
theorem iA:Has Tryz.prog 24 dE:=by
 refine Has.of (l:=[]) trivial (fn:=Tryz.f24) Tryz.func24 rfl (by decide) (aZ rfl) ?_
 rintro⟨n,lo,hi⟩ _ _
 refine⟨aa,fun h1=>⟨[],[],_,_,_,rfl,⟨⟨aa,aa⟩,aa⟩,(),aa,?_,rfl,rfl⟩,fun h1=>⟨[],[],_,_,_,rfl,⟨⟨aa,aa⟩,aa⟩,(),aa,?_,rfl,rfl⟩⟩
 ·have h2:lo≤n:=by simpa using h1
  show AV.q (decide (n≤hi))=AV.q (decide (lo≤n)&&decide (n≤hi))
  simp [h2]
 ·have h2:¬lo≤n:=by simpa using h1
  show AV.q false=AV.q (decide (lo≤n)&&decide (n≤hi))
  simp [h2]
abbrev Pt:=Int×Int×Int×Int×Int
abbrev PtS:List SP:=[.int,.int,.int,.int,.int]
def au (p:Pt):Bool:=decide (p.1=0)&&(decide (p.2.1=0)&&(decide (p.2.2.1=0)&&(decide (p.2.2.2.1=0)&&decide (p.2.2.2.2=0))))
def bm:Con:=YL [.a PtS] (fun _=>True) fun p=>.q (au p)
theorem cB:Has Tryz.prog 26 bm:=by
 refine Has.of (l:=[]) trivial (fn:=Tryz.f26) Tryz.func26 rfl (by decide) (aZ rfl) ?_
 rintro⟨a,b,c,d,e⟩ _ _
 refine⟨[],[],_,_,_,rfl,⟨⟨aa,aa⟩,aa⟩,(),aa,?_,rfl,rfl⟩
 rfl
end GL
end Go.Proofs.YtbfgjadbfjkcdaaGreatDoor
