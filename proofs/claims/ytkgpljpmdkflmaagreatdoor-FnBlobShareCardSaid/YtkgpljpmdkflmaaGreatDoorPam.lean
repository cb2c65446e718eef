/- A drawn law returns true for every code (its row lists package variables, tied by the card): part 13. -/
import Derived.Test.YtkgpljpmdkflmaaGreatDoorProg
import Derived.Test.YtkgpljpmdkflmaaGreatDoorPal
set_option maxHeartbeats 20000000
set_option maxRecDepth 100000
set_option linter.all false
namespace Go.Proofs.YtkgpljpmdkflmaaGreatDoor
namespace GL
inductive Kd where
 |str
 |bool
 |int (k:IntKind)
 |slice (ek:EK) (jL:Nat)
 |bytes (jL:Nat)
 |ints (n:Nat)
 |other
 |iface
 |arr (jL:Nat)
structure TI where
 agg:Bool
 size:Nat
 kd:Kd
 zero:List Value
 abW:List (Nat×Bool×Nat)
 places:List (Nat×Nat)
def isIface (P:Program) (t:TypeId):Bool:=match P.underlying t with
 |some (.interface _)=>true
 |_=>false
theorem XA {P:Program}{t:TypeId}(h:isIface P t=true):∃ms,P.underlying t=some (.interface ms):=by
 unfold isIface at h
 split at h
 ·rename_i ms e;exact⟨ms,e⟩
 ·cases h
def aj0 (P:Program) (t:TypeId):Kd→Prop
 |.str=>P.underlying t=some .string
 |.bool=>P.underlying t=some .bool
 |.int k=>P.underlying t=some (.int k)
 |.slice ek jL=>Fits P t ek jL
 |.bytes jL=>Fits P t mj jL∧∃e,P.underlying t=some (.slice e)∧P.underlying e=some (.int .u8)
 |.ints n=>aio P t n
 |.other=>True
 |.iface=>isIface P t=true
 |.arr jL=>Arr P t jL
structure TIok (P:Program) (t:TypeId) (i:TI):Prop where
 sh:Sh P t=some (i.agg,i.size)
 zero:zeroOf P t=some i.zero
 abW:∀(f:Nat) (x:Nat×Bool×Nat),i.abW[f]?=some x→kq P t f=some x
 places:i.places=[]∨afe P t=some (i.places,i.zero)
 kd:aj0 P t i.kd
structure Env where
 N:Nat
 tab:TypeId→Option TI
 rX:FuncId→Option ct
 exact:Nat→Bool:=fun _=>true
 wr:Nat→Bool:=fun _=>false
 part:Nat→Bool:=fun _=>false
structure AW (P:Program) (E:Env):Prop where
 tab:∀t i,E.tab t=some i→TIok P t i
 rX:∀f c,E.rX f=some c→wo P f c∧Enters P f
def mU:Q Rs:=.ret .no
def iI (N:Nat) (o:Option Nat) (k:Nat→Q Rs):Q Rs:=
 match o with
 |some d=>bif Nat.blt d N then k d else mU
 |none=>mU
def mx (E:Env) (t:TypeId) (k:TI→Q Rs):Q Rs:=
 match E.tab t with
 |some i=>k i
 |none=>mU
def agc:Kd→Option EK
 |.slice ek _=>some ek
 |.bytes _=>some mj
 |_=>none
def YF (E:Env) (t:TypeId) (k:EK→Q Rs):Q Rs:=mx E t fun i=>match agc i.kd with
 |some ek=>k ek
 |none=>mU
def YO (E:Env) (d:Nat) (c:Call):Q Rs:=
 match c with
 |⟨.value (.func f),args,_⟩=>ae9 E.rX (E.part d) d f args.toList
 |⟨.value (.tmp k),args,_⟩=>bZ (.tmp k) fun v=>ae7 E.rX (E.part d) d args.toList v
 |⟨.builtin .len,⟨[x]⟩,⟨[t]⟩⟩=>mx E t fun i=>match i.kd with
  |.str=>bZ x fun v=>.ret ((S0 true v).rs d)
  |.slice _ _=>bZ x fun v=>.ret ((S0 false v).rs d)
  |.bytes _=>bZ x fun v=>.ret ((S0 false v).rs d)
  |.arr _=>bZ x fun v=>.ret ((S0 false v).rs d)
  |_=>mU
 |⟨.builtin .append,⟨[x,y]⟩,⟨[t,t']⟩⟩=>bif Nat.beq t t' then YF E t fun ek=>bif E.exact d then bZ x fun v=>bZ y fun u=>aih (E.part d) d ek v u else bZ x fun v=>bZ y fun u=>aii (E.part d) d ek v u else mU
 |⟨.builtin .max,⟨[x,y]⟩,_⟩=>bZ x fun v=>bZ y fun u=>.ret ((mmV true v u).rs d)
 |⟨.builtin .min,⟨[x,y]⟩,_⟩=>bZ x fun v=>bZ y fun u=>.ret ((mmV false v u).rs d)
 |_=>mU
def stp (E:Env) (o:Oper):Q Rs:=
 match o.op with
 |.move x=>iI E.N o.dst fun d=>bZ x fun v=>.ret ((V1.go v).rs d)
 |.assign x=>iI E.N o.dst fun d=>bZ x fun v=>.ret ((V1.go v).rs d)
 |.pick z x y=>iI E.N o.dst fun d=>bZ z fun v=>bZ x fun u=>bZ y fun s=>.ret ((acM v u s).rs d)
 |.alloc t=>iI E.N o.dst fun d=>mx E t fun i=>YB d (uI i.zero)
 |.box _ x=>iI E.N o.dst fun d=>bZ x fun v=>ahY d v
 |.build t parts=>iI E.N o.dst fun d=>mx E t fun i=>match i.places with
  |[]=>mU
  |p::l=>P0 parts.toList fun vs=>.ret ((X5 (p::l) i.zero vs).rs d)
 |.buildSlice t k parts=>iI E.N o.dst fun d=>mx E t fun i=>match i.kd with
  |.arr _=>P0 parts.toList fun vs=>afg d k vs
  |kd=>match agc kd with
   |some ek=>P0 parts.toList fun vs=>PY (E.exact d) d k ek vs
   |none=>mU
 |.load t x=>iI E.N o.dst fun d=>mx E t fun i=>bZ x fun v=>adz i.agg i.size d v
 |.store t x y=>match o.dst with
  |none=>mx E t fun i=>bZ x fun v=>bZ y fun u=>UU i.size v u
  |some _=>mU
 |.nilCheck x=>iI E.N o.dst fun d=>bZ x fun v=>.ret ((aht v).rs d)
 |.binOp op t x y _=>iI E.N o.dst fun d=>mx E t fun i=>match i.kd with
  |.bool=>bZ x fun v=>bZ y fun u=>.ret ((ah0 op v u).rs d)
  |.ints n=>bZ x fun v=>bZ y fun u=>.ret ((ahb n op v u).rs d)
  |.slice _ _=>match y with
   |.const (.slice none 0 0)=>bZ x fun v=>ahu op d v
   |_=>mU
  |.iface=>match y with
   |.const .nilIface=>bZ x fun v=>.ret ((ahT op v).rs d)
   |_=>mU
  |_=>bZ x fun v=>bZ y fun u=>.ret ((ahZ (E.wr d) op v u).rs d)
 |.unOp .not _ x=>iI E.N o.dst fun d=>bZ x fun v=>.ret ((ahr v).rs d)
 |.unOp .neg _ x=>iI E.N o.dst fun d=>bZ x fun v=>.ret ((ahw v).rs d)
 |.convert t u x=>iI E.N o.dst fun d=>mx E t fun i=>mx E u fun j=>match i.kd,j.kd with
  |.bytes _,.str=>bZ x fun v=>acn (E.part d) d v
  |.bytes _,.bytes _=>bif Nat.beq t u then bZ x fun v=>.ret ((acu v).rs d) else mU
  |_,.int k=>bZ x fun v=>.ret ((aeY k v).rs d)
  |_,_=>mU
 |.makeSlice t x y=>iI E.N o.dst fun d=>YF E t fun ek=>bZ x fun v=>bZ y fun u=>ady (E.exact d) d ek v u
 |.slice t x l h none=>iI E.N o.dst fun d=>mx E t fun i=>match i.kd with
  |.str=>bZ x fun v=>qI l fun l'=>qI h fun h'=>.ret ((XY true 0 v l' h').rs d)
  |.slice ek _=>bZ x fun v=>qI l fun l'=>qI h fun h'=>.ret ((XY false ek.length v l' h').rs d)
  |.bytes _=>bZ x fun v=>qI l fun l'=>qI h fun h'=>.ret ((XY false 1 v l' h').rs d)
  |_=>mU
 |.slice t x l h (some m)=>iI E.N o.dst fun d=>mx E t fun i=>match i.kd with
  |.slice ek _=>bZ x fun v=>qI l fun l'=>qI h fun h'=>qI (some m) fun m'=>.ret ((aeX ek.length v l' h' m').rs d)
  |_=>mU
 |.makeFunc (.func f) ⟨[]⟩ DB=>iI E.N o.dst fun d=>X8 DB.toList fun avs=>.ret (fnR d f avs)
 |.fieldAddr t x f=>iI E.N o.dst fun d=>mx E t fun i=>match i.abW[f]? with
  |some (off,_,_)=>bZ x fun v=>.ret ((XQ off v).rs d)
  |none=>mU
 |.field t x f=>iI E.N o.dst fun d=>mx E t fun i=>match i.abW[f]? with
  |some (off,b,n)=>bZ x fun v=>.ret ((XH off b n v).rs d)
  |none=>mU
 |.indexAddr t x y=>iI E.N o.dst fun d=>mx E t fun i=>match i.kd with
  |.arr _=>bZ x fun v=>bZ y fun u=>.ret ((PJ 1 v u).rs d)
  |kd=>match agc kd with
   |some ek=>bZ x fun v=>bZ y fun u=>.ret ((PJ ek.length v u).rs d)
   |none=>mU
 |.index t x y=>iI E.N o.dst fun d=>mx E t fun i=>match i.kd with
  |.str=>bZ x fun v=>bZ y fun u=>.ret ((XB v u).rs d)
  |_=>mU
 |.extract x i=>iI E.N o.dst fun d=>bZ x fun v=>.ret ((JJ i v).rs d)
 |.call c=>iI E.N o.dst fun d=>YO E d c
 |_=>mU
section
variable {P:Program}
theorem eh {N:Nat}{o:Oper}:fw P N o mU:=fun _ _ _ _ _ hp=>hp.elim
theorem dk {N:Nat}{o:Oper}{k:Nat→Q Rs}(h:∀d,o.dst=some d→d<N→fw P N o (k d)):fw P N o (iI N o.dst k):=by
 unfold iI
 split
 ·rename_i d hd
  cases hb:Nat.blt d N with
  |false=>exact eh
  |true=>exact h d hd (mg.1 hb)
 ·exact eh
theorem fx {E:Env}(hE:AW P E) {o:Oper}{t:TypeId}{k:TI→Q Rs}(h:∀i,TIok P t i→fw P E.N o (k i)):fw P E.N o (mx E t k):=by
 unfold mx
 split
 ·rename_i i hi;exact h i (hE.tab t i hi)
 ·exact eh
theorem P8 {E:Env}(hE:AW P E) {o:Oper}{t:TypeId}{k:EK→Q Rs}(h:∀ek jL,Fits P t ek jL→fw P E.N o (k ek)):fw P E.N o (YF E t k):=by
 unfold YF
 refine fx hE fun i hi=>?_
 have hk:=hi.kd
 cases hkd:i.kd with
 |slice ek jL=>rw [hkd] at hk;exact h ek jL hk
 |bytes jL=>rw [hkd] at hk;exact h mj jL hk.1
 |_=>exact eh
theorem aag {t:TypeId}{kd:Kd}(hk:aj0 P t kd) {ek:EK}(h:agc kd=some ek):∃jL,Fits P t ek jL:=by
 cases kd with
 |slice mB jL=>cases h;exact⟨jL,hk⟩
 |bytes jL=>cases h;exact⟨jL,hk.1⟩
 |_=>cases h
theorem ag7 {E:Env}(hE:AW P E) (o:Oper):fw P E.N o (stp E o):=by
 obtain⟨dst,op,ty,pos,af,g⟩:=o
 unfold stp
 cases op
 case move x=>exact dk fun d hd hN=>by cases hd;exact ah4 hN
 case assign x=>exact dk fun d hd hN=>by cases hd;exact afk hN
 case pick z x y=>exact dk fun d hd hN=>by cases hd;exact ah3 hN
 case alloc t=>exact dk fun d hd hN=>fx hE fun i hi=>by cases hd;exact agm hi.zero hN
 case box t x=>exact dk fun d hd hN=>by cases hd;exact ajX hN
 case build t parts=>
  refine dk fun d hd hN=>fx hE fun i hi=>?_
  cases hd
  split
  ·exact eh
  ·rename_i p l rW
   rcases hi.places with h |h
   ·rw [rW] at h;cases h
   ·rw [rW] at h;exact agl h hN
 case buildSlice t k parts=>
  refine dk fun d hd hN=>fx hE fun i hi=>?_
  cases hd
  have hk:=hi.kd
  split
  ·rename_i jL h;rw [h] at hk;exact aid hk hN
  ·split
   ·rename_i ek h
    obtain⟨jL,hf⟩:=aag hk h
    exact afj hf hN
   ·exact eh
 case load t x=>exact dk fun d hd hN=>fx hE fun i hi=>by cases hd;exact ah6 hi.sh hN
 case store t x y=>
  cases dst with
  |none=>exact fx hE fun i hi=>agf hi.sh
  |some _=>exact eh
 case nilCheck x=>exact dk fun d hd hN=>by cases hd;exact ajR hN
 case binOp op t x y t'=>
  refine dk fun d hd hN=>fx hE fun i hi=>?_
  cases hd
  have hk:=hi.kd
  split
  ·rename_i h;rw [h] at hk;exact ajZ hk hN
  ·rename_i n h;rw [h] at hk;exact ajP hk hN
  ·rename_i ek jL h
   rw [h] at hk
   obtain⟨e,i',z',ht,_⟩:=j0 hk.info
   split
   ·exact afh ht hN
   ·exact eh
  ·rename_i h
   rw [h] at hk
   obtain⟨ms,hm⟩:=XA hk
   split
   ·exact ajW hm hN
   ·exact eh
  ·exact aic hN
 case unOp u t x=>
  cases u
  case not=>exact dk fun d hd hN=>by cases hd;exact ajQ hN
  case neg=>exact dk fun d hd hN=>by cases hd;exact ajS hN
  all_goals exact eh
 case convert t u x=>
  refine dk fun d hd hN=>fx hE fun i hi=>fx hE fun j hj=>?_
  cases hd
  have hk:=hi.kd
  have hl:=hj.kd
  split
  ·rename_i h1 h2
   rw [h1] at hk;rw [h2] at hl
   obtain⟨_,e,g1,g2⟩:=hk
   exact ah1 g1 g2 hl hN
  ·rename_i h1 h2
   rw [h1] at hk
   obtain⟨_,e,g1,g2⟩:=hk
   cases hb:Nat.beq t u with
   |false=>exact eh
   |true=>
    have:t=u:=by simpa using hb
    subst this
    exact ah2 g1 g2 hN
  ·rename_i k h2
   rw [h2] at hl
   have ai9:(P.underlying t).isSome=true:=by
    have:=hi.sh
    unfold Sh at this
    cases hu:P.underlying t with
    |none=>rw [hu] at this;simp at this
    |some _=>rfl
   exact aia k ai9 hl hN
  ·exact eh
 case makeSlice t x y=>exact dk fun d hd hN=>P8 hE fun ek jL hf=>by cases hd;exact ah5 hf hN
 case slice t x l h m=>
  cases m with
  |some m=>
    refine dk fun d hd hN=>fx hE fun i hi=>?_
    cases hd
    have hk:=hi.kd
    split
    ·rename_i ek jL h1;rw [h1] at hk;exact ah9 hk.sh hN
    ·exact eh
  |none=>
    refine dk fun d hd hN=>fx hE fun i hi=>?_
    cases hd
    have hk:=hi.kd
    split
    ·rename_i h1;rw [h1] at hk;exact ah8 hk hN
    ·rename_i ek jL h1;rw [h1] at hk;exact afi hk.sh hN
    ·rename_i jL h1;rw [h1] at hk;exact afi hk.1.sh hN
    ·exact eh
 case fieldAddr t x f=>
  refine dk fun d hd hN=>fx hE fun i hi=>?_
  cases hd
  split
  ·rename_i off b n hf;exact agj (hi.abW f _ hf) hN
  ·exact eh
 case field t x f=>
  refine dk fun d hd hN=>fx hE fun i hi=>?_
  cases hd
  split
  ·rename_i off b n hf;exact agi (hi.abW f _ hf) hN
  ·exact eh
 case makeFunc fn first DB=>
  obtain⟨l⟩:=first
  cases fn with
  |func f=>
   cases l with
   |nil=>exact dk fun d hd hN=>by cases hd;exact ajT hN
   |cons _ _=>exact eh
  |_=>exact eh
 case indexAddr t x y=>
  refine dk fun d hd hN=>fx hE fun i hi=>?_
  cases hd
  have hk:=hi.kd
  split
  ·rename_i jL h;rw [h] at hk;exact aat hk.sh hN
  ·split
   ·rename_i ek h
    obtain⟨jL,hf⟩:=aag hk h
    exact aat hf.sh hN
   ·exact eh
 case index t x y=>
  refine dk fun d hd hN=>fx hE fun i hi=>?_
  cases hd
  have hk:=hi.kd
  split
  ·rename_i h;rw [h] at hk;exact agh hk hN
  ·exact eh
 case extract x i=>exact dk fun d hd hN=>by cases hd;exact ab9 hN
 case call c=>
  refine dk fun d hd hN=>?_
  cases hd
  unfold YO
  split
  ·exact aib hE.rX hN
  ·exact agk hE.rX hN
  ·rename_i x t
   refine fx hE fun i hi=>?_
   ·have hk:=hi.kd
    split
    ·rename_i h;rw [h] at hk;exact ah7 hk hN
    ·rename_i ek jL h;rw [h] at hk;exact X7 hk.sh hN
    ·rename_i jL h;rw [h] at hk;exact X7 hk.1.sh hN
    ·rename_i jL h;rw [h] at hk;exact X7 hk.sh hN
    ·exact eh
  ·rename_i x y t t'
   cases hb:Nat.beq t t' with
   |false=>exact eh
   |true=>
    have:t=t':=by simpa using hb
    subst this
    refine P8 hE fun ek jL hf=>?_
    cases E.exact d with
    |true=>exact aie hf hN
    |false=>exact aif hf hN
  ·exact ajV hN
  ·exact ajU hN
  ·exact eh
 all_goals exact eh
end
end GL
namespace GL
def Q.map {α β:Type 1}(f:α→β):Q α→Q β
 |.ret a=>.ret (f a)
 |.ask r k=>.ask r fun v=>(k v).map f
theorem Q.ZE {α β:Type 1}(f:α→β) (τ:St):∀q:Q α,(q.map f).run τ=f (q.run τ)
 |.ret _=>rfl
 |.ask r k=>Q.ZE f τ (k (τ r))
def brk (gs:List Nat):Rs→Rs
 |.go [(.s d,.o (.s (.q b)))]=>bif iy gs d then .br True b d else .go [(.s d,.o (.s (.q b)))]
 |.nc p [(.s d,.o (.s (.q b)))]=>bif iy gs d then .br p b d else .nc p [(.s d,.o (.s (.q b)))]
 |r=>r
def CZ (ops:Array Oper):List Oper→List Nat
 |[]=>[]
 |o::l=>match o.guard with
  |some (j,_)=>match ops[j]? with
   |some og=>match og.dst with
    |some g=>g::CZ ops l
    |none=>CZ ops l
   |none=>CZ ops l
  |none=>CZ ops l
def XG (N:Nat) (ops:Array Oper) (o:Oper) (q:Q Rs):Q Rs:=
 match o.guard with
 |none=>q
 |some (j,want)=>match ops[j]?,o.dst with
  |some og,some d=>match og.dst with
   |some g=>.ask (.s g) fun
    |some (.o (.s (.v (.bool b))))=>bif (bif want then b else !b) then q else (bif Nat.blt d N then .ret (.go [(.s d,.s (.v undef))]) else mU)
    |some (.o (.s (.v (.tuple _))))=>bif Nat.blt d N then .ret (.go [(.s d,.s (.v undef))]) else mU
    |_=>mU
   |none=>mU
  |_,_=>mU
def sem (E:Env):Sm:=fun ops o=>XG E.N ops o ((stp E o).map (brk (CZ ops ops.toList)))
section
variable {P:Program}{N:Nat}
theorem Rel.swap {c:Ctx}{τ:St}{a:Act}{w:World}{d:Nat}{b:Bool}(h:Rel N c (τ.ap [(.s d,.s (.q b))]) a w):Rel N c (τ.ap [(.s d,.s (.v (.bool b)))]) a w:=by
 obtain⟨T,β,hh⟩:=h
 have hb:∀i,(τ.ap [(.s d,.s (.v (.bool b)))]) (.b i)=(τ.ap [(.s d,.s (.q b))]) (.b i):=fun i=>by rw [um,um,if_neg (by simp),if_neg (by simp)]
 have hl:∀i,live (τ.ap [(.s d,.s (.v (.bool b)))]) i→live (τ.ap [(.s d,.s (.q b))]) i:=fun i hi=>by
  unfold live at hi ⊢
  rwa [hb] at hi
 refine⟨T,β,{ hh with
  iK:=fun i av hi=>by
   rw [um] at hi
   by_cases e:fK.s i= .s d
   ·rw [if_pos e] at hi
    cases hi
    exact hh.iK i (.s (.q b)) (by rw [um,if_pos e])
   ·rw [if_neg e] at hi
    exact hh.iK i av (by rw [um,if_neg e];exact hi)
  boxes:=fun i av hi hz=>hh.boxes i av (by rwa [hb] at hi) hz
  apart:=fun i hi=>hh.apart i (hl i hi)
  handed:=fun i b' hb' hi=>hh.handed i b' hb' (hl i hi)
  inj:=fun i j hi hj e=>hh.inj i j (hl i hi) (hl j hj) e
  named:=fun r av hr i hi=>by
   rw [hb]
   rw [um] at hr
   by_cases e:r= .s d
   ·rw [if_pos e] at hr;cases hr;simp [AV.boxes,A0.boxes,SV.boxes] at hi
   ·rw [if_neg e] at hr
    exact hh.named r av (by rw [um,if_neg e];exact hr) i hi }⟩
theorem ahX {o:Oper}{q:Q Rs}(gs:List Nat) (h:fw P N o q):fw P N o (q.map (brk gs)):=by
 intro c τ a w hr hp K Q' hK
 rw [Q.ZE] at hp hK
 refine h c τ a w hr ?_ K Q' ?_
 ·unfold brk at hp
  split at hp
  ·rename_i heq;rw [heq];trivial
  ·rename_i p d b heq
   rw [heq]
   cases hm:iy gs d with
   |true=>rw [hm] at hp;exact hp
   |false=>rw [hm] at hp;exact hp
  ·exact hp
 ·intro u a' w' hu uN
  unfold brk at hK
  split at hK
  ·rename_i d b heq
   rw [heq] at hu
   cases hu
   cases hm:iy gs d with
   |true=>rw [hm] at hK;exact hK _ _ _ rfl uN.swap
   |false=>rw [hm] at hK;exact hK _ _ _ rfl uN
  ·rename_i p d b heq
   rw [heq] at hu
   cases hu
   cases hm:iy gs d with
   |true=>rw [hm] at hK;exact hK _ _ _ rfl uN.swap
   |false=>rw [hm] at hK;exact hK _ _ _ rfl uN
  ·exact hK _ _ _ hu uN
theorem ael {ops:Array Oper}{o:Oper}{q:Q Rs}(h:fw P N o q):OpS P N ops o (XG N ops o q):=by
 intro c τ a w hr hp K Q' hK
 unfold XG at hp hK
 cases hg:o.guard with
 |none=>
  rw [hg] at hp hK
  have:Region.wanted o (yielded ops a.tmps)=true:=by simp [Region.wanted,hg]
  rw [if_pos this]
  exact h c τ a w hr hp K Q' hK
 |some jw=>
  obtain⟨j,want⟩:=jw
  rw [hg] at hp hK
  simp only at hp hK
  split at hp
  ·rename_i og d hj hd
   simp only [hj,hd] at hK
   split at hp
   ·rename_i g hgd
    simp only [hgd,Q.run] at hK
    simp only [Q.run] at hp
    split at hp
    ·rename_i b hb
     simp only [hb] at hK
     obtain⟨T,β,hh⟩:=hr
     obtain⟨v,hv,c7⟩:=hh.iK g _ hb
     have hv':v= .bool b:=c7
     subst hv'
     have hy:yielded ops a.tmps j=some b:=by simp [yielded,hj,hgd,hv]
     cases hw:(bif want then b else !b) with
     |true=>
      rw [hw] at hp hK
      have hbw:b=want:=by cases b<;>cases want<;>simp at hw ⊢
      have:Region.wanted o (yielded ops a.tmps)=true:=by simp [Region.wanted,hg,hy,hbw]
      rw [if_pos this]
      exact h c τ a w ⟨T,β,hh⟩ hp K Q' hK
     |false=>
      rw [hw] at hp hK
      have hbw:b≠want:=by cases b<;>cases want<;>simp at hw ⊢
      have:¬Region.wanted o (yielded ops a.tmps)=true:=by simp [Region.wanted,hg,hy,hbw]
      rw [if_neg this]
      simp only [cond_false] at hp hK
      cases hN:Nat.blt d N with
      |false=>rw [hN] at hp;exact hp.elim
      |true=>
       rw [hN] at hK
       rw [hd]
       exact hK _ _ _ rfl ⟨T,β,hh.put (mg.1 hN) (av:=.s (.v undef)) rfl (by simp [AV.boxes,A0.boxes,SV.boxes])⟩
    ·rename_i x hb
     simp only [hb] at hK
     obtain⟨T,β,hh⟩:=hr
     obtain⟨v,hv,c7⟩:=hh.iK g _ hb
     have hv':v= .tuple x:=c7
     subst hv'
     have hy:yielded ops a.tmps j=none:=by simp [yielded,hj,hgd,hv]
     have:¬Region.wanted o (yielded ops a.tmps)=true:=by simp [Region.wanted,hg,hy]
     rw [if_neg this]
     cases hN:Nat.blt d N with
     |false=>rw [hN] at hp;exact hp.elim
     |true=>
      rw [hN] at hK
      rw [hd]
      exact hK _ _ _ rfl ⟨T,β,hh.put (mg.1 hN) (av:=.s (.v undef)) rfl (by simp [AV.boxes,A0.boxes,SV.boxes])⟩
    ·exact hp.elim
   ·exact hp.elim
  ·exact hp.elim
theorem oB {E:Env}(hE:AW P E):UL P E.N (sem E):=fun ops _ o _=>ael (ahX (CZ ops ops.toList) (ag7 hE o))
def Env.sh (E:Env) (t:TypeId):Option (Bool×Nat):=match E.tab t with
 |some i=>some (i.agg,i.size)
 |none=>none
theorem Env.DP {E:Env}(hE:AW P E):∀t x,E.sh t=some x→Sh P t=some x:=fun t x h=>by
 unfold Env.sh at h
 split at h
 ·rename_i i hi;cases h;exact (hE.tab t i hi).sh
 ·cases h
theorem wo.of {E:Env}(hE:AW P E) (hm:P.follows .mixedOrders=true) {f:FuncId}{fn:Func}{cd:Code}{C:ct}(hf:P.funcs[f]?=some fn) (hb:fn.body=some cd) (hN:fn.ntmps=E.N) (hlen:C.A.length≤E.N)
  (h:∀x y,C.pre x y→vc P E.N (sem E) cd (entry (APs.avs C.A x) (APs.avs C.B y)) (endQ E.sh fn.results.toList C.B.length C.mv (fun r os=>∃z,C.φ x y z∧r=C.r x y z∧os=C.o x y z∧os.length=C.B.length+C.nf))):wo P f C:=by
 intro x y hp
 refine TC.tA hm (oB hE) (Env.DP hE) hf hb hN (by rw [APs.fF];exact hlen) ?_
 rw [APs.fF]
 exact h x y hp
theorem agE {E:Env}(hE:AW P E) (hm:P.follows .mixedOrders=true) {τ:St}{Q':o8}{cd:Code}{ι:Type}(ca:List fK) (J:ι→AO) (φ:ι→Prop) (μ:ι→Nat) (x0:ι) (sg0:List (Nat×Nat)) (h0:φ x0) (hs:EP sg0 τ τ ca (J x0))
  (tN:∀x,φ x→vc P E.N (sem E) cd ((oO τ ca).ap (J x)) (zf (fun τ'=>∃y sg,φ y∧μ y < μ x∧EP sg τ τ' ca (J y)) Q')):TW P E.N (.loop cd) τ Q':=
 TW.aiX hm (oB hE) ca J φ μ x0 sg0 h0 hs tN
end
end GL
namespace GL
theorem ZY {P:Program}{t:TypeId}:∀(l:List (Nat×Bool×Nat)) (k:Nat),(l.zipIdx k).map (fun p=>kq P t p.2)=l.map some→∀(f:Nat) (x:Nat×Bool×Nat),l[f]?=some x→kq P t (k+f)=some x
 |[],_,_,f,x,h=>by simp at h
 |y::l,k,h,0,x,hx=>by
  simp only [List.zipIdx_cons,ZE7,ZG6] at h
  simp at hx;subst hx
  simpa using h.1
 |y::l,k,h,f+1,x,hx=>by
  simp only [List.zipIdx_cons,ZE7,ZG6] at h
  have:=ZY l (k+1) h.2 f x (by simpa using hx)
  rwa [show k+1+f=k+(f+1) by omega] at this
theorem flds_all {P:Program}{t:TypeId}{l:List (Nat×Bool×Nat)}(h:(l.zipIdx 0).map (fun p=>kq P t p.2)=l.map some):∀(f:Nat) (x:Nat×Bool×Nat),l[f]?=some x→kq P t f=some x:=fun f x hx=>by
 have:=ZY l 0 h f x hx
 rwa [ZA6] at this
theorem ints_at {P : Program} {t : TypeId} {l : List String} (h : (P.fieldsOf t).toList.map (fun f => (f.name, P.underlying f.type, Sh P f.type, f.offset)) = l.zipIdx.map (fun p => (p.1, some (.int .i64), some (false, 1), p.2))) (hn : ∀ s ∈ l, s ≠ "_") :
  ∀ (i : Nat) (f : Field), (P.fieldsOf t)[i]? = some f → f.name ≠ "_" ∧ P.underlying f.type = some (.int .i64) ∧ Sh P f.type = some (false, 1) ∧ f.offset = i := by
 intro i f hf
 have h1:=congrArg (fun l=>l[i]?) h
 simp only [List.getElem?_map,Array.getElem?_toList,hf,Option.map_some,List.getElem?_zipIdx] at h1
 cases hl:l[i]? with
 |none=>rw [hl] at h1;simp at h1
 |some s=>
  rw [hl] at h1
  simp at h1
  obtain⟨h2,h3,h4,h5⟩:=h1
  exact⟨by rw [h2];exact hn s (ZB6 hl),h3,h4,h5⟩
def UQ:TI:=⟨false,1,.int .i64,[.int .i64 0],[],[]⟩
theorem ok_int:TIok Tryz.prog 3 UQ:=⟨by show Sh Tryz.prog 3=some (false,1);kernel_rfl,by show zeroOf Tryz.prog 3=some [.int .i64 0];kernel_rfl,by simp [UQ],.inl rfl,by show Tryz.prog.underlying 3=some (.int .i64);kernel_rfl⟩
def NR:TI:=⟨false,1,.bool,[.bool false],[],[]⟩
theorem afC:TIok Tryz.prog 4 NR:=⟨by show Sh Tryz.prog 4=some (false,1);kernel_rfl,by show zeroOf Tryz.prog 4=some [.bool false];kernel_rfl,by simp [NR],.inl rfl,by show Tryz.prog.underlying 4=some .bool;kernel_rfl⟩
def F4:TI:=⟨false,1,.int .u8,[.int .u8 0],[],[]⟩
theorem adg:TIok Tryz.prog 5 F4:=⟨by show Sh Tryz.prog 5=some (false,1);kernel_rfl,by show zeroOf Tryz.prog 5=some [.int .u8 0];kernel_rfl,by simp [F4],.inl rfl,by show Tryz.prog.underlying 5=some (.int .u8);kernel_rfl⟩
def A6:TI:=⟨false,1,.str,[.string ByteArray.empty],[],[]⟩
theorem abt:TIok Tryz.prog 9 A6:=⟨by show Sh Tryz.prog 9=some (false,1);kernel_rfl,by show zeroOf Tryz.prog 9=some [.string ByteArray.empty];kernel_rfl,by simp [A6],.inl rfl,by show Tryz.prog.underlying 9=some .string;kernel_rfl⟩
def xO:TI:=⟨false,1,.bytes 1,[.slice none 0 0],[],[]⟩
theorem WL:TIok Tryz.prog 22 xO:=⟨by show Sh Tryz.prog 22=some (false,1);kernel_rfl,by show zeroOf Tryz.prog 22=some [.slice none 0 0];kernel_rfl,by simp [xO],.inl rfl,⟨⟨by show vR Tryz.prog 22=some (1,1,[.int .u8 0]);kernel_rfl,by simp,by decide⟩,5,by kernel_rfl,by kernel_rfl⟩⟩
abbrev ab:EK:=[.str 4096]
def uW:TI:=⟨false,1,.slice ab 16,[.slice none 0 0],[],[]⟩
theorem SA:TIok Tryz.prog 23 uW:=⟨by show Sh Tryz.prog 23=some (false,1);kernel_rfl,by show zeroOf Tryz.prog 23=some [.slice none 0 0];kernel_rfl,by simp [uW],.inl rfl,⟨by show vR Tryz.prog 23=some (1,16,[.string ByteArray.empty]);kernel_rfl,by simp,by decide⟩⟩
abbrev ag:EK:=[.i64]
def F7:TI:=⟨false,1,.slice ag 8,[.slice none 0 0],[],[]⟩
theorem adm:TIok Tryz.prog 24 F7:=⟨by show Sh Tryz.prog 24=some (false,1);kernel_rfl,by show zeroOf Tryz.prog 24=some [.slice none 0 0];kernel_rfl,by simp [F7],.inl rfl,⟨by show vR Tryz.prog 24=some (1,8,[.int .i64 0]);kernel_rfl,by simp,by decide⟩⟩
def QD:TI:=⟨true,2,.other,[.slice none 0 0,.slice none 0 0],[(0,false,1),(1,false,1)],[(0,1),(1,1)]⟩
theorem adl:TIok Tryz.prog 26 QD:=⟨by show Sh Tryz.prog 26=some (true,2);kernel_rfl,by show zeroOf Tryz.prog 26=some [.slice none 0 0,.slice none 0 0];kernel_rfl,flds_all (by kernel_rfl),.inr (by kernel_rfl),trivial⟩
abbrev ae:EK:=[.i64,.i64,.i64,.i64,.i64]
def F8:TI:=⟨false,1,.slice ae 40,[.slice none 0 0],[],[]⟩
theorem adn:TIok Tryz.prog 27 F8:=⟨by show Sh Tryz.prog 27=some (false,1);kernel_rfl,by show zeroOf Tryz.prog 27=some [.slice none 0 0];kernel_rfl,by simp [F8],.inl rfl,⟨by show vR Tryz.prog 27=some (5,40,[.int .i64 0,.int .i64 0,.int .i64 0,.int .i64 0,.int .i64 0]);kernel_rfl,by simp,by decide⟩⟩
def pD:TI:=⟨true,8,.other,[.slice none 0 0,.slice none 0 0,.slice none 0 0,.int .i64 0,.slice none 0 0,.int .i64 0,.slice none 0 0,.bool false],[(0,false,1),(1,true,2),(3,false,1),(4,false,1),(5,false,1),(6,false,1),(7,false,1)],[(0,1),(1,2),(3,1),(4,1),(5,1),(6,1),(7,1)]⟩
theorem adk:TIok Tryz.prog 29 pD:=⟨by show Sh Tryz.prog 29=some (true,8);kernel_rfl,by show zeroOf Tryz.prog 29=some [.slice none 0 0,.slice none 0 0,.slice none 0 0,.int .i64 0,.slice none 0 0,.int .i64 0,.slice none 0 0,.bool false];kernel_rfl,flds_all (by kernel_rfl),.inr (by kernel_rfl),trivial⟩
def ti_Ptr:TI:=⟨true,5,.ints 5,[.int .i64 0,.int .i64 0,.int .i64 0,.int .i64 0,.int .i64 0],[(0,false,1),(1,false,1),(2,false,1),(3,false,1),(4,false,1)],[(0,1),(1,1),(2,1),(3,1),(4,1)]⟩
theorem ok_Ptr : TIok Tryz.prog 31 ti_Ptr := ⟨by show Sh Tryz.prog 31 = some (true, 5); kernel_rfl, by show zeroOf Tryz.prog 31 = some [.int .i64 0, .int .i64 0, .int .i64 0, .int .i64 0, .int .i64 0]; kernel_rfl, flds_all (by kernel_rfl), .inr (by kernel_rfl), ⟨by kernel_rfl, by kernel_rfl, by kernel_rfl, by kernel_rfl, ints_at (l := ["At", "Birth", "Size", "Sum", "Level"]) (by kernel_rfl) (by decide)⟩⟩
def sY:TI:=⟨true,7,.other,[.int .i64 0,.int .i64 0,.int .i64 0,.int .i64 0,.int .i64 0,.int .i64 0,.int .i64 0],[(0,true,5),(5,false,1),(6,false,1)],[(0,5),(5,1),(6,1)]⟩
theorem afD:TIok Tryz.prog 33 sY:=⟨by show Sh Tryz.prog 33=some (true,7);kernel_rfl,by show zeroOf Tryz.prog 33=some [.int .i64 0,.int .i64 0,.int .i64 0,.int .i64 0,.int .i64 0,.int .i64 0,.int .i64 0];kernel_rfl,flds_all (by kernel_rfl),.inr (by kernel_rfl),trivial⟩
def YI:TI:=⟨true,10,.other,[.int .i64 0,.int .i64 0,.int .i64 0,.int .i64 0,.int .i64 0,.int .i64 0,.int .i64 0,.int .i64 0,.int .i64 0,.int .i64 0],[(0,false,1),(1,false,1),(2,false,1),(3,true,7)],[(0,1),(1,1),(2,1),(3,7)]⟩
theorem afF:TIok Tryz.prog 56 YI:=⟨by show Sh Tryz.prog 56=some (true,10);kernel_rfl,by show zeroOf Tryz.prog 56=some [.int .i64 0,.int .i64 0,.int .i64 0,.int .i64 0,.int .i64 0,.int .i64 0,.int .i64 0,.int .i64 0,.int .i64 0,.int .i64 0];kernel_rfl,flds_all (by kernel_rfl),.inr (by kernel_rfl),trivial⟩
def YH:TI:=⟨true,2,.other,[.slice none 0 0,.int .i64 0],[(0,false,1),(1,false,1)],[(0,1),(1,1)]⟩
theorem afB:TIok Tryz.prog 108 YH:=⟨by show Sh Tryz.prog 108=some (true,2);kernel_rfl,by show zeroOf Tryz.prog 108=some [.slice none 0 0,.int .i64 0];kernel_rfl,flds_all (by kernel_rfl),.inr (by kernel_rfl),trivial⟩
abbrev o9:EK:=[.i64,.i64,.i64,.i64,.i64,.i64,.i64,.i64,.i64,.i64]
def A8:TI:=⟨false,1,.slice o9 80,[.slice none 0 0],[],[]⟩
theorem abv:TIok Tryz.prog 109 A8:=⟨by show Sh Tryz.prog 109=some (false,1);kernel_rfl,by show zeroOf Tryz.prog 109=some [.slice none 0 0];kernel_rfl,by simp [A8],.inl rfl,⟨by show vR Tryz.prog 109=some (10,80,[.int .i64 0,.int .i64 0,.int .i64 0,.int .i64 0,.int .i64 0,.int .i64 0,.int .i64 0,.int .i64 0,.int .i64 0,.int .i64 0]);kernel_rfl,by simp,by decide⟩⟩
abbrev EO:EK:=[.i64,.str 4096,.str 4096,.i64,.str 4096]
def NS:TI:=⟨false,1,.slice EO 64,[.slice none 0 0],[],[]⟩
theorem afE:TIok Tryz.prog 153 NS:=⟨by show Sh Tryz.prog 153=some (false,1);kernel_rfl,by show zeroOf Tryz.prog 153=some [.slice none 0 0];kernel_rfl,by simp [NS],.inl rfl,⟨by show vR Tryz.prog 153=some (5,64,[.int .i64 0,.string ByteArray.empty,.string ByteArray.empty,.int .i64 0,.string ByteArray.empty]);kernel_rfl,by simp,by decide⟩⟩
def agu:TI:=⟨true,5,.other,[.int .i64 0,.string ByteArray.empty,.string ByteArray.empty,.int .i64 0,.string ByteArray.empty],[(0,false,1),(1,false,1),(2,false,1),(3,false,1),(4,false,1)],[(0,1),(1,1),(2,1),(3,1),(4,1)]⟩
theorem aiN:TIok Tryz.prog 158 agu:=⟨by show Sh Tryz.prog 158=some (true,5);kernel_rfl,by show zeroOf Tryz.prog 158=some [.int .i64 0,.string ByteArray.empty,.string ByteArray.empty,.int .i64 0,.string ByteArray.empty];kernel_rfl,flds_all (by kernel_rfl),.inr (by kernel_rfl),trivial⟩
def QC:TI:=⟨true,16,.other,[.slice none 0 0,.slice none 0 0,.slice none 0 0,.int .i64 0,.slice none 0 0,.int .i64 0,.slice none 0 0,.bool false,.int .i64 0,.int .i64 0,.int .i64 0,.int .i64 0,.int .i64 0,.int .i64 0,.int .i64 0,.bool false],[(0,true,8),(8,true,7),(15,false,1)],[(0,8),(8,7),(15,1)]⟩
theorem adi:TIok Tryz.prog 187 QC:=⟨by show Sh Tryz.prog 187=some (true,16);kernel_rfl,by show zeroOf Tryz.prog 187=some [.slice none 0 0,.slice none 0 0,.slice none 0 0,.int .i64 0,.slice none 0 0,.int .i64 0,.slice none 0 0,.bool false,.int .i64 0,.int .i64 0,.int .i64 0,.int .i64 0,.int .i64 0,.int .i64 0,.int .i64 0,.bool false];kernel_rfl,flds_all (by kernel_rfl),.inr (by kernel_rfl),trivial⟩
abbrev aK:EK:=[.str 4096,.i64]
def xP:TI:=⟨false,1,.slice aK 24,[.slice none 0 0],[],[]⟩
theorem WM:TIok Tryz.prog 214 xP:=⟨by show Sh Tryz.prog 214=some (false,1);kernel_rfl,by show zeroOf Tryz.prog 214=some [.slice none 0 0];kernel_rfl,by simp [xP],.inl rfl,⟨by show vR Tryz.prog 214=some (2,24,[.string ByteArray.empty,.int .i64 0]);kernel_rfl,by simp,by decide⟩⟩
def QE:TI:=⟨true,2,.other,[.string ByteArray.empty,.int .i64 0],[(0,false,1),(1,false,1)],[(0,1),(1,1)]⟩
theorem ado:TIok Tryz.prog 220 QE:=⟨by show Sh Tryz.prog 220=some (true,2);kernel_rfl,by show zeroOf Tryz.prog 220=some [.string ByteArray.empty,.int .i64 0];kernel_rfl,flds_all (by kernel_rfl),.inr (by kernel_rfl),trivial⟩
def F6:TI:=⟨false,1,.iface,[.nilIface],[],[]⟩
theorem adj:TIok Tryz.prog 91 F6:=⟨by show Sh Tryz.prog 91=some (false,1);kernel_rfl,by show zeroOf Tryz.prog 91=some [.nilIface];kernel_rfl,by simp [F6],.inl rfl,by show isIface Tryz.prog 91=true;kernel_rfl⟩
def A7:TI:=⟨false,1,.arr 8,[.slice none 0 0],[],[]⟩
theorem abu:TIok Tryz.prog 203 A7:=⟨by show Sh Tryz.prog 203=some (false,1);kernel_rfl,by show zeroOf Tryz.prog 203=some [.slice none 0 0];kernel_rfl,by simp [A7],.inl rfl,⟨⟨.pointer none,by kernel_rfl⟩,by decide⟩⟩
def tab:TypeId→Option TI
 |3=>some UQ
 |4=>some NR
 |5=>some F4
 |9=>some A6
 |22=>some xO
 |23=>some uW
 |24=>some F7
 |26=>some QD
 |27=>some F8
 |29=>some pD
 |31=>some ti_Ptr
 |33=>some sY
 |56=>some YI
 |108=>some YH
 |109=>some A8
 |153=>some NS
 |158=>some agu
 |187=>some QC
 |214=>some xP
 |220=>some QE
 |91=>some F6
 |203=>some A7
 |_=>none
theorem acp:∀t i,tab t=some i→TIok Tryz.prog t i:=by
 intro t i h
 unfold tab at h
 split at h
 ·cases h;exact ok_int
 ·cases h;exact afC
 ·cases h;exact adg
 ·cases h;exact abt
 ·cases h;exact WL
 ·cases h;exact SA
 ·cases h;exact adm
 ·cases h;exact adl
 ·cases h;exact adn
 ·cases h;exact adk
 ·cases h;exact ok_Ptr
 ·cases h;exact afD
 ·cases h;exact afF
 ·cases h;exact afB
 ·cases h;exact abv
 ·cases h;exact afE
 ·cases h;exact aiN
 ·cases h;exact adi
 ·cases h;exact WM
 ·cases h;exact ado
 ·cases h;exact adj
 ·cases h;exact abu
 ·cases h
theorem mixed:Tryz.prog.follows .mixedOrders=true:=by kernel_rfl
end GL
end Go.Proofs.YtkgpljpmdkflmaaGreatDoor
