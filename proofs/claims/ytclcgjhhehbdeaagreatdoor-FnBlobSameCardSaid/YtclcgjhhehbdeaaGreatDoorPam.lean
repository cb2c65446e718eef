/- A drawn law returns true for every code (its row lists package variables, tied by the card): part 13. -/
import Derived.Test.YtclcgjhhehbdeaaGreatDoorProg
import Derived.Test.YtclcgjhhehbdeaaGreatDoorPal
set_option maxHeartbeats 20000000
set_option maxRecDepth 100000
set_option linter.all false
namespace Go.Proofs.YtclcgjhhehbdeaaGreatDoor
namespace GL
inductive Kd where
 |str
 |bool
 |int (k:IntKind)
 |slice (ek:EK) (jH:Nat)
 |bytes (jH:Nat)
 |ints (n:Nat)
 |other
 |iface
 |arr (jH:Nat)
structure TI where
 agg:Bool
 size:Nat
 kd:Kd
 zero:List Value
 abS:List (Nat×Bool×Nat)
 places:List (Nat×Nat)
def isIface (P:Program) (t:TypeId):Bool:=match P.underlying t with
 |some (.interface _)=>true
 |_=>false
theorem W7 {P:Program}{t:TypeId}(h:isIface P t=true):∃ms,P.underlying t=some (.interface ms):=by
 unfold isIface at h
 split at h
 ·rename_i ms e;exact⟨ms,e⟩
 ·cases h
def ajX (P:Program) (t:TypeId):Kd→Prop
 |.str=>P.underlying t=some .string
 |.bool=>P.underlying t=some .bool
 |.int k=>P.underlying t=some (.int k)
 |.slice ek jH=>Fits P t ek jH
 |.bytes jH=>Fits P t ma jH∧∃e,P.underlying t=some (.slice e)∧P.underlying e=some (.int .u8)
 |.ints n=>ain P t n
 |.other=>True
 |.iface=>isIface P t=true
 |.arr jH=>Arr P t jH
structure TIok (P:Program) (t:TypeId) (i:TI):Prop where
 sh:Sh P t=some (i.agg,i.size)
 zero:zeroOf P t=some i.zero
 abS:∀(f:Nat) (x:Nat×Bool×Nat),i.abS[f]?=some x→kk P t f=some x
 places:i.places=[]∨afc P t=some (i.places,i.zero)
 kd:ajX P t i.kd
structure Env where
 N:Nat
 tab:TypeId→Option TI
 rQ:FuncId→Option cn
 exact:Nat→Bool:=fun _=>true
 wr:Nat→Bool:=fun _=>false
 part:Nat→Bool:=fun _=>false
structure AQ (P:Program) (E:Env):Prop where
 tab:∀t i,E.tab t=some i→TIok P t i
 rQ:∀f c,E.rQ f=some c→wc P f c∧Enters P f
def mN:Q Rs:=.ret .no
def iF (N:Nat) (o:Option Nat) (k:Nat→Q Rs):Q Rs:=
 match o with
 |some d=>bif Nat.blt d N then k d else mN
 |none=>mN
def ml (E:Env) (t:TypeId) (k:TI→Q Rs):Q Rs:=
 match E.tab t with
 |some i=>k i
 |none=>mN
def aga:Kd→Option EK
 |.slice ek _=>some ek
 |.bytes _=>some ma
 |_=>none
def YB (E:Env) (t:TypeId) (k:EK→Q Rs):Q Rs:=ml E t fun i=>match aga i.kd with
 |some ek=>k ek
 |none=>mN
def YK (E:Env) (d:Nat) (c:Call):Q Rs:=
 match c with
 |⟨.value (.func f),args,_⟩=>ae5 E.rQ (E.part d) d f args.toList
 |⟨.value (.tmp k),args,_⟩=>bY (.tmp k) fun v=>ae3 E.rQ (E.part d) d args.toList v
 |⟨.builtin .len,⟨[x]⟩,⟨[t]⟩⟩=>ml E t fun i=>match i.kd with
  |.str=>bY x fun v=>.ret ((SX true v).rs d)
  |.slice _ _=>bY x fun v=>.ret ((SX false v).rs d)
  |.bytes _=>bY x fun v=>.ret ((SX false v).rs d)
  |.arr _=>bY x fun v=>.ret ((SX false v).rs d)
  |_=>mN
 |⟨.builtin .append,⟨[x,y]⟩,⟨[t,t']⟩⟩=>bif Nat.beq t t' then YB E t fun ek=>bif E.exact d then bY x fun v=>bY y fun u=>aif (E.part d) d ek v u else bY x fun v=>bY y fun u=>aih (E.part d) d ek v u else mN
 |⟨.builtin .max,⟨[x,y]⟩,_⟩=>bY x fun v=>bY y fun u=>.ret ((mmV true v u).rs d)
 |⟨.builtin .min,⟨[x,y]⟩,_⟩=>bY x fun v=>bY y fun u=>.ret ((mmV false v u).rs d)
 |_=>mN
def stp (E:Env) (o:Oper):Q Rs:=
 match o.op with
 |.move x=>iF E.N o.dst fun d=>bY x fun v=>.ret ((V1.go v).rs d)
 |.assign x=>iF E.N o.dst fun d=>bY x fun v=>.ret ((V1.go v).rs d)
 |.pick z x y=>iF E.N o.dst fun d=>bY z fun v=>bY x fun u=>bY y fun s=>.ret ((acI v u s).rs d)
 |.alloc t=>iF E.N o.dst fun d=>ml E t fun i=>X7 d (uB i.zero)
 |.box _ x=>iF E.N o.dst fun d=>bY x fun v=>ahX d v
 |.build t parts=>iF E.N o.dst fun d=>ml E t fun i=>match i.places with
  |[]=>mN
  |p::l=>PW parts.toList fun vs=>.ret ((X1 (p::l) i.zero vs).rs d)
 |.buildSlice t k parts=>iF E.N o.dst fun d=>ml E t fun i=>match i.kd with
  |.arr _=>PW parts.toList fun vs=>afe d k vs
  |kd=>match aga kd with
   |some ek=>PW parts.toList fun vs=>PU (E.exact d) d k ek vs
   |none=>mN
 |.load t x=>iF E.N o.dst fun d=>ml E t fun i=>bY x fun v=>adv i.agg i.size d v
 |.store t x y=>match o.dst with
  |none=>ml E t fun i=>bY x fun v=>bY y fun u=>UR i.size v u
  |some _=>mN
 |.nilCheck x=>iF E.N o.dst fun d=>bY x fun v=>.ret ((ahr v).rs d)
 |.binOp op t x y _=>iF E.N o.dst fun d=>ml E t fun i=>match i.kd with
  |.bool=>bY x fun v=>bY y fun u=>.ret ((ahZ op v u).rs d)
  |.ints n=>bY x fun v=>bY y fun u=>.ret ((ag9 n op v u).rs d)
  |.slice _ _=>match y with
   |.const (.slice none 0 0)=>bY x fun v=>ahs op d v
   |_=>mN
  |.iface=>match y with
   |.const .nilIface=>bY x fun v=>.ret ((ahS op v).rs d)
   |_=>mN
  |_=>bY x fun v=>bY y fun u=>.ret ((ahY (E.wr d) op v u).rs d)
 |.unOp .not _ x=>iF E.N o.dst fun d=>bY x fun v=>.ret ((ahp v).rs d)
 |.unOp .neg _ x=>iF E.N o.dst fun d=>bY x fun v=>.ret ((ahu v).rs d)
 |.convert t u x=>iF E.N o.dst fun d=>ml E t fun i=>ml E u fun j=>match i.kd,j.kd with
  |.bytes _,.str=>bY x fun v=>aci (E.part d) d v
  |.bytes _,.bytes _=>bif Nat.beq t u then bY x fun v=>.ret ((acp v).rs d) else mN
  |_,.int k=>bY x fun v=>.ret ((aeU k v).rs d)
  |_,_=>mN
 |.makeSlice t x y=>iF E.N o.dst fun d=>YB E t fun ek=>bY x fun v=>bY y fun u=>adu (E.exact d) d ek v u
 |.slice t x l h none=>iF E.N o.dst fun d=>ml E t fun i=>match i.kd with
  |.str=>bY x fun v=>qB l fun l'=>qB h fun h'=>.ret ((XV true 0 v l' h').rs d)
  |.slice ek _=>bY x fun v=>qB l fun l'=>qB h fun h'=>.ret ((XV false ek.length v l' h').rs d)
  |.bytes _=>bY x fun v=>qB l fun l'=>qB h fun h'=>.ret ((XV false 1 v l' h').rs d)
  |_=>mN
 |.slice t x l h (some m)=>iF E.N o.dst fun d=>ml E t fun i=>match i.kd with
  |.slice ek _=>bY x fun v=>qB l fun l'=>qB h fun h'=>qB (some m) fun m'=>.ret ((aeT ek.length v l' h' m').rs d)
  |_=>mN
 |.makeFunc (.func f) ⟨[]⟩ C6=>iF E.N o.dst fun d=>X4 C6.toList fun avs=>.ret (fnR d f avs)
 |.fieldAddr t x f=>iF E.N o.dst fun d=>ml E t fun i=>match i.abS[f]? with
  |some (off,_,_)=>bY x fun v=>.ret ((XN off v).rs d)
  |none=>mN
 |.field t x f=>iF E.N o.dst fun d=>ml E t fun i=>match i.abS[f]? with
  |some (off,b,n)=>bY x fun v=>.ret ((XE off b n v).rs d)
  |none=>mN
 |.indexAddr t x y=>iF E.N o.dst fun d=>ml E t fun i=>match i.kd with
  |.arr _=>bY x fun v=>bY y fun u=>.ret ((PF 1 v u).rs d)
  |kd=>match aga kd with
   |some ek=>bY x fun v=>bY y fun u=>.ret ((PF ek.length v u).rs d)
   |none=>mN
 |.index t x y=>iF E.N o.dst fun d=>ml E t fun i=>match i.kd with
  |.str=>bY x fun v=>bY y fun u=>.ret ((W8 v u).rs d)
  |_=>mN
 |.extract x i=>iF E.N o.dst fun d=>bY x fun v=>.ret ((JE i v).rs d)
 |.call c=>iF E.N o.dst fun d=>YK E d c
 |_=>mN
section
variable {P:Program}
theorem ef {N:Nat}{o:Oper}:fu P N o mN:=fun _ _ _ _ _ hp=>hp.elim
theorem dk {N:Nat}{o:Oper}{k:Nat→Q Rs}(h:∀d,o.dst=some d→d<N→fu P N o (k d)):fu P N o (iF N o.dst k):=by
 unfold iF
 split
 ·rename_i d hd
  cases hb:Nat.blt d N with
  |false=>exact ef
  |true=>exact h d hd (l8.1 hb)
 ·exact ef
theorem fv {E:Env}(hE:AQ P E) {o:Oper}{t:TypeId}{k:TI→Q Rs}(h:∀i,TIok P t i→fu P E.N o (k i)):fu P E.N o (ml E t k):=by
 unfold ml
 split
 ·rename_i i hi;exact h i (hE.tab t i hi)
 ·exact ef
theorem P4 {E:Env}(hE:AQ P E) {o:Oper}{t:TypeId}{k:EK→Q Rs}(h:∀ek jH,Fits P t ek jH→fu P E.N o (k ek)):fu P E.N o (YB E t k):=by
 unfold YB
 refine fv hE fun i hi=>?_
 have hk:=hi.kd
 cases hkd:i.kd with
 |slice ek jH=>rw [hkd] at hk;exact h ek jH hk
 |bytes jH=>rw [hkd] at hk;exact h ma jH hk.1
 |_=>exact ef
theorem aac {t:TypeId}{kd:Kd}(hk:ajX P t kd) {ek:EK}(h:aga kd=some ek):∃jH,Fits P t ek jH:=by
 cases kd with
 |slice mr jH=>cases h;exact⟨jH,hk⟩
 |bytes jH=>cases h;exact⟨jH,hk.1⟩
 |_=>cases h
theorem ag5 {E:Env}(hE:AQ P E) (o:Oper):fu P E.N o (stp E o):=by
 obtain⟨dst,op,ty,pos,af,g⟩:=o
 unfold stp
 cases op
 case move x=>exact dk fun d hd hN=>by cases hd;exact ah3 hN
 case assign x=>exact dk fun d hd hN=>by cases hd;exact afi hN
 case pick z x y=>exact dk fun d hd hN=>by cases hd;exact ah2 hN
 case alloc t=>exact dk fun d hd hN=>fv hE fun i hi=>by cases hd;exact agk hi.zero hN
 case box t x=>exact dk fun d hd hN=>by cases hd;exact ajU hN
 case build t parts=>
  refine dk fun d hd hN=>fv hE fun i hi=>?_
  cases hd
  split
  ·exact ef
  ·rename_i p l rP
   rcases hi.places with h |h
   ·rw [rP] at h;cases h
   ·rw [rP] at h;exact agj h hN
 case buildSlice t k parts=>
  refine dk fun d hd hN=>fv hE fun i hi=>?_
  cases hd
  have hk:=hi.kd
  split
  ·rename_i jH h;rw [h] at hk;exact aic hk hN
  ·split
   ·rename_i ek h
    obtain⟨jH,hf⟩:=aac hk h
    exact afh hf hN
   ·exact ef
 case load t x=>exact dk fun d hd hN=>fv hE fun i hi=>by cases hd;exact ah5 hi.sh hN
 case store t x y=>
  cases dst with
  |none=>exact fv hE fun i hi=>agd hi.sh
  |some _=>exact ef
 case nilCheck x=>exact dk fun d hd hN=>by cases hd;exact ajO hN
 case binOp op t x y t'=>
  refine dk fun d hd hN=>fv hE fun i hi=>?_
  cases hd
  have hk:=hi.kd
  split
  ·rename_i h;rw [h] at hk;exact ajW hk hN
  ·rename_i n h;rw [h] at hk;exact ajM hk hN
  ·rename_i ek jH h
   rw [h] at hk
   obtain⟨e,i',z',ht,_⟩:=jV hk.info
   split
   ·exact aff ht hN
   ·exact ef
  ·rename_i h
   rw [h] at hk
   obtain⟨ms,hm⟩:=W7 hk
   split
   ·exact ajT hm hN
   ·exact ef
  ·exact aib hN
 case unOp u t x=>
  cases u
  case not=>exact dk fun d hd hN=>by cases hd;exact ajN hN
  case neg=>exact dk fun d hd hN=>by cases hd;exact ajP hN
  all_goals exact ef
 case convert t u x=>
  refine dk fun d hd hN=>fv hE fun i hi=>fv hE fun j hj=>?_
  cases hd
  have hk:=hi.kd
  have hl:=hj.kd
  split
  ·rename_i h1 h2
   rw [h1] at hk;rw [h2] at hl
   obtain⟨_,e,g1,g2⟩:=hk
   exact ah0 g1 g2 hl hN
  ·rename_i h1 h2
   rw [h1] at hk
   obtain⟨_,e,g1,g2⟩:=hk
   cases hb:Nat.beq t u with
   |false=>exact ef
   |true=>
    have:t=u:=by simpa using hb
    subst this
    exact ah1 g1 g2 hN
  ·rename_i k h2
   rw [h2] at hl
   have ai6:(P.underlying t).isSome=true:=by
    have:=hi.sh
    unfold Sh at this
    cases hu:P.underlying t with
    |none=>rw [hu] at this;simp at this
    |some _=>rfl
   exact ah9 k ai6 hl hN
  ·exact ef
 case makeSlice t x y=>exact dk fun d hd hN=>P4 hE fun ek jH hf=>by cases hd;exact ah4 hf hN
 case slice t x l h m=>
  cases m with
  |some m=>
    refine dk fun d hd hN=>fv hE fun i hi=>?_
    cases hd
    have hk:=hi.kd
    split
    ·rename_i ek jH h1;rw [h1] at hk;exact ah8 hk.sh hN
    ·exact ef
  |none=>
    refine dk fun d hd hN=>fv hE fun i hi=>?_
    cases hd
    have hk:=hi.kd
    split
    ·rename_i h1;rw [h1] at hk;exact ah7 hk hN
    ·rename_i ek jH h1;rw [h1] at hk;exact afg hk.sh hN
    ·rename_i jH h1;rw [h1] at hk;exact afg hk.1.sh hN
    ·exact ef
 case fieldAddr t x f=>
  refine dk fun d hd hN=>fv hE fun i hi=>?_
  cases hd
  split
  ·rename_i off b n hf;exact agh (hi.abS f _ hf) hN
  ·exact ef
 case field t x f=>
  refine dk fun d hd hN=>fv hE fun i hi=>?_
  cases hd
  split
  ·rename_i off b n hf;exact agf (hi.abS f _ hf) hN
  ·exact ef
 case makeFunc fn first C6=>
  obtain⟨l⟩:=first
  cases fn with
  |func f=>
   cases l with
   |nil=>exact dk fun d hd hN=>by cases hd;exact ajQ hN
   |cons _ _=>exact ef
  |_=>exact ef
 case indexAddr t x y=>
  refine dk fun d hd hN=>fv hE fun i hi=>?_
  cases hd
  have hk:=hi.kd
  split
  ·rename_i jH h;rw [h] at hk;exact aap hk.sh hN
  ·split
   ·rename_i ek h
    obtain⟨jH,hf⟩:=aac hk h
    exact aap hf.sh hN
   ·exact ef
 case index t x y=>
  refine dk fun d hd hN=>fv hE fun i hi=>?_
  cases hd
  have hk:=hi.kd
  split
  ·rename_i h;rw [h] at hk;exact age hk hN
  ·exact ef
 case extract x i=>exact dk fun d hd hN=>by cases hd;exact ab5 hN
 case call c=>
  refine dk fun d hd hN=>?_
  cases hd
  unfold YK
  split
  ·exact aia hE.rQ hN
  ·exact agi hE.rQ hN
  ·rename_i x t
   refine fv hE fun i hi=>?_
   ·have hk:=hi.kd
    split
    ·rename_i h;rw [h] at hk;exact ah6 hk hN
    ·rename_i ek jH h;rw [h] at hk;exact X3 hk.sh hN
    ·rename_i jH h;rw [h] at hk;exact X3 hk.1.sh hN
    ·rename_i jH h;rw [h] at hk;exact X3 hk.sh hN
    ·exact ef
  ·rename_i x y t t'
   cases hb:Nat.beq t t' with
   |false=>exact ef
   |true=>
    have:t=t':=by simpa using hb
    subst this
    refine P4 hE fun ek jH hf=>?_
    cases E.exact d with
    |true=>exact aid hf hN
    |false=>exact aie hf hN
  ·exact ajS hN
  ·exact ajR hN
  ·exact ef
 all_goals exact ef
end
end GL
namespace GL
def Q.map {α β:Type 1}(f:α→β):Q α→Q β
 |.ret a=>.ret (f a)
 |.ask r k=>.ask r fun v=>(k v).map f
theorem Q.ZA {α β:Type 1}(f:α→β) (τ:St):∀q:Q α,(q.map f).run τ=f (q.run τ)
 |.ret _=>rfl
 |.ask r k=>Q.ZA f τ (k (τ r))
def brk (gs:List Nat):Rs→Rs
 |.go [(.s d,.o (.s (.q b)))]=>bif ix gs d then .br True b d else .go [(.s d,.o (.s (.q b)))]
 |.mV p [(.s d,.o (.s (.q b)))]=>bif ix gs d then .br p b d else .mV p [(.s d,.o (.s (.q b)))]
 |r=>r
def CT (ops:Array Oper):List Oper→List Nat
 |[]=>[]
 |o::l=>match o.guard with
  |some (j,_)=>match ops[j]? with
   |some og=>match og.dst with
    |some g=>g::CT ops l
    |none=>CT ops l
   |none=>CT ops l
  |none=>CT ops l
def XD (N:Nat) (ops:Array Oper) (o:Oper) (q:Q Rs):Q Rs:=
 match o.guard with
 |none=>q
 |some (j,want)=>match ops[j]?,o.dst with
  |some og,some d=>match og.dst with
   |some g=>.ask (.s g) fun
    |some (.o (.s (.v (.bool b))))=>bif (bif want then b else !b) then q else (bif Nat.blt d N then .ret (.go [(.s d,.s (.v undef))]) else mN)
    |some (.o (.s (.v (.tuple _))))=>bif Nat.blt d N then .ret (.go [(.s d,.s (.v undef))]) else mN
    |_=>mN
   |none=>mN
  |_,_=>mN
def sem (E:Env):Sm:=fun ops o=>XD E.N ops o ((stp E o).map (brk (CT ops ops.toList)))
section
variable {P:Program}{N:Nat}
theorem Rel.swap {c:Ctx}{τ:St}{a:Act}{w:World}{d:Nat}{b:Bool}(h:Rel N c (τ.ap [(.s d,.s (.q b))]) a w):Rel N c (τ.ap [(.s d,.s (.v (.bool b)))]) a w:=by
 obtain⟨T,β,hh⟩:=h
 have hb:∀i,(τ.ap [(.s d,.s (.v (.bool b)))]) (.b i)=(τ.ap [(.s d,.s (.q b))]) (.b i):=fun i=>by rw [uf,uf,if_neg (by simp),if_neg (by simp)]
 have hl:∀i,live (τ.ap [(.s d,.s (.v (.bool b)))]) i→live (τ.ap [(.s d,.s (.q b))]) i:=fun i hi=>by
  unfold live at hi ⊢
  rwa [hb] at hi
 refine⟨T,β,{ hh with
  iH:=fun i av hi=>by
   rw [uf] at hi
   by_cases e:fI.s i= .s d
   ·rw [if_pos e] at hi
    cases hi
    exact hh.iH i (.s (.q b)) (by rw [uf,if_pos e])
   ·rw [if_neg e] at hi
    exact hh.iH i av (by rw [uf,if_neg e];exact hi)
  boxes:=fun i av hi hz=>hh.boxes i av (by rwa [hb] at hi) hz
  apart:=fun i hi=>hh.apart i (hl i hi)
  handed:=fun i b' hb' hi=>hh.handed i b' hb' (hl i hi)
  inj:=fun i j hi hj e=>hh.inj i j (hl i hi) (hl j hj) e
  named:=fun r av hr i hi=>by
   rw [hb]
   rw [uf] at hr
   by_cases e:r= .s d
   ·rw [if_pos e] at hr;cases hr;simp [AV.boxes,A0.boxes,SV.boxes] at hi
   ·rw [if_neg e] at hr
    exact hh.named r av (by rw [uf,if_neg e];exact hr) i hi }⟩
theorem ahW {o:Oper}{q:Q Rs}(gs:List Nat) (h:fu P N o q):fu P N o (q.map (brk gs)):=by
 intro c τ a w hr hp K Q' hK
 rw [Q.ZA] at hp hK
 refine h c τ a w hr ?_ K Q' ?_
 ·unfold brk at hp
  split at hp
  ·rename_i heq;rw [heq];trivial
  ·rename_i p d b heq
   rw [heq]
   cases hm:ix gs d with
   |true=>rw [hm] at hp;exact hp
   |false=>rw [hm] at hp;exact hp
  ·exact hp
 ·intro u a' w' hu uG
  unfold brk at hK
  split at hK
  ·rename_i d b heq
   rw [heq] at hu
   cases hu
   cases hm:ix gs d with
   |true=>rw [hm] at hK;exact hK _ _ _ rfl uG.swap
   |false=>rw [hm] at hK;exact hK _ _ _ rfl uG
  ·rename_i p d b heq
   rw [heq] at hu
   cases hu
   cases hm:ix gs d with
   |true=>rw [hm] at hK;exact hK _ _ _ rfl uG.swap
   |false=>rw [hm] at hK;exact hK _ _ _ rfl uG
  ·exact hK _ _ _ hu uG
theorem aeh {ops:Array Oper}{o:Oper}{q:Q Rs}(h:fu P N o q):OpS P N ops o (XD N ops o q):=by
 intro c τ a w hr hp K Q' hK
 unfold XD at hp hK
 cases hg:o.guard with
 |none=>
  rw [hg] at hp hK
  have:Region.wanted o (yielded ops a.tmps)=true:=by simp [Region.wanted,hg]
  rw [if_pos this]
  exact h c τ a w hr hp K Q' hK
 |some jw=>
  obtain⟨j,want⟩:=jw
  rw [hg] at hp hK
  simp only at hp hK
  split at hp
  ·rename_i og d hj hd
   simp only [hj,hd] at hK
   split at hp
   ·rename_i g hgd
    simp only [hgd,Q.run] at hK
    simp only [Q.run] at hp
    split at hp
    ·rename_i b hb
     simp only [hb] at hK
     obtain⟨T,β,hh⟩:=hr
     obtain⟨v,hv,c6⟩:=hh.iH g _ hb
     have hv':v= .bool b:=c6
     subst hv'
     have hy:yielded ops a.tmps j=some b:=by simp [yielded,hj,hgd,hv]
     cases hw:(bif want then b else !b) with
     |true=>
      rw [hw] at hp hK
      have hbw:b=want:=by cases b<;>cases want<;>simp at hw ⊢
      have:Region.wanted o (yielded ops a.tmps)=true:=by simp [Region.wanted,hg,hy,hbw]
      rw [if_pos this]
      exact h c τ a w ⟨T,β,hh⟩ hp K Q' hK
     |false=>
      rw [hw] at hp hK
      have hbw:b≠want:=by cases b<;>cases want<;>simp at hw ⊢
      have:¬Region.wanted o (yielded ops a.tmps)=true:=by simp [Region.wanted,hg,hy,hbw]
      rw [if_neg this]
      simp only [cond_false] at hp hK
      cases hN:Nat.blt d N with
      |false=>rw [hN] at hp;exact hp.elim
      |true=>
       rw [hN] at hK
       rw [hd]
       exact hK _ _ _ rfl ⟨T,β,hh.put (l8.1 hN) (av:=.s (.v undef)) rfl (by simp [AV.boxes,A0.boxes,SV.boxes])⟩
    ·rename_i x hb
     simp only [hb] at hK
     obtain⟨T,β,hh⟩:=hr
     obtain⟨v,hv,c6⟩:=hh.iH g _ hb
     have hv':v= .tuple x:=c6
     subst hv'
     have hy:yielded ops a.tmps j=none:=by simp [yielded,hj,hgd,hv]
     have:¬Region.wanted o (yielded ops a.tmps)=true:=by simp [Region.wanted,hg,hy]
     rw [if_neg this]
     cases hN:Nat.blt d N with
     |false=>rw [hN] at hp;exact hp.elim
     |true=>
      rw [hN] at hK
      rw [hd]
      exact hK _ _ _ rfl ⟨T,β,hh.put (l8.1 hN) (av:=.s (.v undef)) rfl (by simp [AV.boxes,A0.boxes,SV.boxes])⟩
    ·exact hp.elim
   ·exact hp.elim
  ·exact hp.elim
theorem ov {E:Env}(hE:AQ P E):UI P E.N (sem E):=fun ops _ o _=>aeh (ahW (CT ops ops.toList) (ag5 hE o))
def Env.sh (E:Env) (t:TypeId):Option (Bool×Nat):=match E.tab t with
 |some i=>some (i.agg,i.size)
 |none=>none
theorem Env.DK {E:Env}(hE:AQ P E):∀t x,E.sh t=some x→Sh P t=some x:=fun t x h=>by
 unfold Env.sh at h
 split at h
 ·rename_i i hi;cases h;exact (hE.tab t i hi).sh
 ·cases h
theorem wc.of {E:Env}(hE:AQ P E) (hm:P.follows .mixedOrders=true) {f:FuncId}{fn:Func}{cd:Code}{C:cn}(hf:P.funcs[f]?=some fn) (hb:fn.body=some cd) (hN:fn.ntmps=E.N) (hlen:C.A.length≤E.N)
  (h:∀x y,C.pre x y→vc P E.N (sem E) cd (entry (APs.avs C.A x) (APs.avs C.B y)) (endQ E.sh fn.results.toList C.B.length C.mv (fun r os=>∃z,C.φ x y z∧r=C.r x y z∧os=C.o x y z∧os.length=C.B.length+C.nf))):wc P f C:=by
 intro x y hp
 refine TC.tm hm (ov hE) (Env.DK hE) hf hb hN (by rw [APs.fD];exact hlen) ?_
 rw [APs.fD]
 exact h x y hp
theorem agC {E:Env}(hE:AQ P E) (hm:P.follows .mixedOrders=true) {τ:St}{Q':oX}{cd:Code}{ι:Type}(bZ:List fI) (J:ι→AJ) (φ:ι→Prop) (μ:ι→Nat) (x0:ι) (sg0:List (Nat×Nat)) (h0:φ x0) (hs:EJ sg0 τ τ bZ (J x0))
  (tH:∀x,φ x→vc P E.N (sem E) cd ((oI τ bZ).ap (J x)) (y7 (fun τ'=>∃y sg,φ y∧μ y < μ x∧EJ sg τ τ' bZ (J y)) Q')):TW P E.N (.loop cd) τ Q':=
 TW.aiU hm (ov hE) bZ J φ μ x0 sg0 h0 hs tH
end
end GL
namespace GL
theorem ZU {P:Program}{t:TypeId}:∀(l:List (Nat×Bool×Nat)) (k:Nat),(l.zipIdx k).map (fun p=>kk P t p.2)=l.map some→∀(f:Nat) (x:Nat×Bool×Nat),l[f]?=some x→kk P t (k+f)=some x
 |[],_,_,f,x,h=>by simp at h
 |y::l,k,h,0,x,hx=>by
  simp only [List.zipIdx_cons,ZE7,ZG6] at h
  simp at hx;subst hx
  simpa using h.1
 |y::l,k,h,f+1,x,hx=>by
  simp only [List.zipIdx_cons,ZE7,ZG6] at h
  have:=ZU l (k+1) h.2 f x (by simpa using hx)
  rwa [show k+1+f=k+(f+1) by omega] at this
theorem flds_all {P:Program}{t:TypeId}{l:List (Nat×Bool×Nat)}(h:(l.zipIdx 0).map (fun p=>kk P t p.2)=l.map some):∀(f:Nat) (x:Nat×Bool×Nat),l[f]?=some x→kk P t f=some x:=fun f x hx=>by
 have:=ZU l 0 h f x hx
 rwa [ZA6] at this
theorem ints_at {P : Program} {t : TypeId} {l : List String} (h : (P.fieldsOf t).toList.map (fun f => (f.name, P.underlying f.type, Sh P f.type, f.offset)) = l.zipIdx.map (fun p => (p.1, some (.int .i64), some (false, 1), p.2))) (hn : ∀ s ∈ l, s ≠ "_") :
  ∀ (i : Nat) (f : Field), (P.fieldsOf t)[i]? = some f → f.name ≠ "_" ∧ P.underlying f.type = some (.int .i64) ∧ Sh P f.type = some (false, 1) ∧ f.offset = i := by
 intro i f hf
 have h1:=congrArg (fun l=>l[i]?) h
 simp only [List.getElem?_map,Array.getElem?_toList,hf,Option.map_some,List.getElem?_zipIdx] at h1
 cases hl:l[i]? with
 |none=>rw [hl] at h1;simp at h1
 |some s=>
  rw [hl] at h1
  simp at h1
  obtain⟨h2,h3,h4,h5⟩:=h1
  exact⟨by rw [h2];exact hn s (ZB6 hl),h3,h4,h5⟩
def UN:TI:=⟨false,1,.int .i64,[.int .i64 0],[],[]⟩
theorem ok_int:TIok Tryz.prog 3 UN:=⟨by show Sh Tryz.prog 3=some (false,1);kernel_rfl,by show zeroOf Tryz.prog 3=some [.int .i64 0];kernel_rfl,by simp [UN],.inl rfl,by show Tryz.prog.underlying 3=some (.int .i64);kernel_rfl⟩
def NN:TI:=⟨false,1,.bool,[.bool false],[],[]⟩
theorem afA:TIok Tryz.prog 4 NN:=⟨by show Sh Tryz.prog 4=some (false,1);kernel_rfl,by show zeroOf Tryz.prog 4=some [.bool false];kernel_rfl,by simp [NN],.inl rfl,by show Tryz.prog.underlying 4=some .bool;kernel_rfl⟩
def F0:TI:=⟨false,1,.int .u8,[.int .u8 0],[],[]⟩
theorem ada:TIok Tryz.prog 5 F0:=⟨by show Sh Tryz.prog 5=some (false,1);kernel_rfl,by show zeroOf Tryz.prog 5=some [.int .u8 0];kernel_rfl,by simp [F0],.inl rfl,by show Tryz.prog.underlying 5=some (.int .u8);kernel_rfl⟩
def A1:TI:=⟨false,1,.str,[.string ByteArray.empty],[],[]⟩
theorem abo:TIok Tryz.prog 9 A1:=⟨by show Sh Tryz.prog 9=some (false,1);kernel_rfl,by show zeroOf Tryz.prog 9=some [.string ByteArray.empty];kernel_rfl,by simp [A1],.inl rfl,by show Tryz.prog.underlying 9=some .string;kernel_rfl⟩
def xH:TI:=⟨false,1,.bytes 1,[.slice none 0 0],[],[]⟩
theorem WI:TIok Tryz.prog 22 xH:=⟨by show Sh Tryz.prog 22=some (false,1);kernel_rfl,by show zeroOf Tryz.prog 22=some [.slice none 0 0];kernel_rfl,by simp [xH],.inl rfl,⟨⟨by show vK Tryz.prog 22=some (1,1,[.int .u8 0]);kernel_rfl,by simp,by decide⟩,5,by kernel_rfl,by kernel_rfl⟩⟩
abbrev ab:EK:=[.str 4096]
def uP:TI:=⟨false,1,.slice ab 16,[.slice none 0 0],[],[]⟩
theorem R7:TIok Tryz.prog 23 uP:=⟨by show Sh Tryz.prog 23=some (false,1);kernel_rfl,by show zeroOf Tryz.prog 23=some [.slice none 0 0];kernel_rfl,by simp [uP],.inl rfl,⟨by show vK Tryz.prog 23=some (1,16,[.string ByteArray.empty]);kernel_rfl,by simp,by decide⟩⟩
abbrev ag:EK:=[.i64]
def F3:TI:=⟨false,1,.slice ag 8,[.slice none 0 0],[],[]⟩
theorem adi:TIok Tryz.prog 24 F3:=⟨by show Sh Tryz.prog 24=some (false,1);kernel_rfl,by show zeroOf Tryz.prog 24=some [.slice none 0 0];kernel_rfl,by simp [F3],.inl rfl,⟨by show vK Tryz.prog 24=some (1,8,[.int .i64 0]);kernel_rfl,by simp,by decide⟩⟩
def P9:TI:=⟨true,2,.other,[.slice none 0 0,.slice none 0 0],[(0,false,1),(1,false,1)],[(0,1),(1,1)]⟩
theorem adh:TIok Tryz.prog 26 P9:=⟨by show Sh Tryz.prog 26=some (true,2);kernel_rfl,by show zeroOf Tryz.prog 26=some [.slice none 0 0,.slice none 0 0];kernel_rfl,flds_all (by kernel_rfl),.inr (by kernel_rfl),trivial⟩
abbrev ae:EK:=[.i64,.i64,.i64,.i64,.i64]
def F4:TI:=⟨false,1,.slice ae 40,[.slice none 0 0],[],[]⟩
theorem adj:TIok Tryz.prog 27 F4:=⟨by show Sh Tryz.prog 27=some (false,1);kernel_rfl,by show zeroOf Tryz.prog 27=some [.slice none 0 0];kernel_rfl,by simp [F4],.inl rfl,⟨by show vK Tryz.prog 27=some (5,40,[.int .i64 0,.int .i64 0,.int .i64 0,.int .i64 0,.int .i64 0]);kernel_rfl,by simp,by decide⟩⟩
def pw:TI:=⟨true,8,.other,[.slice none 0 0,.slice none 0 0,.slice none 0 0,.int .i64 0,.slice none 0 0,.int .i64 0,.slice none 0 0,.bool false],[(0,false,1),(1,true,2),(3,false,1),(4,false,1),(5,false,1),(6,false,1),(7,false,1)],[(0,1),(1,2),(3,1),(4,1),(5,1),(6,1),(7,1)]⟩
theorem adg:TIok Tryz.prog 29 pw:=⟨by show Sh Tryz.prog 29=some (true,8);kernel_rfl,by show zeroOf Tryz.prog 29=some [.slice none 0 0,.slice none 0 0,.slice none 0 0,.int .i64 0,.slice none 0 0,.int .i64 0,.slice none 0 0,.bool false];kernel_rfl,flds_all (by kernel_rfl),.inr (by kernel_rfl),trivial⟩
def ti_Ptr:TI:=⟨true,5,.ints 5,[.int .i64 0,.int .i64 0,.int .i64 0,.int .i64 0,.int .i64 0],[(0,false,1),(1,false,1),(2,false,1),(3,false,1),(4,false,1)],[(0,1),(1,1),(2,1),(3,1),(4,1)]⟩
theorem ok_Ptr : TIok Tryz.prog 31 ti_Ptr := ⟨by show Sh Tryz.prog 31 = some (true, 5); kernel_rfl, by show zeroOf Tryz.prog 31 = some [.int .i64 0, .int .i64 0, .int .i64 0, .int .i64 0, .int .i64 0]; kernel_rfl, flds_all (by kernel_rfl), .inr (by kernel_rfl), ⟨by kernel_rfl, by kernel_rfl, by kernel_rfl, by kernel_rfl, ints_at (l := ["At", "Birth", "Size", "Sum", "Level"]) (by kernel_rfl) (by decide)⟩⟩
def sR:TI:=⟨true,7,.other,[.int .i64 0,.int .i64 0,.int .i64 0,.int .i64 0,.int .i64 0,.int .i64 0,.int .i64 0],[(0,true,5),(5,false,1),(6,false,1)],[(0,5),(5,1),(6,1)]⟩
theorem afB:TIok Tryz.prog 33 sR:=⟨by show Sh Tryz.prog 33=some (true,7);kernel_rfl,by show zeroOf Tryz.prog 33=some [.int .i64 0,.int .i64 0,.int .i64 0,.int .i64 0,.int .i64 0,.int .i64 0,.int .i64 0];kernel_rfl,flds_all (by kernel_rfl),.inr (by kernel_rfl),trivial⟩
def YD:TI:=⟨true,2,.other,[.slice none 0 0,.int .i64 0],[(0,false,1),(1,false,1)],[(0,1),(1,1)]⟩
theorem afz:TIok Tryz.prog 82 YD:=⟨by show Sh Tryz.prog 82=some (true,2);kernel_rfl,by show zeroOf Tryz.prog 82=some [.slice none 0 0,.int .i64 0];kernel_rfl,flds_all (by kernel_rfl),.inr (by kernel_rfl),trivial⟩
abbrev oY:EK:=[.i64,.i64,.i64,.i64,.i64,.i64,.i64,.i64,.i64,.i64]
def A3:TI:=⟨false,1,.slice oY 80,[.slice none 0 0],[],[]⟩
theorem abq:TIok Tryz.prog 83 A3:=⟨by show Sh Tryz.prog 83=some (false,1);kernel_rfl,by show zeroOf Tryz.prog 83=some [.slice none 0 0];kernel_rfl,by simp [A3],.inl rfl,⟨by show vK Tryz.prog 83=some (10,80,[.int .i64 0,.int .i64 0,.int .i64 0,.int .i64 0,.int .i64 0,.int .i64 0,.int .i64 0,.int .i64 0,.int .i64 0,.int .i64 0]);kernel_rfl,by simp,by decide⟩⟩
def YE:TI:=⟨true,10,.other,[.int .i64 0,.int .i64 0,.int .i64 0,.int .i64 0,.int .i64 0,.int .i64 0,.int .i64 0,.int .i64 0,.int .i64 0,.int .i64 0],[(0,false,1),(1,false,1),(2,false,1),(3,true,7)],[(0,1),(1,1),(2,1),(3,7)]⟩
theorem afD:TIok Tryz.prog 86 YE:=⟨by show Sh Tryz.prog 86=some (true,10);kernel_rfl,by show zeroOf Tryz.prog 86=some [.int .i64 0,.int .i64 0,.int .i64 0,.int .i64 0,.int .i64 0,.int .i64 0,.int .i64 0,.int .i64 0,.int .i64 0,.int .i64 0];kernel_rfl,flds_all (by kernel_rfl),.inr (by kernel_rfl),trivial⟩
abbrev EI:EK:=[.i64,.str 4096,.str 4096,.i64,.str 4096]
def NO:TI:=⟨false,1,.slice EI 64,[.slice none 0 0],[],[]⟩
theorem afC:TIok Tryz.prog 114 NO:=⟨by show Sh Tryz.prog 114=some (false,1);kernel_rfl,by show zeroOf Tryz.prog 114=some [.slice none 0 0];kernel_rfl,by simp [NO],.inl rfl,⟨by show vK Tryz.prog 114=some (5,64,[.int .i64 0,.string ByteArray.empty,.string ByteArray.empty,.int .i64 0,.string ByteArray.empty]);kernel_rfl,by simp,by decide⟩⟩
def ags:TI:=⟨true,5,.other,[.int .i64 0,.string ByteArray.empty,.string ByteArray.empty,.int .i64 0,.string ByteArray.empty],[(0,false,1),(1,false,1),(2,false,1),(3,false,1),(4,false,1)],[(0,1),(1,1),(2,1),(3,1),(4,1)]⟩
theorem aiK:TIok Tryz.prog 118 ags:=⟨by show Sh Tryz.prog 118=some (true,5);kernel_rfl,by show zeroOf Tryz.prog 118=some [.int .i64 0,.string ByteArray.empty,.string ByteArray.empty,.int .i64 0,.string ByteArray.empty];kernel_rfl,flds_all (by kernel_rfl),.inr (by kernel_rfl),trivial⟩
def P8:TI:=⟨true,16,.other,[.slice none 0 0,.slice none 0 0,.slice none 0 0,.int .i64 0,.slice none 0 0,.int .i64 0,.slice none 0 0,.bool false,.int .i64 0,.int .i64 0,.int .i64 0,.int .i64 0,.int .i64 0,.int .i64 0,.int .i64 0,.bool false],[(0,true,8),(8,true,7),(15,false,1)],[(0,8),(8,7),(15,1)]⟩
theorem ade:TIok Tryz.prog 153 P8:=⟨by show Sh Tryz.prog 153=some (true,16);kernel_rfl,by show zeroOf Tryz.prog 153=some [.slice none 0 0,.slice none 0 0,.slice none 0 0,.int .i64 0,.slice none 0 0,.int .i64 0,.slice none 0 0,.bool false,.int .i64 0,.int .i64 0,.int .i64 0,.int .i64 0,.int .i64 0,.int .i64 0,.int .i64 0,.bool false];kernel_rfl,flds_all (by kernel_rfl),.inr (by kernel_rfl),trivial⟩
abbrev aK:EK:=[.str 4096,.i64]
def xI:TI:=⟨false,1,.slice aK 24,[.slice none 0 0],[],[]⟩
theorem WJ:TIok Tryz.prog 176 xI:=⟨by show Sh Tryz.prog 176=some (false,1);kernel_rfl,by show zeroOf Tryz.prog 176=some [.slice none 0 0];kernel_rfl,by simp [xI],.inl rfl,⟨by show vK Tryz.prog 176=some (2,24,[.string ByteArray.empty,.int .i64 0]);kernel_rfl,by simp,by decide⟩⟩
def QA:TI:=⟨true,2,.other,[.string ByteArray.empty,.int .i64 0],[(0,false,1),(1,false,1)],[(0,1),(1,1)]⟩
theorem adk:TIok Tryz.prog 183 QA:=⟨by show Sh Tryz.prog 183=some (true,2);kernel_rfl,by show zeroOf Tryz.prog 183=some [.string ByteArray.empty,.int .i64 0];kernel_rfl,flds_all (by kernel_rfl),.inr (by kernel_rfl),trivial⟩
def F2:TI:=⟨false,1,.iface,[.nilIface],[],[]⟩
theorem adf:TIok Tryz.prog 69 F2:=⟨by show Sh Tryz.prog 69=some (false,1);kernel_rfl,by show zeroOf Tryz.prog 69=some [.nilIface];kernel_rfl,by simp [F2],.inl rfl,by show isIface Tryz.prog 69=true;kernel_rfl⟩
def A2:TI:=⟨false,1,.arr 8,[.slice none 0 0],[],[]⟩
theorem abp:TIok Tryz.prog 197 A2:=⟨by show Sh Tryz.prog 197=some (false,1);kernel_rfl,by show zeroOf Tryz.prog 197=some [.slice none 0 0];kernel_rfl,by simp [A2],.inl rfl,⟨⟨.pointer none,by kernel_rfl⟩,by decide⟩⟩
def tab:TypeId→Option TI
 |3=>some UN
 |4=>some NN
 |5=>some F0
 |9=>some A1
 |22=>some xH
 |23=>some uP
 |24=>some F3
 |26=>some P9
 |27=>some F4
 |29=>some pw
 |31=>some ti_Ptr
 |33=>some sR
 |82=>some YD
 |83=>some A3
 |86=>some YE
 |114=>some NO
 |118=>some ags
 |153=>some P8
 |176=>some xI
 |183=>some QA
 |69=>some F2
 |197=>some A2
 |_=>none
theorem ack:∀t i,tab t=some i→TIok Tryz.prog t i:=by
 intro t i h
 unfold tab at h
 split at h
 ·cases h;exact ok_int
 ·cases h;exact afA
 ·cases h;exact ada
 ·cases h;exact abo
 ·cases h;exact WI
 ·cases h;exact R7
 ·cases h;exact adi
 ·cases h;exact adh
 ·cases h;exact adj
 ·cases h;exact adg
 ·cases h;exact ok_Ptr
 ·cases h;exact afB
 ·cases h;exact afz
 ·cases h;exact abq
 ·cases h;exact afD
 ·cases h;exact afC
 ·cases h;exact aiK
 ·cases h;exact ade
 ·cases h;exact WJ
 ·cases h;exact adk
 ·cases h;exact adf
 ·cases h;exact abp
 ·cases h
theorem mixed:Tryz.prog.follows .mixedOrders=true:=by kernel_rfl
end GL
end Go.Proofs.YtclcgjhhehbdeaaGreatDoor
