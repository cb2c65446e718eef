/- A drawn law returns true for every code (its row lists package variables, tied by the card): part 13. -/
import Derived.Test.YtnkbdhldiinfdaaGreatDoorProg
import Derived.Test.YtnkbdhldiinfdaaGreatDoorPal
set_option maxHeartbeats 20000000
set_option maxRecDepth 100000
set_option linter.all false
namespace Go.Proofs.YtnkbdhldiinfdaaGreatDoor
namespace GL
inductive Kd where
 |str
 |bool
 |int (k:IntKind)
 |slice (ek:EK) (jK:Nat)
 |bytes (jK:Nat)
 |ints (n:Nat)
 |other
 |iface
 |arr (jK:Nat)
structure TI where
 agg:Bool
 size:Nat
 kd:Kd
 zero:List Value
 abZ:List (Nat×Bool×Nat)
 places:List (Nat×Nat)
def isIface (P:Program) (t:TypeId):Bool:=match P.underlying t with
 |some (.interface _)=>true
 |_=>false
theorem XD {P:Program}{t:TypeId}(h:isIface P t=true):∃ms,P.underlying t=some (.interface ms):=by
 unfold isIface at h
 split at h
 ·rename_i ms e;exact⟨ms,e⟩
 ·cases h
def aj5 (P:Program) (t:TypeId):Kd→Prop
 |.str=>P.underlying t=some .string
 |.bool=>P.underlying t=some .bool
 |.int k=>P.underlying t=some (.int k)
 |.slice ek jK=>Fits P t ek jK
 |.bytes jK=>Fits P t mf jK∧∃e,P.underlying t=some (.slice e)∧P.underlying e=some (.int .u8)
 |.ints n=>aj7 P t n
 |.other=>True
 |.iface=>isIface P t=true
 |.arr jK=>Arr P t jK
structure ib (P:Program) (t:TypeId) (i:TI):Prop where
 sh:Sh P t=some (i.agg,i.size)
 zero:zeroOf P t=some i.zero
 abZ:∀(f:Nat) (x:Nat×Bool×Nat),i.abZ[f]?=some x→kn P t f=some x
 places:i.places=[]∨afk P t=some (i.places,i.zero)
 kd:aj5 P t i.kd
structure Env where
 N:Nat
 tab:TypeId→Option TI
 rU:FuncId→Option cn
 exact:Nat→Bool:=fun _=>true
 wr:Nat→Bool:=fun _=>false
 part:Nat→Bool:=fun _=>false
structure AW (P:Program) (E:Env):Prop where
 tab:∀t i,E.tab t=some i→ib P t i
 rU:∀f c,E.rU f=some c→wj P f c∧Enters P f
def mR:Q Rs:=.ret .no
def iH (N:Nat) (o:Option Nat) (k:Nat→Q Rs):Q Rs:=
 match o with
 |some d=>bif Nat.blt d N then k d else mR
 |none=>mR
def mr (E:Env) (t:TypeId) (k:TI→Q Rs):Q Rs:=
 match E.tab t with
 |some i=>k i
 |none=>mR
def agj:Kd→Option EK
 |.slice ek _=>some ek
 |.bytes _=>some mf
 |_=>none
def YH (E:Env) (t:TypeId) (k:EK→Q Rs):Q Rs:=mr E t fun i=>match agj i.kd with
 |some ek=>k ek
 |none=>mR
def YQ (E:Env) (d:Nat) (c:Call):Q Rs:=
 match c with
 |⟨.value (.func f),args,_⟩=>afd E.rU (E.part d) d f args.toList
 |⟨.value (.tmp k),args,_⟩=>bY (.tmp k) fun v=>afb E.rU (E.part d) d args.toList v
 |⟨.builtin .len,⟨[x]⟩,⟨[t]⟩⟩=>mr E t fun i=>match i.kd with
  |.str=>bY x fun v=>.ret ((S3 true v).rs d)
  |.slice _ _=>bY x fun v=>.ret ((S3 false v).rs d)
  |.bytes _=>bY x fun v=>.ret ((S3 false v).rs d)
  |.arr _=>bY x fun v=>.ret ((S3 false v).rs d)
  |_=>mR
 |⟨.builtin .append,⟨[x,y]⟩,⟨[t,t']⟩⟩=>bif Nat.beq t t' then YH E t fun ek=>bif E.exact d then bY x fun v=>bY y fun u=>aip (E.part d) d ek v u else bY x fun v=>bY y fun u=>aiq (E.part d) d ek v u else mR
 |⟨.builtin .max,⟨[x,y]⟩,_⟩=>bY x fun v=>bY y fun u=>.ret ((mmV true v u).rs d)
 |⟨.builtin .min,⟨[x,y]⟩,_⟩=>bY x fun v=>bY y fun u=>.ret ((mmV false v u).rs d)
 |_=>mR
def stp (E:Env) (o:Oper):Q Rs:=
 match o.op with
 |.move x=>iH E.N o.dst fun d=>bY x fun v=>.ret ((V1.go v).rs d)
 |.assign x=>iH E.N o.dst fun d=>bY x fun v=>.ret ((V1.go v).rs d)
 |.pick z x y=>iH E.N o.dst fun d=>bY z fun v=>bY x fun u=>bY y fun s=>.ret ((acQ v u s).rs d)
 |.alloc t=>iH E.N o.dst fun d=>mr E t fun i=>YD d (uF i.zero)
 |.box _ x=>iH E.N o.dst fun d=>bY x fun v=>ah6 d v
 |.build t parts=>iH E.N o.dst fun d=>mr E t fun i=>match i.places with
  |[]=>mR
  |p::l=>P2 parts.toList fun vs=>.ret ((X7 (p::l) i.zero vs).rs d)
 |.buildSlice t k parts=>iH E.N o.dst fun d=>mr E t fun i=>match i.kd with
  |.arr _=>P2 parts.toList fun vs=>afm d k vs
  |kd=>match agj kd with
   |some ek=>P2 parts.toList fun vs=>P0 (E.exact d) d k ek vs
   |none=>mR
 |.load t x=>iH E.N o.dst fun d=>mr E t fun i=>bY x fun v=>adD i.agg i.size d v
 |.store t x y=>match o.dst with
  |none=>mr E t fun i=>bY x fun v=>bY y fun u=>UZ i.size v u
  |some _=>mR
 |.nilCheck x=>iH E.N o.dst fun d=>bY x fun v=>.ret ((ahA v).rs d)
 |.binOp op t x y _=>iH E.N o.dst fun d=>mr E t fun i=>match i.kd with
  |.bool=>bY x fun v=>bY y fun u=>.ret ((ah8 op v u).rs d)
  |.ints n=>bY x fun v=>bY y fun u=>.ret ((ahh n op v u).rs d)
  |.slice _ _=>match y with
   |.const (.slice none 0 0)=>bY x fun v=>ahB op d v
   |_=>mR
  |.iface=>match y with
   |.const .nilIface=>bY x fun v=>.ret ((ah1 op v).rs d)
   |_=>mR
  |_=>bY x fun v=>bY y fun u=>.ret ((ah7 (E.wr d) op v u).rs d)
 |.unOp .not _ x=>iH E.N o.dst fun d=>bY x fun v=>.ret ((ahy v).rs d)
 |.unOp .neg _ x=>iH E.N o.dst fun d=>bY x fun v=>.ret ((ahD v).rs d)
 |.convert t u x=>iH E.N o.dst fun d=>mr E t fun i=>mr E u fun j=>match i.kd,j.kd with
  |.bytes _,.str=>bY x fun v=>acr (E.part d) d v
  |.bytes _,.bytes _=>bif Nat.beq t u then bY x fun v=>.ret ((acy v).rs d) else mR
  |_,.int k=>bY x fun v=>.ret ((ae2 k v).rs d)
  |_,_=>mR
 |.makeSlice t x y=>iH E.N o.dst fun d=>YH E t fun ek=>bY x fun v=>bY y fun u=>adC (E.exact d) d ek v u
 |.slice t x l h none=>iH E.N o.dst fun d=>mr E t fun i=>match i.kd with
  |.str=>bY x fun v=>qG l fun l'=>qG h fun h'=>.ret ((X1 true 0 v l' h').rs d)
  |.slice ek _=>bY x fun v=>qG l fun l'=>qG h fun h'=>.ret ((X1 false ek.length v l' h').rs d)
  |.bytes _=>bY x fun v=>qG l fun l'=>qG h fun h'=>.ret ((X1 false 1 v l' h').rs d)
  |_=>mR
 |.slice t x l h (some m)=>iH E.N o.dst fun d=>mr E t fun i=>match i.kd with
  |.slice ek _=>bY x fun v=>qG l fun l'=>qG h fun h'=>qG (some m) fun m'=>.ret ((ae1 ek.length v l' h' m').rs d)
  |_=>mR
 |.makeFunc (.func f) ⟨[]⟩ DA=>iH E.N o.dst fun d=>YA DA.toList fun avs=>.ret (fnR d f avs)
 |.fieldAddr t x f=>iH E.N o.dst fun d=>mr E t fun i=>match i.abZ[f]? with
  |some (off,_,_)=>bY x fun v=>.ret ((XT off v).rs d)
  |none=>mR
 |.field t x f=>iH E.N o.dst fun d=>mr E t fun i=>match i.abZ[f]? with
  |some (off,b,n)=>bY x fun v=>.ret ((XK off b n v).rs d)
  |none=>mR
 |.indexAddr t x y=>iH E.N o.dst fun d=>mr E t fun i=>match i.kd with
  |.arr _=>bY x fun v=>bY y fun u=>.ret ((PL 1 v u).rs d)
  |kd=>match agj kd with
   |some ek=>bY x fun v=>bY y fun u=>.ret ((PL ek.length v u).rs d)
   |none=>mR
 |.index t x y=>iH E.N o.dst fun d=>mr E t fun i=>match i.kd with
  |.str=>bY x fun v=>bY y fun u=>.ret ((XE v u).rs d)
  |_=>mR
 |.extract x i=>iH E.N o.dst fun d=>bY x fun v=>.ret ((JK i v).rs d)
 |.call c=>iH E.N o.dst fun d=>YQ E d c
 |_=>mR
section
variable {P:Program}
theorem eg {N:Nat}{o:Oper}:fv P N o mR:=fun _ _ _ _ _ hp=>hp.elim
theorem dk {N:Nat}{o:Oper}{k:Nat→Q Rs}(h:∀d,o.dst=some d→d<N→fv P N o (k d)):fv P N o (iH N o.dst k):=by
 unfold iH
 split
 ·rename_i d hd
  cases hb:Nat.blt d N with
  |false=>exact eg
  |true=>exact h d hd (mc.1 hb)
 ·exact eg
theorem fw {E:Env}(hE:AW P E) {o:Oper}{t:TypeId}{k:TI→Q Rs}(h:∀i,ib P t i→fv P E.N o (k i)):fv P E.N o (mr E t k):=by
 unfold mr
 split
 ·rename_i i hi;exact h i (hE.tab t i hi)
 ·exact eg
theorem QA {E:Env}(hE:AW P E) {o:Oper}{t:TypeId}{k:EK→Q Rs}(h:∀ek jK,Fits P t ek jK→fv P E.N o (k ek)):fv P E.N o (YH E t k):=by
 unfold YH
 refine fw hE fun i hi=>?_
 have hk:=hi.kd
 cases hkd:i.kd with
 |slice ek jK=>rw [hkd] at hk;exact h ek jK hk
 |bytes jK=>rw [hkd] at hk;exact h mf jK hk.1
 |_=>exact eg
theorem aaj {t:TypeId}{kd:Kd}(hk:aj5 P t kd) {ek:EK}(h:agj kd=some ek):∃jK,Fits P t ek jK:=by
 cases kd with
 |slice my jK=>cases h;exact⟨jK,hk⟩
 |bytes jK=>cases h;exact⟨jK,hk.1⟩
 |_=>cases h
theorem ahd {E:Env}(hE:AW P E) (o:Oper):fv P E.N o (stp E o):=by
 obtain⟨dst,op,ty,pos,af,g⟩:=o
 unfold stp
 cases op
 case move x=>exact dk fun d hd hN=>by cases hd;exact aic hN
 case assign x=>exact dk fun d hd hN=>by cases hd;exact afq hN
 case pick z x y=>exact dk fun d hd hN=>by cases hd;exact aib hN
 case alloc t=>exact dk fun d hd hN=>fw hE fun i hi=>by cases hd;exact ags hi.zero hN
 case box t x=>exact dk fun d hd hN=>by cases hd;exact aj2 hN
 case build t parts=>
  refine dk fun d hd hN=>fw hE fun i hi=>?_
  cases hd
  split
  ·exact eg
  ·rename_i p l rT
   rcases hi.places with h |h
   ·rw [rT] at h;cases h
   ·rw [rT] at h;exact agr h hN
 case buildSlice t k parts=>
  refine dk fun d hd hN=>fw hE fun i hi=>?_
  cases hd
  have hk:=hi.kd
  split
  ·rename_i jK h;rw [h] at hk;exact aim hk hN
  ·split
   ·rename_i ek h
    obtain⟨jK,hf⟩:=aaj hk h
    exact afp hf hN
   ·exact eg
 case load t x=>exact dk fun d hd hN=>fw hE fun i hi=>by cases hd;exact aie hi.sh hN
 case store t x y=>
  cases dst with
  |none=>exact fw hE fun i hi=>agm hi.sh
  |some _=>exact eg
 case nilCheck x=>exact dk fun d hd hN=>by cases hd;exact ajW hN
 case binOp op t x y t'=>
  refine dk fun d hd hN=>fw hE fun i hi=>?_
  cases hd
  have hk:=hi.kd
  split
  ·rename_i h;rw [h] at hk;exact aj4 hk hN
  ·rename_i n h;rw [h] at hk;exact ajU hk hN
  ·rename_i ek jK h
   rw [h] at hk
   obtain⟨e,i',z',ht,_⟩:=jY hk.info
   split
   ·exact afn ht hN
   ·exact eg
  ·rename_i h
   rw [h] at hk
   obtain⟨ms,hm⟩:=XD hk
   split
   ·exact aj1 hm hN
   ·exact eg
  ·exact ail hN
 case unOp u t x=>
  cases u
  case not=>exact dk fun d hd hN=>by cases hd;exact ajV hN
  case neg=>exact dk fun d hd hN=>by cases hd;exact ajX hN
  all_goals exact eg
 case convert t u x=>
  refine dk fun d hd hN=>fw hE fun i hi=>fw hE fun j hj=>?_
  cases hd
  have hk:=hi.kd
  have hl:=hj.kd
  split
  ·rename_i h1 h2
   rw [h1] at hk;rw [h2] at hl
   obtain⟨_,e,g1,g2⟩:=hk
   exact ah9 g1 g2 hl hN
  ·rename_i h1 h2
   rw [h1] at hk
   obtain⟨_,e,g1,g2⟩:=hk
   cases hb:Nat.beq t u with
   |false=>exact eg
   |true=>
    have:t=u:=by simpa using hb
    subst this
    exact aia g1 g2 hN
  ·rename_i k h2
   rw [h2] at hl
   have aje:(P.underlying t).isSome=true:=by
    have:=hi.sh
    unfold Sh at this
    cases hu:P.underlying t with
    |none=>rw [hu] at this;simp at this
    |some _=>rfl
   exact aij k aje hl hN
  ·exact eg
 case makeSlice t x y=>exact dk fun d hd hN=>QA hE fun ek jK hf=>by cases hd;exact aid hf hN
 case slice t x l h m=>
  cases m with
  |some m=>
    refine dk fun d hd hN=>fw hE fun i hi=>?_
    cases hd
    have hk:=hi.kd
    split
    ·rename_i ek jK h1;rw [h1] at hk;exact aii hk.sh hN
    ·exact eg
  |none=>
    refine dk fun d hd hN=>fw hE fun i hi=>?_
    cases hd
    have hk:=hi.kd
    split
    ·rename_i h1;rw [h1] at hk;exact aih hk hN
    ·rename_i ek jK h1;rw [h1] at hk;exact afo hk.sh hN
    ·rename_i jK h1;rw [h1] at hk;exact afo hk.1.sh hN
    ·exact eg
 case fieldAddr t x f=>
  refine dk fun d hd hN=>fw hE fun i hi=>?_
  cases hd
  split
  ·rename_i off b n hf;exact agp (hi.abZ f _ hf) hN
  ·exact eg
 case field t x f=>
  refine dk fun d hd hN=>fw hE fun i hi=>?_
  cases hd
  split
  ·rename_i off b n hf;exact ago (hi.abZ f _ hf) hN
  ·exact eg
 case makeFunc fn first DA=>
  obtain⟨l⟩:=first
  cases fn with
  |func f=>
   cases l with
   |nil=>exact dk fun d hd hN=>by cases hd;exact ajY hN
   |cons _ _=>exact eg
  |_=>exact eg
 case indexAddr t x y=>
  refine dk fun d hd hN=>fw hE fun i hi=>?_
  cases hd
  have hk:=hi.kd
  split
  ·rename_i jK h;rw [h] at hk;exact aaw hk.sh hN
  ·split
   ·rename_i ek h
    obtain⟨jK,hf⟩:=aaj hk h
    exact aaw hf.sh hN
   ·exact eg
 case index t x y=>
  refine dk fun d hd hN=>fw hE fun i hi=>?_
  cases hd
  have hk:=hi.kd
  split
  ·rename_i h;rw [h] at hk;exact agn hk hN
  ·exact eg
 case extract x i=>exact dk fun d hd hN=>by cases hd;exact acd hN
 case call c=>
  refine dk fun d hd hN=>?_
  cases hd
  unfold YQ
  split
  ·exact aik hE.rU hN
  ·exact agq hE.rU hN
  ·rename_i x t
   refine fw hE fun i hi=>?_
   ·have hk:=hi.kd
    split
    ·rename_i h;rw [h] at hk;exact aif hk hN
    ·rename_i ek jK h;rw [h] at hk;exact X9 hk.sh hN
    ·rename_i jK h;rw [h] at hk;exact X9 hk.1.sh hN
    ·rename_i jK h;rw [h] at hk;exact X9 hk.sh hN
    ·exact eg
  ·rename_i x y t t'
   cases hb:Nat.beq t t' with
   |false=>exact eg
   |true=>
    have:t=t':=by simpa using hb
    subst this
    refine QA hE fun ek jK hf=>?_
    cases E.exact d with
    |true=>exact ain hf hN
    |false=>exact aio hf hN
  ·exact aj0 hN
  ·exact ajZ hN
  ·exact eg
 all_goals exact eg
end
end GL
namespace GL
def Q.map {α β:Type 1}(f:α→β):Q α→Q β
 |.ret a=>.ret (f a)
 |.ask r k=>.ask r fun v=>(k v).map f
theorem Q.ZH {α β:Type 1}(f:α→β) (τ:St):∀q:Q α,(q.map f).run τ=f (q.run τ)
 |.ret _=>rfl
 |.ask r k=>Q.ZH f τ (k (τ r))
def brk (gs:List Nat):Rs→Rs
 |.go [(.s d,.o (.s (.q b)))]=>bif iz gs d then .br True b d else .go [(.s d,.o (.s (.q b)))]
 |.mZ p [(.s d,.o (.s (.q b)))]=>bif iz gs d then .br p b d else .mZ p [(.s d,.o (.s (.q b)))]
 |r=>r
def CY (ops:Array Oper):List Oper→List Nat
 |[]=>[]
 |o::l=>match o.guard with
  |some (j,_)=>match ops[j]? with
   |some og=>match og.dst with
    |some g=>g::CY ops l
    |none=>CY ops l
   |none=>CY ops l
  |none=>CY ops l
def XJ (N:Nat) (ops:Array Oper) (o:Oper) (q:Q Rs):Q Rs:=
 match o.guard with
 |none=>q
 |some (j,want)=>match ops[j]?,o.dst with
  |some og,some d=>match og.dst with
   |some g=>.ask (.s g) fun
    |some (.o (.s (.v (.bool b))))=>bif (bif want then b else !b) then q else (bif Nat.blt d N then .ret (.go [(.s d,.s (.v undef))]) else mR)
    |some (.o (.s (.v (.tuple _))))=>bif Nat.blt d N then .ret (.go [(.s d,.s (.v undef))]) else mR
    |_=>mR
   |none=>mR
  |_,_=>mR
def sem (E:Env):Sm:=fun ops o=>XJ E.N ops o ((stp E o).map (brk (CY ops ops.toList)))
section
variable {P:Program}{N:Nat}
theorem Rel.swap {c:Ctx}{τ:St}{a:Act}{w:World}{d:Nat}{b:Bool}(h:Rel N c (τ.ap [(.s d,.s (.q b))]) a w):Rel N c (τ.ap [(.s d,.s (.v (.bool b)))]) a w:=by
 obtain⟨T,β,hh⟩:=h
 have hb:∀i,(τ.ap [(.s d,.s (.v (.bool b)))]) (.b i)=(τ.ap [(.s d,.s (.q b))]) (.b i):=fun i=>by rw [uj,uj,if_neg (by simp),if_neg (by simp)]
 have hl:∀i,live (τ.ap [(.s d,.s (.v (.bool b)))]) i→live (τ.ap [(.s d,.s (.q b))]) i:=fun i hi=>by
  unfold live at hi ⊢
  rwa [hb] at hi
 refine⟨T,β,{ hh with
  iJ:=fun i av hi=>by
   rw [uj] at hi
   by_cases e:fJ.s i= .s d
   ·rw [if_pos e] at hi
    cases hi
    exact hh.iJ i (.s (.q b)) (by rw [uj,if_pos e])
   ·rw [if_neg e] at hi
    exact hh.iJ i av (by rw [uj,if_neg e];exact hi)
  boxes:=fun i av hi hz=>hh.boxes i av (by rwa [hb] at hi) hz
  apart:=fun i hi=>hh.apart i (hl i hi)
  handed:=fun i b' hb' hi=>hh.handed i b' hb' (hl i hi)
  inj:=fun i j hi hj e=>hh.inj i j (hl i hi) (hl j hj) e
  named:=fun r av hr i hi=>by
   rw [hb]
   rw [uj] at hr
   by_cases e:r= .s d
   ·rw [if_pos e] at hr;cases hr;simp [AV.boxes,A0.boxes,SV.boxes] at hi
   ·rw [if_neg e] at hr
    exact hh.named r av (by rw [uj,if_neg e];exact hr) i hi }⟩
theorem ah5 {o:Oper}{q:Q Rs}(gs:List Nat) (h:fv P N o q):fv P N o (q.map (brk gs)):=by
 intro c τ a w hr hp K Q' hK
 rw [Q.ZH] at hp hK
 refine h c τ a w hr ?_ K Q' ?_
 ·unfold brk at hp
  split at hp
  ·rename_i heq;rw [heq];trivial
  ·rename_i p d b heq
   rw [heq]
   cases hm:iz gs d with
   |true=>rw [hm] at hp;exact hp
   |false=>rw [hm] at hp;exact hp
  ·exact hp
 ·intro u a' w' hu uK
  unfold brk at hK
  split at hK
  ·rename_i d b heq
   rw [heq] at hu
   cases hu
   cases hm:iz gs d with
   |true=>rw [hm] at hK;exact hK _ _ _ rfl uK.swap
   |false=>rw [hm] at hK;exact hK _ _ _ rfl uK
  ·rename_i p d b heq
   rw [heq] at hu
   cases hu
   cases hm:iz gs d with
   |true=>rw [hm] at hK;exact hK _ _ _ rfl uK.swap
   |false=>rw [hm] at hK;exact hK _ _ _ rfl uK
  ·exact hK _ _ _ hu uK
theorem aep {ops:Array Oper}{o:Oper}{q:Q Rs}(h:fv P N o q):OpS P N ops o (XJ N ops o q):=by
 intro c τ a w hr hp K Q' hK
 unfold XJ at hp hK
 cases hg:o.guard with
 |none=>
  rw [hg] at hp hK
  have:Region.wanted o (yielded ops a.tmps)=true:=by simp [Region.wanted,hg]
  rw [if_pos this]
  exact h c τ a w hr hp K Q' hK
 |some jw=>
  obtain⟨j,want⟩:=jw
  rw [hg] at hp hK
  simp only at hp hK
  split at hp
  ·rename_i og d hj hd
   simp only [hj,hd] at hK
   split at hp
   ·rename_i g hgd
    simp only [hgd,Q.run] at hK
    simp only [Q.run] at hp
    split at hp
    ·rename_i b hb
     simp only [hb] at hK
     obtain⟨T,β,hh⟩:=hr
     obtain⟨v,hv,c6⟩:=hh.iJ g _ hb
     have hv':v= .bool b:=c6
     subst hv'
     have hy:yielded ops a.tmps j=some b:=by simp [yielded,hj,hgd,hv]
     cases hw:(bif want then b else !b) with
     |true=>
      rw [hw] at hp hK
      have hbw:b=want:=by cases b<;>cases want<;>simp at hw ⊢
      have:Region.wanted o (yielded ops a.tmps)=true:=by simp [Region.wanted,hg,hy,hbw]
      rw [if_pos this]
      exact h c τ a w ⟨T,β,hh⟩ hp K Q' hK
     |false=>
      rw [hw] at hp hK
      have hbw:b≠want:=by cases b<;>cases want<;>simp at hw ⊢
      have:¬Region.wanted o (yielded ops a.tmps)=true:=by simp [Region.wanted,hg,hy,hbw]
      rw [if_neg this]
      simp only [cond_false] at hp hK
      cases hN:Nat.blt d N with
      |false=>rw [hN] at hp;exact hp.elim
      |true=>
       rw [hN] at hK
       rw [hd]
       exact hK _ _ _ rfl ⟨T,β,hh.put (mc.1 hN) (av:=.s (.v undef)) rfl (by simp [AV.boxes,A0.boxes,SV.boxes])⟩
    ·rename_i x hb
     simp only [hb] at hK
     obtain⟨T,β,hh⟩:=hr
     obtain⟨v,hv,c6⟩:=hh.iJ g _ hb
     have hv':v= .tuple x:=c6
     subst hv'
     have hy:yielded ops a.tmps j=none:=by simp [yielded,hj,hgd,hv]
     have:¬Region.wanted o (yielded ops a.tmps)=true:=by simp [Region.wanted,hg,hy]
     rw [if_neg this]
     cases hN:Nat.blt d N with
     |false=>rw [hN] at hp;exact hp.elim
     |true=>
      rw [hN] at hK
      rw [hd]
      exact hK _ _ _ rfl ⟨T,β,hh.put (mc.1 hN) (av:=.s (.v undef)) rfl (by simp [AV.boxes,A0.boxes,SV.boxes])⟩
    ·exact hp.elim
   ·exact hp.elim
  ·exact hp.elim
theorem oz {E:Env}(hE:AW P E):UP P E.N (sem E):=fun ops _ o _=>aep (ah5 (CY ops ops.toList) (ahd hE o))
def Env.sh (E:Env) (t:TypeId):Option (Bool×Nat):=match E.tab t with
 |some i=>some (i.agg,i.size)
 |none=>none
theorem Env.DO {E:Env}(hE:AW P E):∀t x,E.sh t=some x→Sh P t=some x:=fun t x h=>by
 unfold Env.sh at h
 split at h
 ·rename_i i hi;cases h;exact (hE.tab t i hi).sh
 ·cases h
theorem wj.of {E:Env}(hE:AW P E) (hm:P.follows .mixedOrders=true) {f:FuncId}{fn:Func}{cd:Code}{C:cn}(hf:P.funcs[f]?=some fn) (hb:fn.body=some cd) (hN:fn.ntmps=E.N) (hlen:C.A.length≤E.N)
  (h:∀x y,C.pre x y→vc P E.N (sem E) cd (entry (APs.avs C.A x) (APs.avs C.B y)) (endQ E.sh fn.results.toList C.B.length C.mv (fun r os=>∃z,C.φ x y z∧r=C.r x y z∧os=C.o x y z∧os.length=C.B.length+C.nf))):wj P f C:=by
 intro x y hp
 refine TC.tv hm (oz hE) (Env.DO hE) hf hb hN (by rw [APs.fE];exact hlen) ?_
 rw [APs.fE]
 exact h x y hp
theorem agK {E:Env}(hE:AW P E) (hm:P.follows .mixedOrders=true) {τ:St}{Q':o6}{cd:Code}{ι:Type}(bZ:List fJ) (J:ι→AO) (φ:ι→Prop) (μ:ι→Nat) (x0:ι) (sg0:List (Nat×Nat)) (h0:φ x0) (hs:EO sg0 τ τ bZ (J x0))
  (tL:∀x,φ x→vc P E.N (sem E) cd ((oM τ bZ).ap (J x)) (zd (fun τ'=>∃y sg,φ y∧μ y < μ x∧EO sg τ τ' bZ (J y)) Q')):TW P E.N (.loop cd) τ Q':=
 TW.ai2 hm (oz hE) bZ J φ μ x0 sg0 h0 hs tL
end
end GL
namespace GL
theorem Z1 {P:Program}{t:TypeId}:∀(l:List (Nat×Bool×Nat)) (k:Nat),(l.zipIdx k).map (fun p=>kn P t p.2)=l.map some→∀(f:Nat) (x:Nat×Bool×Nat),l[f]?=some x→kn P t (k+f)=some x
 |[],_,_,f,x,h=>by simp at h
 |y::l,k,h,0,x,hx=>by
  simp only [List.zipIdx_cons,ZE7,ZG9] at h
  simp at hx;subst hx
  simpa using h.1
 |y::l,k,h,f+1,x,hx=>by
  simp only [List.zipIdx_cons,ZE7,ZG9] at h
  have:=Z1 l (k+1) h.2 f x (by simpa using hx)
  rwa [show k+1+f=k+(f+1) by omega] at this
theorem l6 {P:Program}{t:TypeId}{l:List (Nat×Bool×Nat)}(h:(l.zipIdx 0).map (fun p=>kn P t p.2)=l.map some):∀(f:Nat) (x:Nat×Bool×Nat),l[f]?=some x→kn P t f=some x:=fun f x hx=>by
 have:=Z1 l 0 h f x hx
 rwa [ZA6] at this
def UU:TI:=⟨false,1,.int .i64,[.int .i64 0],[],[]⟩
theorem ok_int:ib Tryz.prog 3 UU:=⟨by show Sh Tryz.prog 3=some (false,1);kernel_rfl,by show zeroOf Tryz.prog 3=some [.int .i64 0];kernel_rfl,by simp [UU],.inl rfl,by show Tryz.prog.underlying 3=some (.int .i64);kernel_rfl⟩
def NT:TI:=⟨false,1,.bool,[.bool false],[],[]⟩
theorem afI:ib Tryz.prog 4 NT:=⟨by show Sh Tryz.prog 4=some (false,1);kernel_rfl,by show zeroOf Tryz.prog 4=some [.bool false];kernel_rfl,by simp [NT],.inl rfl,by show Tryz.prog.underlying 4=some .bool;kernel_rfl⟩
def F5:TI:=⟨false,1,.int .u8,[.int .u8 0],[],[]⟩
theorem adk:ib Tryz.prog 5 F5:=⟨by show Sh Tryz.prog 5=some (false,1);kernel_rfl,by show zeroOf Tryz.prog 5=some [.int .u8 0];kernel_rfl,by simp [F5],.inl rfl,by show Tryz.prog.underlying 5=some (.int .u8);kernel_rfl⟩
def A6:TI:=⟨false,1,.str,[.string ByteArray.empty],[],[]⟩
theorem abw:ib Tryz.prog 9 A6:=⟨by show Sh Tryz.prog 9=some (false,1);kernel_rfl,by show zeroOf Tryz.prog 9=some [.string ByteArray.empty];kernel_rfl,by simp [A6],.inl rfl,by show Tryz.prog.underlying 9=some .string;kernel_rfl⟩
def xM:TI:=⟨false,1,.bytes 1,[.slice none 0 0],[],[]⟩
theorem WO:ib Tryz.prog 22 xM:=⟨by show Sh Tryz.prog 22=some (false,1);kernel_rfl,by show zeroOf Tryz.prog 22=some [.slice none 0 0];kernel_rfl,by simp [xM],.inl rfl,⟨⟨by show vO Tryz.prog 22=some (1,1,[.int .u8 0]);kernel_rfl,by simp,by decide⟩,5,by kernel_rfl,by kernel_rfl⟩⟩
abbrev ab:EK:=[.str 4096]
def uT:TI:=⟨false,1,.slice ab 16,[.slice none 0 0],[],[]⟩
theorem SD:ib Tryz.prog 23 uT:=⟨by show Sh Tryz.prog 23=some (false,1);kernel_rfl,by show zeroOf Tryz.prog 23=some [.slice none 0 0];kernel_rfl,by simp [uT],.inl rfl,⟨by show vO Tryz.prog 23=some (1,16,[.string ByteArray.empty]);kernel_rfl,by simp,by decide⟩⟩
abbrev ag:EK:=[.i64]
def F8:TI:=⟨false,1,.slice ag 8,[.slice none 0 0],[],[]⟩
theorem adq:ib Tryz.prog 24 F8:=⟨by show Sh Tryz.prog 24=some (false,1);kernel_rfl,by show zeroOf Tryz.prog 24=some [.slice none 0 0];kernel_rfl,by simp [F8],.inl rfl,⟨by show vO Tryz.prog 24=some (1,8,[.int .i64 0]);kernel_rfl,by simp,by decide⟩⟩
def QF:TI:=⟨true,2,.other,[.slice none 0 0,.slice none 0 0],[(0,false,1),(1,false,1)],[(0,1),(1,1)]⟩
theorem adp:ib Tryz.prog 26 QF:=⟨by show Sh Tryz.prog 26=some (true,2);kernel_rfl,by show zeroOf Tryz.prog 26=some [.slice none 0 0,.slice none 0 0];kernel_rfl,l6 (by kernel_rfl),.inr (by kernel_rfl),trivial⟩
abbrev ae:EK:=[.i64,.i64,.i64,.i64,.i64]
def F9:TI:=⟨false,1,.slice ae 40,[.slice none 0 0],[],[]⟩
theorem adr:ib Tryz.prog 27 F9:=⟨by show Sh Tryz.prog 27=some (false,1);kernel_rfl,by show zeroOf Tryz.prog 27=some [.slice none 0 0];kernel_rfl,by simp [F9],.inl rfl,⟨by show vO Tryz.prog 27=some (5,40,[.int .i64 0,.int .i64 0,.int .i64 0,.int .i64 0,.int .i64 0]);kernel_rfl,by simp,by decide⟩⟩
def pB:TI:=⟨true,8,.other,[.slice none 0 0,.slice none 0 0,.slice none 0 0,.int .i64 0,.slice none 0 0,.int .i64 0,.slice none 0 0,.bool false],[(0,false,1),(1,true,2),(3,false,1),(4,false,1),(5,false,1),(6,false,1),(7,false,1)],[(0,1),(1,2),(3,1),(4,1),(5,1),(6,1),(7,1)]⟩
theorem ado:ib Tryz.prog 29 pB:=⟨by show Sh Tryz.prog 29=some (true,8);kernel_rfl,by show zeroOf Tryz.prog 29=some [.slice none 0 0,.slice none 0 0,.slice none 0 0,.int .i64 0,.slice none 0 0,.int .i64 0,.slice none 0 0,.bool false];kernel_rfl,l6 (by kernel_rfl),.inr (by kernel_rfl),trivial⟩
theorem id_Ptr : IntsD Tryz.prog 1 31 5 := ⟨by kernel_rfl, by kernel_rfl, [("At", 3, 0), ("Birth", 3, 1), ("Size", 3, 2), ("Sum", 3, 3), ("Level", 3, 4)], by kernel_rfl, by decide, rfl, .inl ⟨by kernel_rfl, by kernel_rfl, by decide, rfl, .inl ⟨by kernel_rfl, by kernel_rfl, by decide, rfl, .inl ⟨by kernel_rfl, by kernel_rfl, by decide, rfl, .inl ⟨by kernel_rfl, by kernel_rfl, by decide, rfl, .inl ⟨by kernel_rfl, by kernel_rfl, rfl⟩⟩⟩⟩⟩⟩
def acq:TI:=⟨true,5,.ints 5,[.int .i64 0,.int .i64 0,.int .i64 0,.int .i64 0,.int .i64 0],[(0,false,1),(1,false,1),(2,false,1),(3,false,1),(4,false,1)],[(0,1),(1,1),(2,1),(3,1),(4,1)]⟩
theorem ahw:ib Tryz.prog 31 acq:=⟨by show Sh Tryz.prog 31=some (true,5);kernel_rfl,by show zeroOf Tryz.prog 31=some [.int .i64 0,.int .i64 0,.int .i64 0,.int .i64 0,.int .i64 0];kernel_rfl,l6 (by kernel_rfl),.inr (by kernel_rfl),⟨⟨1,by decide,id_Ptr⟩,by kernel_rfl⟩⟩
theorem id_Tree : IntsD Tryz.prog 2 33 7 := ⟨by kernel_rfl, by kernel_rfl, [("Root", 31, 0), ("Depth", 3, 5), ("Many", 3, 6)], by kernel_rfl, by decide, rfl, .inr ⟨5, by kernel_rfl, id_Ptr, by decide, rfl, .inl ⟨by kernel_rfl, by kernel_rfl, by decide, rfl, .inl ⟨by kernel_rfl, by kernel_rfl, rfl⟩⟩⟩⟩
def sV:TI:=⟨true,7,.ints 7,[.int .i64 0,.int .i64 0,.int .i64 0,.int .i64 0,.int .i64 0,.int .i64 0,.int .i64 0],[(0,true,5),(5,false,1),(6,false,1)],[(0,5),(5,1),(6,1)]⟩
theorem afJ:ib Tryz.prog 33 sV:=⟨by show Sh Tryz.prog 33=some (true,7);kernel_rfl,by show zeroOf Tryz.prog 33=some [.int .i64 0,.int .i64 0,.int .i64 0,.int .i64 0,.int .i64 0,.int .i64 0,.int .i64 0];kernel_rfl,l6 (by kernel_rfl),.inr (by kernel_rfl),⟨⟨2,by decide,id_Tree⟩,by kernel_rfl⟩⟩
theorem id_Node : IntsD Tryz.prog 3 49 10 := ⟨by kernel_rfl, by kernel_rfl, [("Kind", 3, 0), ("Links", 3, 1), ("Size", 3, 2), ("Tree", 33, 3)], by kernel_rfl, by decide, rfl, .inl ⟨by kernel_rfl, by kernel_rfl, by decide, rfl, .inl ⟨by kernel_rfl, by kernel_rfl, by decide, rfl, .inl ⟨by kernel_rfl, by kernel_rfl, by decide, rfl, .inr ⟨7, by kernel_rfl, id_Tree, rfl⟩⟩⟩⟩⟩
def YK:TI:=⟨true,10,.ints 10,[.int .i64 0,.int .i64 0,.int .i64 0,.int .i64 0,.int .i64 0,.int .i64 0,.int .i64 0,.int .i64 0,.int .i64 0,.int .i64 0],[(0,false,1),(1,false,1),(2,false,1),(3,true,7)],[(0,1),(1,1),(2,1),(3,7)]⟩
theorem afL:ib Tryz.prog 49 YK:=⟨by show Sh Tryz.prog 49=some (true,10);kernel_rfl,by show zeroOf Tryz.prog 49=some [.int .i64 0,.int .i64 0,.int .i64 0,.int .i64 0,.int .i64 0,.int .i64 0,.int .i64 0,.int .i64 0,.int .i64 0,.int .i64 0];kernel_rfl,l6 (by kernel_rfl),.inr (by kernel_rfl),⟨⟨3,by decide,id_Node⟩,by kernel_rfl⟩⟩
def YJ:TI:=⟨true,2,.other,[.slice none 0 0,.int .i64 0],[(0,false,1),(1,false,1)],[(0,1),(1,1)]⟩
theorem afH:ib Tryz.prog 83 YJ:=⟨by show Sh Tryz.prog 83=some (true,2);kernel_rfl,by show zeroOf Tryz.prog 83=some [.slice none 0 0,.int .i64 0];kernel_rfl,l6 (by kernel_rfl),.inr (by kernel_rfl),trivial⟩
abbrev o7:EK:=[.i64,.i64,.i64,.i64,.i64,.i64,.i64,.i64,.i64,.i64]
def A8:TI:=⟨false,1,.slice o7 80,[.slice none 0 0],[],[]⟩
theorem aby:ib Tryz.prog 84 A8:=⟨by show Sh Tryz.prog 84=some (false,1);kernel_rfl,by show zeroOf Tryz.prog 84=some [.slice none 0 0];kernel_rfl,by simp [A8],.inl rfl,⟨by show vO Tryz.prog 84=some (10,80,[.int .i64 0,.int .i64 0,.int .i64 0,.int .i64 0,.int .i64 0,.int .i64 0,.int .i64 0,.int .i64 0,.int .i64 0,.int .i64 0]);kernel_rfl,by simp,by decide⟩⟩
abbrev EN:EK:=[.i64,.str 4096,.str 4096,.i64,.str 4096]
def NU:TI:=⟨false,1,.slice EN 64,[.slice none 0 0],[],[]⟩
theorem afK:ib Tryz.prog 111 NU:=⟨by show Sh Tryz.prog 111=some (false,1);kernel_rfl,by show zeroOf Tryz.prog 111=some [.slice none 0 0];kernel_rfl,by simp [NU],.inl rfl,⟨by show vO Tryz.prog 111=some (5,64,[.int .i64 0,.string ByteArray.empty,.string ByteArray.empty,.int .i64 0,.string ByteArray.empty]);kernel_rfl,by simp,by decide⟩⟩
def agA:TI:=⟨true,5,.other,[.int .i64 0,.string ByteArray.empty,.string ByteArray.empty,.int .i64 0,.string ByteArray.empty],[(0,false,1),(1,false,1),(2,false,1),(3,false,1),(4,false,1)],[(0,1),(1,1),(2,1),(3,1),(4,1)]⟩
theorem aiS:ib Tryz.prog 115 agA:=⟨by show Sh Tryz.prog 115=some (true,5);kernel_rfl,by show zeroOf Tryz.prog 115=some [.int .i64 0,.string ByteArray.empty,.string ByteArray.empty,.int .i64 0,.string ByteArray.empty];kernel_rfl,l6 (by kernel_rfl),.inr (by kernel_rfl),trivial⟩
def QE:TI:=⟨true,16,.other,[.slice none 0 0,.slice none 0 0,.slice none 0 0,.int .i64 0,.slice none 0 0,.int .i64 0,.slice none 0 0,.bool false,.int .i64 0,.int .i64 0,.int .i64 0,.int .i64 0,.int .i64 0,.int .i64 0,.int .i64 0,.bool false],[(0,true,8),(8,true,7),(15,false,1)],[(0,8),(8,7),(15,1)]⟩
theorem adm:ib Tryz.prog 159 QE:=⟨by show Sh Tryz.prog 159=some (true,16);kernel_rfl,by show zeroOf Tryz.prog 159=some [.slice none 0 0,.slice none 0 0,.slice none 0 0,.int .i64 0,.slice none 0 0,.int .i64 0,.slice none 0 0,.bool false,.int .i64 0,.int .i64 0,.int .i64 0,.int .i64 0,.int .i64 0,.int .i64 0,.int .i64 0,.bool false];kernel_rfl,l6 (by kernel_rfl),.inr (by kernel_rfl),trivial⟩
abbrev aK:EK:=[.str 4096,.i64]
def xN:TI:=⟨false,1,.slice aK 24,[.slice none 0 0],[],[]⟩
theorem WQ:ib Tryz.prog 186 xN:=⟨by show Sh Tryz.prog 186=some (false,1);kernel_rfl,by show zeroOf Tryz.prog 186=some [.slice none 0 0];kernel_rfl,by simp [xN],.inl rfl,⟨by show vO Tryz.prog 186=some (2,24,[.string ByteArray.empty,.int .i64 0]);kernel_rfl,by simp,by decide⟩⟩
def QG:TI:=⟨true,2,.other,[.string ByteArray.empty,.int .i64 0],[(0,false,1),(1,false,1)],[(0,1),(1,1)]⟩
theorem ads:ib Tryz.prog 193 QG:=⟨by show Sh Tryz.prog 193=some (true,2);kernel_rfl,by show zeroOf Tryz.prog 193=some [.string ByteArray.empty,.int .i64 0];kernel_rfl,l6 (by kernel_rfl),.inr (by kernel_rfl),trivial⟩
def F7:TI:=⟨false,1,.iface,[.nilIface],[],[]⟩
theorem adn:ib Tryz.prog 149 F7:=⟨by show Sh Tryz.prog 149=some (false,1);kernel_rfl,by show zeroOf Tryz.prog 149=some [.nilIface];kernel_rfl,by simp [F7],.inl rfl,by show isIface Tryz.prog 149=true;kernel_rfl⟩
def A7:TI:=⟨false,1,.arr 8,[.slice none 0 0],[],[]⟩
theorem abx:ib Tryz.prog 179 A7:=⟨by show Sh Tryz.prog 179=some (false,1);kernel_rfl,by show zeroOf Tryz.prog 179=some [.slice none 0 0];kernel_rfl,by simp [A7],.inl rfl,⟨⟨.pointer none,by kernel_rfl⟩,by decide⟩⟩
def tab:TypeId→Option TI
 |3=>some UU
 |4=>some NT
 |5=>some F5
 |9=>some A6
 |22=>some xM
 |23=>some uT
 |24=>some F8
 |26=>some QF
 |27=>some F9
 |29=>some pB
 |31=>some acq
 |33=>some sV
 |49=>some YK
 |83=>some YJ
 |84=>some A8
 |111=>some NU
 |115=>some agA
 |159=>some QE
 |186=>some xN
 |193=>some QG
 |149=>some F7
 |179=>some A7
 |_=>none
theorem acu:∀t i,tab t=some i→ib Tryz.prog t i:=by
 intro t i h
 unfold tab at h
 split at h
 ·cases h;exact ok_int
 ·cases h;exact afI
 ·cases h;exact adk
 ·cases h;exact abw
 ·cases h;exact WO
 ·cases h;exact SD
 ·cases h;exact adq
 ·cases h;exact adp
 ·cases h;exact adr
 ·cases h;exact ado
 ·cases h;exact ahw
 ·cases h;exact afJ
 ·cases h;exact afL
 ·cases h;exact afH
 ·cases h;exact aby
 ·cases h;exact afK
 ·cases h;exact aiS
 ·cases h;exact adm
 ·cases h;exact WQ
 ·cases h;exact ads
 ·cases h;exact adn
 ·cases h;exact abx
 ·cases h
theorem mixed:Tryz.prog.follows .mixedOrders=true:=by kernel_rfl
end GL
end Go.Proofs.YtnkbdhldiinfdaaGreatDoor
