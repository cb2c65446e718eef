/- FnTreeOk returns true for every code (its row lists package variables, tied by the card): part 10 of 39. -/
import Derived.Test.YtbfgjadbfjkcdaaGreatDoorProg
import Derived.Test.YtbfgjadbfjkcdaaGreatDoorPai
set_option maxHeartbeats 20000000
set_option linter.all false
namespace Go.Proofs.YtbfgjadbfjkcdaaGreatDoor
namespace GL
inductive Kd where
 |str
 |bool
 |int (k:IntKind)
 |slice (ek:EK) (iV:Nat)
 |bytes (iV:Nat)
 |ints (n:Nat)
 |other
 |iface
 |arr (iV:Nat)
structure TI where
 agg:Bool
 size:Nat
 kd:Kd
 zero:List Value
 acb:List (Nat×Bool×Nat)
 places:List (Nat×Nat)
def isIface (P:Program) (t:TypeId):Bool:=match P.underlying t with
 |some (.interface _)=>true
 |_=>false
theorem XM {P:Program} {t:TypeId} (h:isIface P t=true):∃ms,P.underlying t=some (.interface ms):=by
 unfold isIface at h
 split at h
 ·rename_i ms e;exact ⟨ms,e⟩
 ·cases h
def aj4 (P:Program) (t:TypeId):Kd→Prop
 | .str=>P.underlying t=some .string
 | .bool=>P.underlying t=some .bool
 | .int k=>P.underlying t=some (.int k)
 | .slice ek iV=>Fits P t ek iV
 | .bytes iV=>Fits P t kE iV∧∃e,P.underlying t=some (.slice e)∧P.underlying e=some (.int .u8)
 | .ints n=>aiB P t n
 | .other=>True
 | .iface=>isIface P t=true
 | .arr iV=>Arr P t iV
structure TIok (P:Program) (t:TypeId) (i:TI):Prop where
 sh:Sh P t=some (i.agg,i.size)
 zero:zeroOf P t=some i.zero
 acb:∀(f:Nat) (x:Nat×Bool×Nat),i.acb[f]?=some x→kk P t f=some x
 places:i.places=[]∨afs P t=some (i.places,i.zero)
 kd:aj4 P t i.kd
structure Env where
 N:Nat
 tab:TypeId→Option TI
 rN:FuncId→Option Con
 exact:Nat→Bool:=fun _=>true
 wr:Nat→Bool:=fun _=>false
 part:Nat→Bool:=fun _=>false
structure AT (P:Program) (E:Env):Prop where
 tab:∀t i,E.tab t=some i→TIok P t i
 rN:∀f c,E.rN f=some c→xK P f c∧Enters P f
def mQ:Q Rs:=.ret .no
def iB (N:Nat) (o:Option Nat) (k:Nat→Q Rs):Q Rs:=
 match o with
 |some d=>bif Nat.blt d N then k d else mQ
 |none=>mQ
def mq (E:Env) (t:TypeId) (k:TI→Q Rs):Q Rs:=
 match E.tab t with
 |some i=>k i
 |none=>mQ
def agr:Kd→Option EK
 | .slice ek _=>some ek
 | .bytes _=>some kE
 |_=>none
def YU (E:Env) (t:TypeId) (k:EK→Q Rs):Q Rs:=mq E t fun i=>match agr i.kd with
 |some ek=>k ek
 |none=>mQ
def Y2 (E:Env) (d:Nat) (c:Call):Q Rs:=
 match c with
 |⟨.value (.func f),args,_⟩=>afp E.rN (E.part d) d f args.toList
 |⟨.value (.tmp k),args,_⟩=>bR (.tmp k) fun v=>afn E.rN (E.part d) d args.toList v
 |⟨.builtin .len,⟨[x]⟩,⟨[t]⟩⟩=>mq E t fun i=>match i.kd with
  | .str=>bR x fun v=>.ret ((TE true v).rs d)
  | .slice _ _=>bR x fun v=>.ret ((TE false v).rs d)
  | .bytes _=>bR x fun v=>.ret ((TE false v).rs d)
  | .arr _=>bR x fun v=>.ret ((TE false v).rs d)
  |_=>mQ
 |⟨.builtin .append,⟨[x,y]⟩,⟨[t,t']⟩⟩=>bif Nat.beq t t' then YU E t fun ek=>bif E.exact d then bR x fun v=>bR y fun u=>aiv (E.part d) d ek v u else bR x fun v=>bR y fun u=>aiw (E.part d) d ek v u else mQ
 |⟨.builtin .max,⟨[x,y]⟩,_⟩=>bR x fun v=>bR y fun u=>.ret ((mmV true v u).rs d)
 |⟨.builtin .min,⟨[x,y]⟩,_⟩=>bR x fun v=>bR y fun u=>.ret ((mmV false v u).rs d)
 |_=>mQ
def stp (E:Env) (o:Oper):Q Rs:=
 match o.op with
 | .move x=>iB E.N o.dst fun d=>bR x fun v=>.ret ((V1.go v).rs d)
 | .assign x=>iB E.N o.dst fun d=>bR x fun v=>.ret ((V1.go v).rs d)
 | .pick z x y=>iB E.N o.dst fun d=>bR z fun v=>bR x fun u=>bR y fun s=>.ret ((acY v u s).rs d)
 | .alloc t=>iB E.N o.dst fun d=>mq E t fun i=>YP d (uG i.zero)
 | .box _ x=>iB E.N o.dst fun d=>bR x fun v=>aic d v
 | .build t parts=>iB E.N o.dst fun d=>mq E t fun i=>match i.places with
  |[]=>mQ
  |p::l=>P7 parts.toList fun vs=>.ret ((YJ (p::l) i.zero vs).rs d)
 | .buildSlice t k parts=>iB E.N o.dst fun d=>mq E t fun i=>match i.kd with
  | .arr _=>P7 parts.toList fun vs=>afu d k vs
  |kd=>match agr kd with
   |some ek=>P7 parts.toList fun vs=>P5 (E.exact d) d k ek vs
   |none=>mQ
 | .load t x=>iB E.N o.dst fun d=>mq E t fun i=>bR x fun v=>adL i.agg i.size d v
 | .store t x y=>match o.dst with
  |none=>mq E t fun i=>bR x fun v=>bR y fun u=>U7 i.size v u
  |some _=>mQ
 | .nilCheck x=>iB E.N o.dst fun d=>bR x fun v=>.ret ((ahG v).rs d)
 | .binOp op t x y _=>iB E.N o.dst fun d=>mq E t fun i=>match i.kd with
  | .bool=>bR x fun v=>bR y fun u=>.ret ((aie op v u).rs d)
  | .ints n=>bR x fun v=>bR y fun u=>.ret ((aho n op v u).rs d)
  | .slice _ _=>match y with
   | .const (.slice none 0 0)=>bR x fun v=>ahH op d v
   |_=>mQ
  | .iface=>match y with
   | .const .nilIface=>bR x fun v=>.ret ((ah6 op v).rs d)
   |_=>mQ
  |_=>bR x fun v=>bR y fun u=>.ret ((aid (E.wr d) op v u).rs d)
 | .unOp .not _ x=>iB E.N o.dst fun d=>bR x fun v=>.ret ((ahE v).rs d)
 | .unOp .neg _ x=>iB E.N o.dst fun d=>bR x fun v=>.ret ((ahJ v).rs d)
 | .convert t u x=>iB E.N o.dst fun d=>mq E t fun i=>mq E u fun j=>match i.kd,j.kd with
  | .bytes _, .str=>bR x fun v=>acB (E.part d) d v
  | .bytes _, .bytes _=>bif Nat.beq t u then bR x fun v=>.ret ((acG v).rs d) else mQ
  |_, .int k=>bR x fun v=>.ret ((afe k v).rs d)
  |_,_=>mQ
 | .makeSlice t x y=>iB E.N o.dst fun d=>YU E t fun ek=>bR x fun v=>bR y fun u=>adK (E.exact d) d ek v u
 | .slice t x l h none=>iB E.N o.dst fun d=>mq E t fun i=>match i.kd with
  | .str=>bR x fun v=>qw l fun l'=>qw h fun h'=>.ret ((YB true 0 v l' h').rs d)
  | .slice ek _=>bR x fun v=>qw l fun l'=>qw h fun h'=>.ret ((YB false ek.length v l' h').rs d)
  | .bytes _=>bR x fun v=>qw l fun l'=>qw h fun h'=>.ret ((YB false 1 v l' h').rs d)
  |_=>mQ
 | .slice t x l h (some m)=>iB E.N o.dst fun d=>mq E t fun i=>match i.kd with
  | .slice ek _=>bR x fun v=>qw l fun l'=>qw h fun h'=>qw (some m) fun m'=>.ret ((afd ek.length v l' h' m').rs d)
  |_=>mQ
 | .makeFunc (.func f) ⟨[]⟩ C6=>iB E.N o.dst fun d=>YM C6.toList fun iS=>.ret (fnR d f iS)
 | .fieldAddr t x f=>iB E.N o.dst fun d=>mq E t fun i=>match i.acb[f]? with
  |some (off,_,_)=>bR x fun v=>.ret ((X3 off v).rs d)
  |none=>mQ
 | .field t x f=>iB E.N o.dst fun d=>mq E t fun i=>match i.acb[f]? with
  |some (off,b,n)=>bR x fun v=>.ret ((XU off b n v).rs d)
  |none=>mQ
 | .indexAddr t x y=>iB E.N o.dst fun d=>mq E t fun i=>match i.kd with
  | .arr _=>bR x fun v=>bR y fun u=>.ret ((PQ 1 v u).rs d)
  |kd=>match agr kd with
   |some ek=>bR x fun v=>bR y fun u=>.ret ((PQ ek.length v u).rs d)
   |none=>mQ
 | .index t x y=>iB E.N o.dst fun d=>mq E t fun i=>match i.kd with
  | .str=>bR x fun v=>bR y fun u=>.ret ((XN v u).rs d)
  |_=>mQ
 | .extract x i=>iB E.N o.dst fun d=>bR x fun v=>.ret ((JJ i v).rs d)
 | .call c=>iB E.N o.dst fun d=>Y2 E d c
 |_=>mQ
section
variable {P:Program}
theorem dV {N:Nat} {o:Oper}:fk P N o mQ:=fun _ _ _ _ _ hp=>hp.elim
theorem dc {N:Nat} {o:Oper} {k:Nat→Q Rs} (h:∀d,o.dst=some d→d < N→fk P N o (k d)):fk P N o (iB N o.dst k):=by
 unfold iB
 split
 ·rename_i d hd
  cases hb:Nat.blt d N with
  |false=>exact dV
  |true=>exact h d hd (me.1 hb)
 ·exact dV
theorem fm {E:Env} (hE:AT P E) {o:Oper} {t:TypeId} {k:TI→Q Rs} (h:∀i,TIok P t i→fk P E.N o (k i)):fk P E.N o (mq E t k):=by
 unfold mq
 split
 ·rename_i i hi;exact h i (hE.tab t i hi)
 ·exact dV
theorem QG {E:Env} (hE:AT P E) {o:Oper} {t:TypeId} {k:EK→Q Rs} (h:∀ek iV,Fits P t ek iV→fk P E.N o (k ek)):fk P E.N o (YU E t k):=by
 unfold YU
 refine fm hE fun i hi=>?_
 have hk:=hi.kd
 cases hkd:i.kd with
 |slice ek iV=>rw [hkd] at hk;exact h ek iV hk
 |bytes iV=>rw [hkd] at hk;exact h kE iV hk.1
 |_=>exact dV
theorem aat {t:TypeId} {kd:Kd} (hk:aj4 P t kd) {ek:EK} (h:agr kd=some ek):∃iV,Fits P t ek iV:=by
 cases kd with
 |slice mx iV=>cases h;exact ⟨iV,hk⟩
 |bytes iV=>cases h;exact ⟨iV,hk.1⟩
 |_=>cases h
theorem ahk {E:Env} (hE:AT P E) (o:Oper):fk P E.N o (stp E o):=by
 obtain ⟨dst,op,ty,pos,af,g⟩:=o
 unfold stp
 cases op
 case move x=>exact dc fun d hd hN=>by cases hd;exact aij hN
 case assign x=>exact dc fun d hd hN=>by cases hd;exact afy hN
 case pick z x y=>exact dc fun d hd hN=>by cases hd;exact aii hN
 case alloc t=>exact dc fun d hd hN=>fm hE fun i hi=>by cases hd;exact agC hi.zero hN
 case box t x=>exact dc fun d hd hN=>by cases hd;exact aj1 hN
 case build t parts=>
  refine dc fun d hd hN=>fm hE fun i hi=>?_
  cases hd
  split
  ·exact dV
  ·rename_i p l rM
   rcases hi.places with h |h
   ·rw [rM] at h;cases h
   ·rw [rM] at h;exact agB h hN
 case buildSlice t k parts=>
  refine dc fun d hd hN=>fm hE fun i hi=>?_
  cases hd
  have hk:=hi.kd
  split
  ·rename_i iV h;rw [h] at hk;exact ais hk hN
  ·split
   ·rename_i ek h
    obtain ⟨iV,hf⟩:=aat hk h
    exact afx hf hN
   ·exact dV
 case load t x=>exact dc fun d hd hN=>fm hE fun i hi=>by cases hd;exact ail hi.sh hN
 case store t x y=>
  cases dst with
  |none=>exact fm hE fun i hi=>agw hi.sh
  |some _=>exact dV
 case nilCheck x=>exact dc fun d hd hN=>by cases hd;exact ajV hN
 case binOp op t x y t'=>
  refine dc fun d hd hN=>fm hE fun i hi=>?_
  cases hd
  have hk:=hi.kd
  split
  ·rename_i h;rw [h] at hk;exact aj3 hk hN
  ·rename_i n h;rw [h] at hk;exact ajT hk hN
  ·rename_i ek iV h
   rw [h] at hk
   obtain ⟨e,i',z',ht,_⟩:=jQ hk.info
   split
   ·exact afv ht hN
   ·exact dV
  ·rename_i h
   rw [h] at hk
   obtain ⟨ms,hm⟩:=XM hk
   split
   ·exact aj0 hm hN
   ·exact dV
  ·exact air hN
 case unOp u t x=>
  cases u
  case not=>exact dc fun d hd hN=>by cases hd;exact ajU hN
  case neg=>exact dc fun d hd hN=>by cases hd;exact ajW hN
  all_goals exact dV
 case convert t u x=>
  refine dc fun d hd hN=>fm hE fun i hi=>fm hE fun j hj=>?_
  cases hd
  have hk:=hi.kd
  have hl:=hj.kd
  split
  ·rename_i h1 h2
   rw [h1] at hk;rw [h2] at hl
   obtain ⟨_,e,g1,g2⟩:=hk
   exact aif g1 g2 hl hN
  ·rename_i h1 h2
   rw [h1] at hk
   obtain ⟨_,e,g1,g2⟩:=hk
   cases hb:Nat.beq t u with
   |false=>exact dV
   |true=>
    have:t=u:=by simpa using hb
    subst this
    exact aih g1 g2 hN
  ·rename_i k h2
   rw [h2] at hl
   have ajd:(P.underlying t).isSome=true:=by
    have:=hi.sh
    unfold Sh at this
    cases hu:P.underlying t with
    |none=>rw [hu] at this;simp at this
    |some _=>rfl
   exact aip k ajd hl hN
  ·exact dV
 case makeSlice t x y=>exact dc fun d hd hN=>QG hE fun ek iV hf=>by cases hd;exact aik hf hN
 case slice t x l h m=>
  cases m with
  |some m=>
    refine dc fun d hd hN=>fm hE fun i hi=>?_
    cases hd
    have hk:=hi.kd
    split
    ·rename_i ek iV h1;rw [h1] at hk;exact aio hk.sh hN
    ·exact dV
  |none=>
    refine dc fun d hd hN=>fm hE fun i hi=>?_
    cases hd
    have hk:=hi.kd
    split
    ·rename_i h1;rw [h1] at hk;exact ain hk hN
    ·rename_i ek iV h1;rw [h1] at hk;exact afw hk.sh hN
    ·rename_i iV h1;rw [h1] at hk;exact afw hk.1.sh hN
    ·exact dV
 case fieldAddr t x f=>
  refine dc fun d hd hN=>fm hE fun i hi=>?_
  cases hd
  split
  ·rename_i off b n hf;exact agz (hi.acb f _ hf) hN
  ·exact dV
 case field t x f=>
  refine dc fun d hd hN=>fm hE fun i hi=>?_
  cases hd
  split
  ·rename_i off b n hf;exact agy (hi.acb f _ hf) hN
  ·exact dV
 case makeFunc fn first C6=>
  obtain ⟨l⟩:=first
  cases fn with
  |func f=>
   cases l with
   |nil=>exact dc fun d hd hN=>by cases hd;exact ajX hN
   |cons _ _=>exact dV
  |_=>exact dV
 case indexAddr t x y=>
  refine dc fun d hd hN=>fm hE fun i hi=>?_
  cases hd
  have hk:=hi.kd
  split
  ·rename_i iV h;rw [h] at hk;exact aaF hk.sh hN
  ·split
   ·rename_i ek h
    obtain ⟨iV,hf⟩:=aat hk h
    exact aaF hf.sh hN
   ·exact dV
 case index t x y=>
  refine dc fun d hd hN=>fm hE fun i hi=>?_
  cases hd
  have hk:=hi.kd
  split
  ·rename_i h;rw [h] at hk;exact agx hk hN
  ·exact dV
 case extract x i=>exact dc fun d hd hN=>by cases hd;exact aco hN
 case call c=>
  refine dc fun d hd hN=>?_
  cases hd
  unfold Y2
  split
  ·exact aiq hE.rN hN
  ·exact agA hE.rN hN
  ·rename_i x t
   refine fm hE fun i hi=>?_
   ·have hk:=hi.kd
    split
    ·rename_i h;rw [h] at hk;exact aim hk hN
    ·rename_i ek iV h;rw [h] at hk;exact YL hk.sh hN
    ·rename_i iV h;rw [h] at hk;exact YL hk.1.sh hN
    ·rename_i iV h;rw [h] at hk;exact YL hk.sh hN
    ·exact dV
  ·rename_i x y t t'
   cases hb:Nat.beq t t' with
   |false=>exact dV
   |true=>
    have:t=t':=by simpa using hb
    subst this
    refine QG hE fun ek iV hf=>?_
    cases E.exact d with
    |true=>exact ait hf hN
    |false=>exact aiu hf hN
  ·exact ajZ hN
  ·exact ajY hN
  ·exact dV
 all_goals exact dV
end
end GL
namespace GL
def Q.map {α β:Type 1} (f:α→β):Q α→Q β
 | .ret a=>.ret (f a)
 | .ask r k=>.ask r fun v=>(k v).map f
theorem Q.ZR {α β:Type 1} (f:α→β) (τ:St):∀q:Q α,(q.map f).run τ=f (q.run τ)
 | .ret _=>rfl
 | .ask r k=>Q.ZR f τ (k (τ r))
def brk (gs:List Nat):Rs→Rs
 | .go [(.s d, .o (.s (.q b)))]=>bif il gs d then .br True b d else .go [(.s d, .o (.s (.q b)))]
 | .mZ p [(.s d, .o (.s (.q b)))]=>bif il gs d then .br p b d else .mZ p [(.s d, .o (.s (.q b)))]
 |r=>r
def CT (ops:Array Oper):List Oper→List Nat
 |[]=>[]
 |o::l=>match o.guard with
  |some (j,_)=>match ops[j]? with
   |some og=>match og.dst with
    |some g=>g::CT ops l
    |none=>CT ops l
   |none=>CT ops l
  |none=>CT ops l
def XT (N:Nat) (ops:Array Oper) (o:Oper) (q:Q Rs):Q Rs:=
 match o.guard with
 |none=>q
 |some (j,want)=>match ops[j]?,o.dst with
  |some og,some d=>match og.dst with
   |some g=>.ask (.s g) fun
    |some (.o (.s (.v (.bool b))))=>bif (bif want then b else !b) then q else (bif Nat.blt d N then .ret (.go [(.s d, .s (.v undef))]) else mQ)
    |some (.o (.s (.v (.tuple _))))=>bif Nat.blt d N then .ret (.go [(.s d, .s (.v undef))]) else mQ
    |_=>mQ
   |none=>mQ
  |_,_=>mQ
def sem (E:Env):Sm:=fun ops o=>XT E.N ops o ((stp E o).map (brk (CT ops ops.toList)))
section
variable {P:Program} {N:Nat}
theorem Rel.swap {c:Ctx} {τ:St} {a:Act} {w:World} {d:Nat} {b:Bool} (h:Rel N c (τ.ap [(.s d, .s (.q b))]) a w):Rel N c (τ.ap [(.s d, .s (.v (.bool b)))]) a w:=by
 obtain ⟨T,β,hh⟩:=h
 have hb:∀i,(τ.ap [(.s d, .s (.v (.bool b)))]) (.b i)=(τ.ap [(.s d, .s (.q b))]) (.b i):=fun i=>by rw [ui,ui,if_neg (by simp),if_neg (by simp)]
 have hl:∀i,live (τ.ap [(.s d, .s (.v (.bool b)))]) i→live (τ.ap [(.s d, .s (.q b))]) i:=fun i hi=>by
  unfold live at hi ⊢
  rwa [hb] at hi
 refine ⟨T,β,{ hh with
  iC:=fun i av hi=>by
   rw [ui] at hi
   by_cases e:fC.s i= .s d
   ·rw [if_pos e] at hi
    cases hi
    exact hh.iC i (.s (.q b)) (by rw [ui,if_pos e])
   ·rw [if_neg e] at hi
    exact hh.iC i av (by rw [ui,if_neg e];exact hi)
  boxes:=fun i av hi hz=>hh.boxes i av (by rwa [hb] at hi) hz
  apart:=fun i hi=>hh.apart i (hl i hi)
  handed:=fun i b' hb' hi=>hh.handed i b' hb' (hl i hi)
  inj:=fun i j hi hj e=>hh.inj i j (hl i hi) (hl j hj) e
  named:=fun r av hr i hi=>by
   rw [hb]
   rw [ui] at hr
   by_cases e:r= .s d
   ·rw [if_pos e] at hr;cases hr;simp [AV.boxes,A0.boxes,SV.boxes] at hi
   ·rw [if_neg e] at hr
    exact hh.named r av (by rw [ui,if_neg e];exact hr) i hi }⟩
theorem aib {o:Oper} {q:Q Rs} (gs:List Nat) (h:fk P N o q):fk P N o (q.map (brk gs)):=by
 intro c τ a w hr hp K Q' hK
 rw [Q.ZR] at hp hK
 refine h c τ a w hr ?_ K Q' ?_
 ·unfold brk at hp
  split at hp
  ·rename_i heq;rw [heq];trivial
  ·rename_i p d b heq
   rw [heq]
   cases hm:il gs d with
   |true=>rw [hm] at hp;exact hp
   |false=>rw [hm] at hp;exact hp
  ·exact hp
 ·intro u a' w' hu uJ
  unfold brk at hK
  split at hK
  ·rename_i d b heq
   rw [heq] at hu
   cases hu
   cases hm:il gs d with
   |true=>rw [hm] at hK;exact hK _ _ _ rfl uJ.swap
   |false=>rw [hm] at hK;exact hK _ _ _ rfl uJ
  ·rename_i p d b heq
   rw [heq] at hu
   cases hu
   cases hm:il gs d with
   |true=>rw [hm] at hK;exact hK _ _ _ rfl uJ.swap
   |false=>rw [hm] at hK;exact hK _ _ _ rfl uJ
  ·exact hK _ _ _ hu uJ
theorem aeA {ops:Array Oper} {o:Oper} {q:Q Rs} (h:fk P N o q):OpS P N ops o (XT N ops o q):=by
 intro c τ a w hr hp K Q' hK
 unfold XT at hp hK
 cases hg:o.guard with
 |none=>
  rw [hg] at hp hK
  have:Region.wanted o (yielded ops a.tmps)=true:=by simp [Region.wanted,hg]
  rw [if_pos this]
  exact h c τ a w hr hp K Q' hK
 |some jw=>
  obtain ⟨j,want⟩:=jw
  rw [hg] at hp hK
  simp only at hp hK
  split at hp
  ·rename_i og d hj hd
   simp only [hj,hd] at hK
   split at hp
   ·rename_i g hgd
    simp only [hgd,Q.run] at hK
    simp only [Q.run] at hp
    split at hp
    ·rename_i b hb
     simp only [hb] at hK
     obtain ⟨T,β,hh⟩:=hr
     obtain ⟨v,hv,cV⟩:=hh.iC g _ hb
     have hv':v= .bool b:=cV
     subst hv'
     have hy:yielded ops a.tmps j=some b:=by simp [yielded,hj,hgd,hv]
     cases hw:(bif want then b else !b) with
     |true=>
      rw [hw] at hp hK
      have hbw:b=want:=by cases b<;>cases want<;>simp at hw ⊢
      have:Region.wanted o (yielded ops a.tmps)=true:=by simp [Region.wanted,hg,hy,hbw]
      rw [if_pos this]
      exact h c τ a w ⟨T,β,hh⟩ hp K Q' hK
     |false=>
      rw [hw] at hp hK
      have hbw:b≠want:=by cases b<;>cases want<;>simp at hw ⊢
      have:¬Region.wanted o (yielded ops a.tmps)=true:=by simp [Region.wanted,hg,hy,hbw]
      rw [if_neg this]
      simp only [cond_false] at hp hK
      cases hN:Nat.blt d N with
      |false=>rw [hN] at hp;exact hp.elim
      |true=>
       rw [hN] at hK
       rw [hd]
       exact hK _ _ _ rfl ⟨T,β,hh.put (me.1 hN) (av:=.s (.v undef)) rfl (by simp [AV.boxes,A0.boxes,SV.boxes])⟩
    ·rename_i x hb
     simp only [hb] at hK
     obtain ⟨T,β,hh⟩:=hr
     obtain ⟨v,hv,cV⟩:=hh.iC g _ hb
     have hv':v= .tuple x:=cV
     subst hv'
     have hy:yielded ops a.tmps j=none:=by simp [yielded,hj,hgd,hv]
     have:¬Region.wanted o (yielded ops a.tmps)=true:=by simp [Region.wanted,hg,hy]
     rw [if_neg this]
     cases hN:Nat.blt d N with
     |false=>rw [hN] at hp;exact hp.elim
     |true=>
      rw [hN] at hK
      rw [hd]
      exact hK _ _ _ rfl ⟨T,β,hh.put (me.1 hN) (av:=.s (.v undef)) rfl (by simp [AV.boxes,A0.boxes,SV.boxes])⟩
    ·exact hp.elim
   ·exact hp.elim
  ·exact hp.elim
theorem xS {E:Env} (hE:AT P E):YR P E.N (sem E):=fun ops _ o _=>aeA (aib (CT ops ops.toList) (ahk hE o))
def Env.sh (E:Env) (t:TypeId):Option (Bool×Nat):=match E.tab t with
 |some i=>some (i.agg,i.size)
 |none=>none
theorem Env.QY {E:Env} (hE:AT P E):∀t x,E.sh t=some x→Sh P t=some x:=fun t x h=>by
 unfold Env.sh at h
 split at h
 ·rename_i i hi;cases h;exact (hE.tab t i hi).sh
 ·cases h
theorem xK.of {E:Env} (hE:AT P E) (hm:P.follows .mixedOrders=true) {f:FuncId} {fn:Func} {cd:Code} {C:Con} (hf:P.funcs[f]?=some fn) (hb:fn.body=some cd) (hN:fn.ntmps=E.N) (hlen:C.A.length≤E.N)
  (h:∀x y,C.pre x y→vc P E.N (sem E) cd (entry (APs.iS C.A x) (APs.iS C.B y)) (K5 E.sh fn.results.toList C.B.length C.mv (fun r os=>∃z,C.φ x y z∧r=C.r x y z∧os=C.o x y z∧os.length=C.B.length+C.nf))):xK P f C:=by
 intro x y hp
 refine TC.E7 hm (xS hE) (Env.QY hE) hf hb hN (by rw [APs.jY];exact hlen) ?_
 rw [APs.jY]
 exact h x y hp
theorem agT {E:Env} (hE:AT P E) (hm:P.follows .mixedOrders=true) {τ:St} {Q':sO} {cd:Code} {ι:Type} (bT:List fC) (J:ι→AM) (φ:ι→Prop) (μ:ι→Nat) (x0:ι) (sg0:List (Nat×Nat)) (h0:φ x0) (hs:EM sg0 τ τ bT (J x0))
  (tK:∀x,φ x→vc P E.N (sem E) cd ((oH τ bT).ap (J x)) (DK (fun τ'=>∃y sg,φ y∧μ y < μ x∧EM sg τ τ' bT (J y)) Q')):TW P E.N (.loop cd) τ Q':=
 TW.ai3 hm (xS hE) bT J φ μ x0 sg0 h0 hs tK
end
end GL
namespace GL
theorem aac {P:Program} {t:TypeId}:∀(l:List (Nat×Bool×Nat)) (k:Nat),(l.zipIdx k).map (fun p=>kk P t p.2)=l.map some→∀(f:Nat) (x:Nat×Bool×Nat),l[f]?=some x→kk P t (k+f)=some x
 |[],_,_,f,x,h=>by simp at h
 |y::l,k,h,0,x,hx=>by
  simp only [List.zipIdx_cons,List.map_cons,List.cons.injEq] at h
  simp at hx;subst hx
  simpa using h.1
 |y::l,k,h,f+1,x,hx=>by
  simp only [List.zipIdx_cons,List.map_cons,List.cons.injEq] at h
  have:=aac l (k+1) h.2 f x (by simpa using hx)
  rwa [show k+1+f=k+(f+1) by omega] at this
theorem flds_all {P:Program} {t:TypeId} {l:List (Nat×Bool×Nat)} (h:(l.zipIdx 0).map (fun p=>kk P t p.2)=l.map some):∀(f:Nat) (x:Nat×Bool×Nat),l[f]?=some x→kk P t f=some x:=fun f x hx=>by
 have:=aac l 0 h f x hx
 rwa [Nat.zero_add] at this
theorem ints_at {P : Program} {t : TypeId} {l : List String} (h : (P.fieldsOf t).toList.map (fun f => (f.name, P.underlying f.type, Sh P f.type, f.offset)) = l.zipIdx.map (fun p => (p.1, some (.int .i64), some (false, 1), p.2))) (hn : ∀ s ∈ l, s ≠ "_") :
  ∀ (i : Nat) (f : Field), (P.fieldsOf t)[i]? = some f → f.name ≠ "_" ∧ P.underlying f.type = some (.int .i64) ∧ Sh P f.type = some (false, 1) ∧ f.offset = i := by
 intro i f hf
 have h1:=congrArg (fun l=>l[i]?) h
 simp only [List.getElem?_map,Array.getElem?_toList,hf,Option.map_some,List.getElem?_zipIdx] at h1
 cases hl:l[i]? with
 |none=>rw [hl] at h1;simp at h1
 |some s=>
  rw [hl] at h1
  simp at h1
  obtain ⟨h2,h3,h4,h5⟩:=h1
  exact ⟨by rw [h2];exact hn s (List.mem_of_getElem? hl),h3,h4,h5⟩
def U3:TI:=⟨false,1, .int .i64,[.int .i64 0],[],[]⟩
theorem ok_int:TIok Tryz.prog 3 U3:=⟨by show Sh Tryz.prog 3=some (false,1);kernel_rfl,by show zeroOf Tryz.prog 3=some [.int .i64 0];kernel_rfl,by simp [U3], .inl rfl,by show Tryz.prog.underlying 3=some (.int .i64);kernel_rfl⟩
def NU:TI:=⟨false,1, .bool,[.bool false],[],[]⟩
theorem afQ:TIok Tryz.prog 4 NU:=⟨by show Sh Tryz.prog 4=some (false,1);kernel_rfl,by show zeroOf Tryz.prog 4=some [.bool false];kernel_rfl,by simp [NU], .inl rfl,by show Tryz.prog.underlying 4=some .bool;kernel_rfl⟩
def F3:TI:=⟨false,1, .int .u8,[.int .u8 0],[],[]⟩
theorem adt:TIok Tryz.prog 5 F3:=⟨by show Sh Tryz.prog 5=some (false,1);kernel_rfl,by show zeroOf Tryz.prog 5=some [.int .u8 0];kernel_rfl,by simp [F3], .inl rfl,by show Tryz.prog.underlying 5=some (.int .u8);kernel_rfl⟩
def A1:TI:=⟨false,1, .str,[.string ByteArray.empty],[],[]⟩
theorem abF:TIok Tryz.prog 9 A1:=⟨by show Sh Tryz.prog 9=some (false,1);kernel_rfl,by show zeroOf Tryz.prog 9=some [.string ByteArray.empty];kernel_rfl,by simp [A1], .inl rfl,by show Tryz.prog.underlying 9=some .string;kernel_rfl⟩
def xN:TI:=⟨false,1, .bytes 1,[.slice none 0 0],[],[]⟩
theorem WZ:TIok Tryz.prog 22 xN:=⟨by show Sh Tryz.prog 22=some (false,1);kernel_rfl,by show zeroOf Tryz.prog 22=some [.slice none 0 0];kernel_rfl,by simp [xN], .inl rfl,⟨⟨by show vP Tryz.prog 22=some (1,1,[.int .u8 0]);kernel_rfl,by simp,by decide⟩,5,by kernel_rfl,by kernel_rfl⟩⟩
abbrev aa:EK:=[.str 4096]
def uS:TI:=⟨false,1, .slice aa 16,[.slice none 0 0],[],[]⟩
theorem SL:TIok Tryz.prog 23 uS:=⟨by show Sh Tryz.prog 23=some (false,1);kernel_rfl,by show zeroOf Tryz.prog 23=some [.slice none 0 0];kernel_rfl,by simp [uS], .inl rfl,⟨by show vP Tryz.prog 23=some (1,16,[.string ByteArray.empty]);kernel_rfl,by simp,by decide⟩⟩
abbrev ae:EK:=[.i64]
def F6:TI:=⟨false,1, .slice ae 8,[.slice none 0 0],[],[]⟩
theorem adz:TIok Tryz.prog 24 F6:=⟨by show Sh Tryz.prog 24=some (false,1);kernel_rfl,by show zeroOf Tryz.prog 24=some [.slice none 0 0];kernel_rfl,by simp [F6], .inl rfl,⟨by show vP Tryz.prog 24=some (1,8,[.int .i64 0]);kernel_rfl,by simp,by decide⟩⟩
def QL:TI:=⟨true,2, .other,[.slice none 0 0, .slice none 0 0],[(0,false,1),(1,false,1)],[(0,1),(1,1)]⟩
theorem ady:TIok Tryz.prog 26 QL:=⟨by show Sh Tryz.prog 26=some (true,2);kernel_rfl,by show zeroOf Tryz.prog 26=some [.slice none 0 0, .slice none 0 0];kernel_rfl,flds_all (by kernel_rfl), .inr (by kernel_rfl),trivial⟩
abbrev ab:EK:=[.i64, .i64, .i64, .i64, .i64]
def F7:TI:=⟨false,1, .slice ab 40,[.slice none 0 0],[],[]⟩
theorem adA:TIok Tryz.prog 27 F7:=⟨by show Sh Tryz.prog 27=some (false,1);kernel_rfl,by show zeroOf Tryz.prog 27=some [.slice none 0 0];kernel_rfl,by simp [F7], .inl rfl,⟨by show vP Tryz.prog 27=some (5,40,[.int .i64 0, .int .i64 0, .int .i64 0, .int .i64 0, .int .i64 0]);kernel_rfl,by simp,by decide⟩⟩
def pj:TI:=⟨true,8, .other,[.slice none 0 0, .slice none 0 0, .slice none 0 0, .int .i64 0, .slice none 0 0, .int .i64 0, .slice none 0 0, .bool false],[(0,false,1),(1,true,2),(3,false,1),(4,false,1),(5,false,1),(6,false,1),(7,false,1)],[(0,1),(1,2),(3,1),(4,1),(5,1),(6,1),(7,1)]⟩
theorem adx:TIok Tryz.prog 29 pj:=⟨by show Sh Tryz.prog 29=some (true,8);kernel_rfl,by show zeroOf Tryz.prog 29=some [.slice none 0 0, .slice none 0 0, .slice none 0 0, .int .i64 0, .slice none 0 0, .int .i64 0, .slice none 0 0, .bool false];kernel_rfl,flds_all (by kernel_rfl), .inr (by kernel_rfl),trivial⟩
def ti_Ptr:TI:=⟨true,5, .ints 5,[.int .i64 0, .int .i64 0, .int .i64 0, .int .i64 0, .int .i64 0],[(0,false,1),(1,false,1),(2,false,1),(3,false,1),(4,false,1)],[(0,1),(1,1),(2,1),(3,1),(4,1)]⟩
theorem ok_Ptr : TIok Tryz.prog 31 ti_Ptr := ⟨by show Sh Tryz.prog 31 = some (true, 5); kernel_rfl, by show zeroOf Tryz.prog 31 = some [.int .i64 0, .int .i64 0, .int .i64 0, .int .i64 0, .int .i64 0]; kernel_rfl, flds_all (by kernel_rfl), .inr (by kernel_rfl), ⟨by kernel_rfl, by kernel_rfl, by kernel_rfl, by kernel_rfl, ints_at (l := ["At", "Birth", "Size", "Sum", "Level"]) (by kernel_rfl) (by decide)⟩⟩
def sS:TI:=⟨true,7, .other,[.int .i64 0, .int .i64 0, .int .i64 0, .int .i64 0, .int .i64 0, .int .i64 0, .int .i64 0],[(0,true,5),(5,false,1),(6,false,1)],[(0,5),(5,1),(6,1)]⟩
theorem afR:TIok Tryz.prog 33 sS:=⟨by show Sh Tryz.prog 33=some (true,7);kernel_rfl,by show zeroOf Tryz.prog 33=some [.int .i64 0, .int .i64 0, .int .i64 0, .int .i64 0, .int .i64 0, .int .i64 0, .int .i64 0];kernel_rfl,flds_all (by kernel_rfl), .inr (by kernel_rfl),trivial⟩
def YV:TI:=⟨true,2, .other,[.slice none 0 0, .int .i64 0],[(0,false,1),(1,false,1)],[(0,1),(1,1)]⟩
theorem afP:TIok Tryz.prog 47 YV:=⟨by show Sh Tryz.prog 47=some (true,2);kernel_rfl,by show zeroOf Tryz.prog 47=some [.slice none 0 0, .int .i64 0];kernel_rfl,flds_all (by kernel_rfl), .inr (by kernel_rfl),trivial⟩
abbrev oS:EK:=[.i64, .i64, .i64, .i64, .i64, .i64, .i64, .i64, .i64, .i64]
def A3:TI:=⟨false,1, .slice oS 80,[.slice none 0 0],[],[]⟩
theorem abH:TIok Tryz.prog 49 A3:=⟨by show Sh Tryz.prog 49=some (false,1);kernel_rfl,by show zeroOf Tryz.prog 49=some [.slice none 0 0];kernel_rfl,by simp [A3], .inl rfl,⟨by show vP Tryz.prog 49=some (10,80,[.int .i64 0, .int .i64 0, .int .i64 0, .int .i64 0, .int .i64 0, .int .i64 0, .int .i64 0, .int .i64 0, .int .i64 0, .int .i64 0]);kernel_rfl,by simp,by decide⟩⟩
def YW:TI:=⟨true,10, .other,[.int .i64 0, .int .i64 0, .int .i64 0, .int .i64 0, .int .i64 0, .int .i64 0, .int .i64 0, .int .i64 0, .int .i64 0, .int .i64 0],[(0,false,1),(1,false,1),(2,false,1),(3,true,7)],[(0,1),(1,1),(2,1),(3,7)]⟩
theorem afT:TIok Tryz.prog 52 YW:=⟨by show Sh Tryz.prog 52=some (true,10);kernel_rfl,by show zeroOf Tryz.prog 52=some [.int .i64 0, .int .i64 0, .int .i64 0, .int .i64 0, .int .i64 0, .int .i64 0, .int .i64 0, .int .i64 0, .int .i64 0, .int .i64 0];kernel_rfl,flds_all (by kernel_rfl), .inr (by kernel_rfl),trivial⟩
abbrev EJ:EK:=[.i64, .str 4096, .str 4096, .i64, .str 4096]
def NV:TI:=⟨false,1, .slice EJ 64,[.slice none 0 0],[],[]⟩
theorem afS:TIok Tryz.prog 71 NV:=⟨by show Sh Tryz.prog 71=some (false,1);kernel_rfl,by show zeroOf Tryz.prog 71=some [.slice none 0 0];kernel_rfl,by simp [NV], .inl rfl,⟨by show vP Tryz.prog 71=some (5,64,[.int .i64 0, .string ByteArray.empty, .string ByteArray.empty, .int .i64 0, .string ByteArray.empty]);kernel_rfl,by simp,by decide⟩⟩
def agK:TI:=⟨true,5, .other,[.int .i64 0, .string ByteArray.empty, .string ByteArray.empty, .int .i64 0, .string ByteArray.empty],[(0,false,1),(1,false,1),(2,false,1),(3,false,1),(4,false,1)],[(0,1),(1,1),(2,1),(3,1),(4,1)]⟩
theorem aiU:TIok Tryz.prog 76 agK:=⟨by show Sh Tryz.prog 76=some (true,5);kernel_rfl,by show zeroOf Tryz.prog 76=some [.int .i64 0, .string ByteArray.empty, .string ByteArray.empty, .int .i64 0, .string ByteArray.empty];kernel_rfl,flds_all (by kernel_rfl), .inr (by kernel_rfl),trivial⟩
def QK:TI:=⟨true,16, .other,[.slice none 0 0, .slice none 0 0, .slice none 0 0, .int .i64 0, .slice none 0 0, .int .i64 0, .slice none 0 0, .bool false, .int .i64 0, .int .i64 0, .int .i64 0, .int .i64 0, .int .i64 0, .int .i64 0, .int .i64 0, .bool false],[(0,true,8),(8,true,7),(15,false,1)],[(0,8),(8,7),(15,1)]⟩
theorem adv:TIok Tryz.prog 100 QK:=⟨by show Sh Tryz.prog 100=some (true,16);kernel_rfl,by show zeroOf Tryz.prog 100=some [.slice none 0 0, .slice none 0 0, .slice none 0 0, .int .i64 0, .slice none 0 0, .int .i64 0, .slice none 0 0, .bool false, .int .i64 0, .int .i64 0, .int .i64 0, .int .i64 0, .int .i64 0, .int .i64 0, .int .i64 0, .bool false];kernel_rfl,flds_all (by kernel_rfl), .inr (by kernel_rfl),trivial⟩
abbrev aG:EK:=[.str 4096, .i64]
def xO:TI:=⟨false,1, .slice aG 24,[.slice none 0 0],[],[]⟩
theorem W0:TIok Tryz.prog 129 xO:=⟨by show Sh Tryz.prog 129=some (false,1);kernel_rfl,by show zeroOf Tryz.prog 129=some [.slice none 0 0];kernel_rfl,by simp [xO], .inl rfl,⟨by show vP Tryz.prog 129=some (2,24,[.string ByteArray.empty, .int .i64 0]);kernel_rfl,by simp,by decide⟩⟩
def QM:TI:=⟨true,2, .other,[.string ByteArray.empty, .int .i64 0],[(0,false,1),(1,false,1)],[(0,1),(1,1)]⟩
theorem adB:TIok Tryz.prog 136 QM:=⟨by show Sh Tryz.prog 136=some (true,2);kernel_rfl,by show zeroOf Tryz.prog 136=some [.string ByteArray.empty, .int .i64 0];kernel_rfl,flds_all (by kernel_rfl), .inr (by kernel_rfl),trivial⟩
def A2:TI:=⟨false,1, .arr 8,[.slice none 0 0],[],[]⟩
theorem abG:TIok Tryz.prog 154 A2:=⟨by show Sh Tryz.prog 154=some (false,1);kernel_rfl,by show zeroOf Tryz.prog 154=some [.slice none 0 0];kernel_rfl,by simp [A2], .inl rfl,⟨⟨.pointer none,by kernel_rfl⟩,by decide⟩⟩
def F5:TI:=⟨false,1, .iface,[.nilIface],[],[]⟩
theorem adw:TIok Tryz.prog 171 F5:=⟨by show Sh Tryz.prog 171=some (false,1);kernel_rfl,by show zeroOf Tryz.prog 171=some [.nilIface];kernel_rfl,by simp [F5], .inl rfl,by show isIface Tryz.prog 171=true;kernel_rfl⟩
def tab:TypeId→Option TI
 |3=>some U3
 |4=>some NU
 |5=>some F3
 |9=>some A1
 |22=>some xN
 |23=>some uS
 |24=>some F6
 |26=>some QL
 |27=>some F7
 |29=>some pj
 |31=>some ti_Ptr
 |33=>some sS
 |47=>some YV
 |49=>some A3
 |52=>some YW
 |71=>some NV
 |76=>some agK
 |100=>some QK
 |129=>some xO
 |136=>some QM
 |154=>some A2
 |171=>some F5
 |_=>none
theorem acD:∀t i,tab t=some i→TIok Tryz.prog t i:=by
 intro t i h
 unfold tab at h
 split at h
 ·cases h;exact ok_int
 ·cases h;exact afQ
 ·cases h;exact adt
 ·cases h;exact abF
 ·cases h;exact WZ
 ·cases h;exact SL
 ·cases h;exact adz
 ·cases h;exact ady
 ·cases h;exact adA
 ·cases h;exact adx
 ·cases h;exact ok_Ptr
 ·cases h;exact afR
 ·cases h;exact afP
 ·cases h;exact abH
 ·cases h;exact afT
 ·cases h;exact afS
 ·cases h;exact aiU
 ·cases h;exact adv
 ·cases h;exact W0
 ·cases h;exact adB
 ·cases h;exact abG
 ·cases h;exact adw
 ·cases h
theorem mixed:Tryz.prog.follows .mixedOrders=true:=by kernel_rfl
end GL
namespace GL
def Has (P:Program) (f:FuncId) (c:Con):Prop:=xK P f c∧Enters P f
def look:List (FuncId×Con)→FuncId→Option Con
 |[],_=>none
 |p::l,f=>bif Nat.beq p.1 f then some p.2 else look l f
def AllHas (P:Program):List (FuncId×Con)→Prop
 |[]=>True
 |p::l=>Has P p.1 p.2∧AllHas P l
theorem HZ {P:Program}:∀ {l:List (FuncId×Con)},AllHas P l→∀ {f:FuncId} {c:Con},look l f=some c→Has P f c
 |[],_,f,c,h=>by cases h
 |p::l,hl,f,c,h=>by
  simp only [look] at h
  cases hb:Nat.beq p.1 f with
  |true=>
   rw [hb] at h
   have:p.1=f:=by simpa using hb
   cases h
   rw [←this];exact hl.1
  |false=>rw [hb] at h;exact HZ hl.2 h
def mkE (n:Nat) (l:List (FuncId×Con)) (ex wr pt:Nat→Bool):Env:=⟨n,tab,look l,ex,wr,pt⟩
theorem tC {n:Nat} {l:List (FuncId×Con)} {ex wr pt:Nat→Bool} (h:AllHas Tryz.prog l):AT Tryz.prog (mkE n l ex wr pt):=⟨acD,fun _ _ hc=>HZ h hc⟩
theorem Has.ofE (ex wr pt : Nat → Bool) {l : List (FuncId × Con)} (hl : AllHas Tryz.prog l) {f : FuncId} {fn : Func} {cd : Code} {C : Con} (hf : Tryz.prog.funcs[f]? = some fn) (hb : fn.body = some cd) (hnm : fn.name ≠ "runtime.NumGoroutine") (hlen : C.A.length ≤ fn.ntmps)
  (h:∀x y,C.pre x y→vc Tryz.prog fn.ntmps (sem (mkE fn.ntmps l ex wr pt)) cd (entry (APs.iS C.A x) (APs.iS C.B y)) (K5 (mkE fn.ntmps l ex wr pt).sh fn.results.toList C.B.length C.mv (fun r os=>∃z,C.φ x y z∧r=C.r x y z∧os=C.o x y z∧os.length=C.B.length+C.nf))):Has Tryz.prog f C:=
 ⟨xK.of (tC hl) mixed hf hb rfl hlen h,fn,hf,by rw [hb];rfl,hnm⟩
theorem Has.of {l : List (FuncId × Con)} (hl : AllHas Tryz.prog l) {f : FuncId} {fn : Func} {cd : Code} {C : Con} (hf : Tryz.prog.funcs[f]? = some fn) (hb : fn.body = some cd) (hnm : fn.name ≠ "runtime.NumGoroutine") (hlen : C.A.length ≤ fn.ntmps)
  (h:∀x y,C.pre x y→vc Tryz.prog fn.ntmps (sem (mkE fn.ntmps l (fun _=>true) (fun _=>false) (fun _=>false))) cd (entry (APs.iS C.A x) (APs.iS C.B y)) (K5 (mkE fn.ntmps l (fun _=>true) (fun _=>false) (fun _=>false)).sh fn.results.toList C.B.length C.mv (fun r os=>∃z,C.φ x y z∧r=C.r x y z∧os=C.o x y z∧os.length=C.B.length+C.nf))):Has Tryz.prog f C:=
 Has.ofE _ _ _ hl hf hb hnm hlen h
def Con.below (C:Con) (μ:APs.Ty C.A→APs.Ty C.B→Nat) (n:Nat):Con:= { C with pre:=fun x y=>C.pre x y∧μ x y < n }
theorem Has.recE (ex wr pt : Nat → Bool) {f : FuncId} {fn : Func} {cd : Code} {C : Con} (μ : APs.Ty C.A → APs.Ty C.B → Nat) {l : List (FuncId × Con)} (hl : AllHas Tryz.prog l) (hf : Tryz.prog.funcs[f]? = some fn) (hb : fn.body = some cd) (hnm : fn.name ≠ "runtime.NumGoroutine") (hlen : C.A.length ≤ fn.ntmps)
  (h:∀x y,C.pre x y→Has Tryz.prog f (C.below μ (μ x y))→vc Tryz.prog fn.ntmps (sem (mkE fn.ntmps ((f,C.below μ (μ x y))::l) ex wr pt)) cd (entry (APs.iS C.A x) (APs.iS C.B y)) (K5 (mkE fn.ntmps l ex wr pt).sh fn.results.toList C.B.length C.mv (fun r os=>∃z,C.φ x y z∧r=C.r x y z∧os=C.o x y z∧os.length=C.B.length+C.nf))):Has Tryz.prog f C:=by
 have hE:Enters Tryz.prog f:=⟨fn,hf,by rw [hb];rfl,hnm⟩
 have key:∀n,xK Tryz.prog f (C.below μ n):=by
  intro n
  induction n with
  |zero=>intro x y hp;exact absurd hp.2 (by omega)
  |succ n ih=>
   intro (x:APs.Ty C.A) (y:APs.Ty C.B) (hp:C.pre x y∧μ x y < n+1)
   have hm:Has Tryz.prog f (C.below μ (μ x y)):=⟨fun x' y' hp'=>ih x' y' ⟨hp'.1,by have:=hp.2;have h2:μ x' y' < μ x y:=hp'.2;omega⟩,hE⟩
   have hl':AllHas Tryz.prog ((f,C.below μ (μ x y))::l):=⟨hm,hl⟩
   have hx:(APs.iS C.A x).length≤fn.ntmps:=by rw [APs.jY];exact hlen
   have hy:(APs.iS C.B y).length=C.B.length:=APs.jY C.B y
   exact TC.E7 (P:=Tryz.prog) (N:=fn.ntmps) (S:=sem (mkE fn.ntmps ((f,C.below μ (μ x y))::l) ex wr pt)) (sh:=(mkE fn.ntmps l ex wr pt).sh) (f:=f) (fn:=fn) (cd:=cd) (args:=APs.iS C.A x) (bs:=APs.iS C.B y) (mv:=C.mv) (post:=fun r os=>∃z,C.φ x y z∧r=C.r x y z∧os=C.o x y z∧os.length=C.B.length+C.nf) mixed (xS (tC (n:=fn.ntmps) (ex:=ex) (wr:=wr) (pt:=pt) hl')) (Env.QY (tC (n:=fn.ntmps) (ex:=ex) (wr:=wr) (pt:=pt) hl)) hf hb rfl hx (by rw [hy];exact h x y hp.1 hm)
 exact ⟨fun x y hp=>key (μ x y+1) x y ⟨hp,by omega⟩,hE⟩
theorem TC.ac5 {P:Program} {f:FuncId} {mv:Bool} {args bs:List AV} {post RX:AV→List AV→Prop} (h:TC P f mv args bs post) (hp:∀r os,post r os→∃j,RX r (os++List.replicate j .zz)):TC P f mv args bs RX:=by
 intro W T β vs h1 h2 h3 h4 h5
 refine (h W T β vs h1 h2 h3 h4 h5).mono fun e w' ⟨v,r,os,T',β',e1,e2,e3,e4,e5,e6⟩=>?_
 obtain ⟨j,hj⟩:=hp _ _ e2
 have tL:∀(i:Nat) (av:AV),(os++List.replicate j AV.zz)[i]?=some av→av≠.zz→os[i]?=some av:=by
  intro i av hi hz
  by_cases bM:i < os.length
  ·rwa [List.getElem?_append_left bM] at hi
  ·rw [List.getElem?_append_right (by omega)] at hi
   have:=List.mem_of_getElem? hi
   exact absurd (List.mem_replicate.1 this).2 hz
 have hlen:os.length≤(os++List.replicate j AV.zz).length:=by rw [List.length_append];omega
 exact ⟨v,r,_,T',β',e1,hj,e3,⟨fun i hi=>Nat.lt_of_lt_of_le (e4.1 i hi) hlen,e4.2⟩,e5,{
  len:=Nat.le_trans e6.len hlen
  same:=e6.same
  at_:=fun i av hi hz=>by
   obtain ⟨g1,g2,g3,g4,g5⟩:=e6.at_ i av (tL i av hi hz) hz
   exact ⟨g1,g2,g3,fun j hj=>Nat.lt_of_lt_of_le (g4 j hj) hlen,g5⟩
  inj:=fun i k av av' hi hz hk hz' e=>e6.inj i k av av' (tL i av hi hz) hz (tL k av' hk hz') hz' e }⟩
theorem Has.ofZ (ex wr pt : Nat → Bool) {l : List (FuncId × Con)} (hl : AllHas Tryz.prog l) {f : FuncId} {fn : Func} {cd : Code} {C : Con} (hf : Tryz.prog.funcs[f]? = some fn) (hb : fn.body = some cd) (hnm : fn.name ≠ "runtime.NumGoroutine") (hlen : C.A.length ≤ fn.ntmps)
  (h:∀x y,C.pre x y→vc Tryz.prog fn.ntmps (sem (mkE fn.ntmps l ex wr pt)) cd (entry (APs.iS C.A x) (APs.iS C.B y)) (K5 (mkE fn.ntmps l ex wr pt).sh fn.results.toList C.B.length C.mv (fun r os=>∃z j,C.φ x y z∧r=C.r x y z∧os++List.replicate j .zz=C.o x y z∧(C.o x y z).length=C.B.length+C.nf))):Has Tryz.prog f C:=by
 refine ⟨fun x y hp=>?_,fn,hf,by rw [hb];rfl,hnm⟩
 have hx:(APs.iS C.A x).length≤fn.ntmps:=by rw [APs.jY];exact hlen
 have hy:(APs.iS C.B y).length=C.B.length:=APs.jY C.B y
 refine TC.ac5 (TC.E7 (P:=Tryz.prog) (N:=fn.ntmps) (S:=sem (mkE fn.ntmps l ex wr pt)) (sh:=(mkE fn.ntmps l ex wr pt).sh) (f:=f) (fn:=fn) (cd:=cd) (args:=APs.iS C.A x) (bs:=APs.iS C.B y) (mv:=C.mv) (post:=fun r os=>∃z j,C.φ x y z∧r=C.r x y z∧os++List.replicate j .zz=C.o x y z∧(C.o x y z).length=C.B.length+C.nf) mixed (xS (tC (n:=fn.ntmps) (ex:=ex) (wr:=wr) (pt:=pt) hl)) (Env.QY (tC (n:=fn.ntmps) (ex:=ex) (wr:=wr) (pt:=pt) hl)) hf hb rfl hx (by rw [hy];exact h x y hp)) ?_
 rintro r os ⟨z,j,h1,h2,h3,h4⟩
 exact ⟨j,z,h1,h2,h3,by rw [h3];exact h4⟩
def Wk (r' r:AV):Prop:=(∀(T:a7) (β:Nat→Nat) (v:Value),r.rel T β v→r'.rel T β v)∧(∀i∈r'.boxes,i∈r.boxes)∧(r.od=true→r'.od=true)
theorem Wk.refl (r:AV):Wk r r:=⟨fun _ _ _ h=>h,fun _ h=>h,fun h=>h⟩
theorem Wk.nil (ek:EK):Wk (.s (.vw ek [])) (.s (.v (.slice none 0 0))):=⟨fun _ _ v h=>.inl ⟨rfl,none,0,h⟩,fun i h=>by simp [AV.boxes,A0.boxes,SV.boxes] at h,fun _=>rfl⟩
def WkT:List A0→List A0→Prop
 |[],[]=>True
 |x::l,y::m=>Wk (.o x) (.o y)∧WkT l m
 |_,_=>False
theorem WkT.all:∀ {l m:List A0},WkT l m→(∀(T:a7) (β:Nat→Nat) (vs:List Value),uE T β m vs→uE T β l vs)∧(∀i∈eN l,i∈eN m)∧(uC m=true→uC l=true)
 |[],[],_=>⟨fun _ _ _ h=>h,fun _ h=>h,fun h=>h⟩
 |[],_::_,h=>h.elim
 |_::_,[],h=>h.elim
 |x::l,y::m,h=>by
  obtain ⟨a1,a2,a3⟩:=h.1
  obtain ⟨b1,b2,b3⟩:=WkT.all h.2
  refine ⟨fun T β vs hr=>?_,fun i hi=>?_,fun hf=>?_⟩
  ·cases vs with
   |nil=>exact hr.elim
   |cons v vs=>exact ⟨a1 T β v hr.1,b1 T β vs hr.2⟩
  ·simp only [eN,List.mem_append] at hi ⊢
   rcases hi with hi |hi
   ·exact .inl (a2 i hi)
   ·exact .inr (b2 i hi)
  ·simp only [uC,Bool.and_eq_true] at hf ⊢
   exact ⟨a3 hf.1,b3 hf.2⟩
theorem au {P:Program} {n:Nat} {S:Sm} {cd:Code} {τ:St} {Q':sO} (h:vc P n S cd τ Q'):vc P n S cd τ Q':=h
theorem aw {F:Oper→Q Rs} {l:List Oper} {τ:St} {K:St→Prop} (h:vcT F l τ K):vcT F l τ K:=h
theorem cI {l:List (FuncId×Con)} {n:Nat} {ex wr pt:Nat→Bool} (hl:AllHas Tryz.prog l) {τ:St} {Q':sO} {cd:Code} {ι:Type} (bT:List fC) (J:ι→AM) (φ:ι→Prop) (μ:ι→Nat) (x0:ι) (sg0:List (Nat×Nat)) (h0:φ x0) (hs:EM sg0 τ τ bT (J x0))
  (tK:∀x,φ x→vc Tryz.prog n (sem (mkE n l ex wr pt)) cd ((oH τ bT).ap (J x)) (DK (fun τ'=>∃y sg,φ y∧μ y < μ x∧EM sg τ τ' bT (J y)) Q')):TW Tryz.prog n (.loop cd) τ Q':=
 agT (E:=mkE n l ex wr pt) (tC hl) mixed bT J φ μ x0 sg0 h0 hs tK
abbrev YD (A:List AP) (pre:APs.Ty A→Prop) (r:APs.Ty A→AV):Con where
 A:=A
 B:=[]
 pre:=fun x _=>pre x
 α:=fun _ _=>Unit
 φ:=fun _ _ _=>True
 r:=fun x _ _=>r x
 o:=fun _ _ _=>[]
 nf:=0
def ir (n lo hi:Int):Bool:=decide (lo≤n)&&decide (n≤hi)
theorem cn {n lo hi:Int}:ir n lo hi=true↔lo≤n∧n≤hi:=by simp [ir]
def dy:Con:=YD [.s .int, .s .int, .s .int] (fun _=>True) fun (n,lo,hi)=>.q (ir n lo hi)
theorem im:Has Tryz.prog 24 dy:=by
 refine Has.of (l:=[]) trivial (fn:=Tryz.f24) Tryz.func24 rfl (by decide) (cH rfl) ?_
 rintro ⟨n,lo,hi⟩ _ _
 refine ⟨tv,fun h1=>⟨[],[],_,_,_,rfl,⟨⟨tv,tv⟩,tv⟩,(),tv,?_,rfl,rfl⟩,fun h1=>⟨[],[],_,_,_,rfl,⟨⟨tv,tv⟩,tv⟩,(),tv,?_,rfl,rfl⟩⟩
 ·have h2:lo≤n:=by simpa using h1
  show AV.q (decide (n≤hi))=AV.q (decide (lo≤n)&&decide (n≤hi))
  simp [h2]
 ·have h2:¬lo≤n:=by simpa using h1
  show AV.q false=AV.q (decide (lo≤n)&&decide (n≤hi))
  simp [h2]
abbrev Pt:=Int×Int×Int×Int×Int
abbrev PtS:List SP:=[.int, .int, .int, .int, .int]
def ar (p:Pt):Bool:=decide (p.1=0)&&(decide (p.2.1=0)&&(decide (p.2.2.1=0)&&(decide (p.2.2.2.1=0)&&decide (p.2.2.2.2=0))))
def bc:Con:=YD [.a PtS] (fun _=>True) fun p=>.q (ar p)
theorem cr:Has Tryz.prog 26 bc:=by
 refine Has.of (l:=[]) trivial (fn:=Tryz.f26) Tryz.func26 rfl (by decide) (cH rfl) ?_
 rintro ⟨a,b,c,d,e⟩ _ _
 refine ⟨[],[],_,_,_,rfl,⟨⟨tv,tv⟩,tv⟩,(),tv,?_,rfl,rfl⟩
 rfl
end GL
end Go.Proofs.YtbfgjadbfjkcdaaGreatDoor
