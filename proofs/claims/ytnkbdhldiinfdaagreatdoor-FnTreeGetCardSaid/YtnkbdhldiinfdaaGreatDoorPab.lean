/- A drawn law returns true for every code (its row lists package variables, tied by the card): part 2. -/
import Derived.Test.YtnkbdhldiinfdaaGreatDoorPaa
set_option maxHeartbeats 20000000
set_option maxRecDepth 100000
set_option linter.all false
namespace Go.Proofs.YtnkbdhldiinfdaaGreatDoor
namespace GL
def free (fr:Nat×Nat) (n:Nat):Prop:=fr.1=fr.2∨(n≤fr.1∧fr.1≤fr.2)
theorem I6 (n:Nat):free (0,0) n:=.inl rfl
theorem agb {fr:Nat×Nat}{n:Nat}(h:free fr n):∀i,i<n→(decide (fr.1≤i)&&decide (i<fr.2))=false:=by
 intro i hi
 rw [Bool.and_eq_false_iff]
 simp only [decide_eq_false_iff_not]
 rcases h with h |h<;>omega
def agy (ek:EK) (n:Nat) (l:List (EK.Ty ek)) (cs:Array Value):Prop:=l.length=n∧(∀x∈l,EK.ok ek x)∧cs.toList=flat ek l
def BK.holds (w:World) (b:Nat):BK→Prop
 |.ty ek n=>ek≠[]∧∃cs e fr l,w.heap[b]?=some (.cells cs e fr)∧free fr cs.size∧agy ek n l cs
 |.ro cs e fr=>w.heap[b]?=some (.cells cs e fr)
 |.ln cs e fr=>w.heap[b]?=some (.cells cs e fr)
 |.fz ek n cs=>ek≠[]∧∃e fr l,w.heap[b]?=some (.cells cs e fr)∧free fr cs.size∧agy ek n l cs
 |.bx n=>∃cs e,w.heap[b]?=some (.cells cs e (0,0))∧cs.size=n
def BK.un:BK→BK
 |.fz ek n _=>.ty ek n
 |k=>k
def WT (T:bb) (w:World):Prop:=∀b k,T b=some k→k.holds w b
theorem BK.lt {w:World}{b:Nat}{k:BK}(h:k.holds w b):b<w.heap.size:=by
 cases k with
 |ty ek n=>obtain⟨_,cs,e,fr,l,h,_⟩:=h;exact (ZF1.1 h).1
 |ro cs e fr=>exact (ZF1.1 h).1
 |ln cs e fr=>exact (ZF1.1 h).1
 |fz ek n cs=>obtain⟨_,e,fr,l,h,_⟩:=h;exact (ZF1.1 h).1
 |bx n=>obtain⟨cs,e,h,_⟩:=h;exact (ZF1.1 h).1
theorem BK.qn {w w':World}{b:Nat}{k:BK}(h:k.holds w b) (e:w'.heap[b]?=w.heap[b]?):k.holds w' b:=by
 cases k with
 |ty ek n=>exact⟨h.1,by rw [e];exact h.2⟩
 |ro cs e' fr=>show w'.heap[b]?=_;rw [e];exact h
 |ln cs e' fr=>show w'.heap[b]?=_;rw [e];exact h
 |fz ek n cs=>exact⟨h.1,by rw [e];exact h.2⟩
 |bx n=>show∃cs e,_∧_;rw [e];exact h
theorem FA {T:bb}{w:World}(h:WT T w) {b:Nat}{cs:Array Value}(hr:rdT T b cs):∃e fr,w.heap[b]?=some (.cells cs e fr):=by
 rcases hr with ⟨e,fr,h1⟩ |⟨e,fr,h1⟩ |⟨ek,n,h1⟩
 ·exact⟨e,fr,h _ _ h1⟩
 ·exact⟨e,fr,h _ _ h1⟩
 ·obtain⟨_,e,fr,l,h2,_⟩:=h _ _ h1;exact⟨e,fr,h2⟩
structure Ctx where
 W:World
 T:bb
 H:List Nat
def quiet:Option BK→Prop
 |none=>True
 |some (.bx _)=>True
 |_=>False
def live (τ:St) (i:Nat):Prop:=match τ (.b i) with
 |none=>False
 |some .zz=>False
 |_=>True
theorem kD {τ:St}{i:Nat}(h:live τ i):τ (.b i)≠none:=fun e=>by simp only [live,e] at h
theorem eD {τ:St}{i:Nat}{av:AV}(h:τ (.b i)=some av) (hz:av≠.zz):live τ i:=by
 unfold live
 rw [h]
 cases av<;>first|trivial|exact absurd rfl hz
def aiT (c:Ctx) (i b:Nat):Prop:=(i<1000→b∈c.H)∧(1000≤i→i<1000000000→c.W.heap.size≤b)∧(c.W.heap.size≤b∨b∈c.H)
def YF (T:bb):Prop:=∀g∈zU,∃cs e fr,T g.1=some (.ro cs e fr)∧g.2 cs
theorem YF.mono {T T':bb}(h:uS T T') (hg:YF T):YF T':=fun g hm=>by
 obtain⟨cs,e,fr,h1,h2⟩:=hg g hm
 exact⟨cs,e,fr,h _ _ h1,h2⟩
structure Holds (N:Nat) (c:Ctx) (T:bb) (β:Nat→Nat) (τ:St) (a:Act) (w:World):Prop where
 defs:a.defers=[]
 size:a.tmps.size=N
 EB:c.H.length≤1000
 iJ:∀i av,τ (.s i)=some av→∃v,a.tmps[i]?=some v∧av.rel T β v
 boxes:∀i av,τ (.b i)=some av→av≠.zz→∃cs e,w.heap[β i]?=some (.cells cs e (0,0))∧av.rU T β cs
 apart:∀i,live τ i→(∃n,T (β i)=some (.bx n))∧aiT c i (β i)
 handed:∀i b,c.H[i]?=some b→live τ i→β i=b
 inj:∀i j,live τ i→live τ j→β i=β j→i=j
 named:∀r av,τ r=some av→∀i∈av.boxes,τ (.b i)≠none
 typed:WT T w
 old:∀b,b<c.W.heap.size→(T b).map BK.un=c.T b
 frame:∀b,b<c.W.heap.size→b∉c.H→quiet (c.T b)→w.heap[b]?=c.W.heap[b]?
 gd:c.W.heap.size≤w.heap.size
 os:w.os=c.W.os
 tape:w.tape=c.W.tape
 output:w.output=c.W.output
 oV:YF T
def Rel (N:Nat) (c:Ctx) (τ:St) (a:Act) (w:World):Prop:=∃T β,Holds N c T β τ a w
section
variable {N:Nat}{c:Ctx}{T:bb}{β:Nat→Nat}{τ:St}{a:Act}{w w':World}
theorem Holds.drew (h:Holds N c T β τ a w):Holds N c T β τ a { w with drawn:=w.drawn+1 }:=
 {h with
  boxes:=h.boxes
  typed:=fun b k hb=>BK.qn (h.typed b k hb) rfl
  frame:=h.frame }
theorem Rel.drew (h:Rel N c τ a w):Rel N c τ a { w with drawn:=w.drawn+1 }:=by
 obtain⟨T,β,h⟩:=h
 exact⟨T,β,h.drew⟩
theorem Holds.world (h:Holds N c T β τ a w) (hh:w'.heap=w.heap) (ho:w'.os=w.os) (ht:w'.tape=w.tape) (hu:w'.output=w.output):Holds N c T β τ a w':=
 {h with
  boxes:=by rw [hh];exact h.boxes
  typed:=fun b k hb=>BK.qn (h.typed b k hb) (by rw [hh])
  frame:=by rw [hh];exact h.frame
  gd:=by rw [hh];exact h.gd
  os:=ho.trans h.os
  tape:=ht.trans h.tape
  output:=hu.trans h.output
  oV:=h.oV }
theorem uj {r q:fJ}{av:AV}:(τ.ap [(r,av)]) q=if q=r then some av else τ q:=by
 show (bif fJ.beq r q then some av else τ q)=_
 by_cases e:q=r
 ·subst e;rw [fJ.UK,if_pos rfl];rfl
 ·rw [fJ.beq_false.2 (fun h=>e h.symm),if_neg e];rfl
theorem wI {d:Nat}{av:AV}{i:Nat}:live (τ.ap [(.s d,av)]) i=live τ i:=by
 unfold live
 rw [uj,if_neg (by simp)]
theorem Holds.put (h:Holds N c T β τ a w) {d:Nat}(hd:d<N) {av:AV}{v:Value}
  (hav:av.rel T β v) (hsc:∀i∈av.boxes,τ (.b i)≠none)
  :Holds N c T β (τ.ap [(.s d,av)]) (a.put (some d) v) w where
 defs:=h.defs
 size:=by simp [Act.put,h.size]
 EB:=h.EB
 iJ:=fun i x hx=>by
  rw [uj] at hx
  by_cases e:i=d
  ·subst e
   rw [if_pos rfl] at hx;cases hx
   refine⟨v,?_,hav⟩
   simp [Act.put,h.size,hd]
  ·rw [if_neg (by simp [e])] at hx
   obtain⟨y,hy,hr⟩:=h.iJ i x hx
   refine⟨y,?_,hr⟩
   simp only [Act.put]
   rw [Array.getElem?_setIfInBounds_ne (by omega)]
   exact hy
 boxes:=fun i x hx=>h.boxes i x (by rwa [uj,if_neg (by simp)] at hx)
 apart:=fun i hi=>h.apart i (by rwa [wI] at hi)
 handed:=fun i b hb h0=>h.handed i b hb (by rwa [wI] at h0)
 inj:=fun i j hi hj e=>h.inj i j (by rwa [wI] at hi) (by rwa [wI] at hj) e
 named:=fun r x hx i hi=>by
  rw [uj,if_neg (by simp)]
  rw [uj] at hx
  by_cases e:r= .s d
  ·rw [if_pos e] at hx;cases hx;exact hsc i hi
  ·rw [if_neg e] at hx;exact h.named r x hx i hi
 typed:=h.typed
 old:=h.old
 frame:=h.frame
 gd:=h.gd
 os:=h.os
 tape:=h.tape
 output:=h.output
 oV:=h.oV
def GO (x:Option AV):AV→Prop
 |.o (.s (.q c))=>match x with
  |some (.o (.s (.v (.bool b))))=>b=c
  |x=>x=some (.o (.s (.q c)))
 |y=>x=some y
theorem U5 {y:AV}:GO (some y) y:=by
 unfold GO
 split
 ·split
  ·rename_i h;cases h
  ·rfl
 ·rfl
theorem aaJ {x:Option AV}{y:AV}(h:GO x y):∃z,x=some z∧∀{T:bb}{β:Nat→Nat}{v:Value},z.rel T β v→y.rel T β v:=by
 unfold GO at h
 split at h
 ·split at h
  ·rename_i b
   subst h
   exact⟨_,rfl,fun hr=>hr⟩
  ·exact⟨_,h,fun hr=>hr⟩
 ·exact⟨_,h,fun hr=>hr⟩
structure Sub (σ:Nat→Nat) (τ' τ:St):Prop where
 slot:∀i av,τ' (.s i)=some av→GO (τ (.s i)) (av.ly σ)
 box:∀i av,τ' (.b i)=some av→τ (.b (σ i))=some (av.ly σ)
 named:∀r av,τ' r=some av→∀i∈av.boxes,τ' (.b i)≠none
 inj:∀i j,τ' (.b i)≠none→τ' (.b j)≠none→σ i=σ j→i=j
 low:∀i,τ' (.b i)≠none→σ i=i∨((1000≤i∧i<1000000000)∧1000≤σ i∧σ i<1000000000)∨1000000000≤i
theorem acL {g:Nat→Nat}{av:AV}(h:av≠.zz):av.ly g≠.zz:=by
 cases av with
 |zz=>exact absurd rfl h
 |o x=>intro e;cases e
 |t l=>intro e;cases e
 |rs ek l=>intro e;cases e
 |fn f l=>intro e;cases e
theorem SV.pR {σ:Nat→Nat}{x:SV}{v:Value}(hr:(x.ly σ).rel T β v):x.rel T (fun i=>β (σ i)) v:=by
 cases x<;>exact hr
theorem BQ {σ:Nat→Nat}:∀{l:List SV}{cs:List Value},dN T β (BL σ l) cs→dN T (fun i=>β (σ i)) l cs
 |[],[],_=>trivial
 |_::_,[],h'=>h'.elim
 |[],_::_,h'=>h'.elim
 |_::_,_::_,h'=>⟨SV.pR h'.1,BQ h'.2⟩
theorem A0.pR {σ:Nat→Nat}{x:A0}{v:Value}(hr:(x.ly σ).rel T β v):x.rel T (fun i=>β (σ i)) v:=by
 cases x with
 |s x=>exact SV.pR hr
 |a l=>obtain⟨cs,e,hl⟩:=hr;exact⟨cs,e,BQ hl⟩
theorem LK {σ:Nat→Nat}:∀{l:List A0}{cs:List Value},uD T β (BJ σ l) cs→uD T (fun i=>β (σ i)) l cs
 |[],[],_=>trivial
 |_::_,[],h'=>h'.elim
 |[],_::_,h'=>h'.elim
 |_::_,_::_,h'=>⟨A0.pR h'.1,LK h'.2⟩
theorem NK {σ:Nat→Nat}:∀{l:List (Nat×Nat)},E1 β (BM σ l)=E1 (fun i=>β (σ i)) l
 |[]=>rfl
 |p::l=>by simp only [E1,BM];rw [NK]
theorem AV.pR {σ:Nat→Nat}{x:AV}{v:Value}(hr:(x.ly σ).rel T β v):x.rel T (fun i=>β (σ i)) v:=by
 cases x with
 |o x=>exact A0.pR hr
 |t l=>obtain⟨cs,e,hl⟩:=hr;exact⟨cs,e,LK hl⟩
 |rs ek l=>exact hr
 |zz=>exact hr
 |fn f l=>obtain⟨cs,e,hl⟩:=hr;exact⟨cs,e,hl.trans NK⟩
theorem AV.ae5 {σ:Nat→Nat}{x:AV}{cs:Array Value}(hr:(x.ly σ).rU T β cs):x.rU T (fun i=>β (σ i)) cs:=by
 cases x with
 |o x=>
  cases x with
  |s x=>exact hr
  |a l=>exact BQ hr
 |_=>exact hr
theorem Sub.live {σ:Nat→Nat}{τ':St}(h:Sub σ τ' τ) {i:Nat}(hl:live τ' i):GL.live τ (σ i):=by
 cases hb:τ' (.b i) with
 |none=>exact absurd hb (kD hl)
 |some av=>
  refine eD (h.box i av hb) (acL fun e=>?_)
  subst e
  unfold GL.live at hl
  rw [hb] at hl
  exact hl
theorem Rel.sub {σ:Nat→Nat}{τ':St}(h:Sub σ τ' τ) (hr:Rel N c τ a w):Rel N c τ' a w:=by
 obtain⟨T,β,hh⟩:=hr
 refine⟨T,fun i=>β (σ i),{ hh with
  iJ:=fun i av hs=>by
   obtain⟨z,hz,hzr⟩:=aaJ (h.slot i av hs)
   obtain⟨v,hv,hr⟩:=hh.iJ i _ hz
   exact⟨v,hv,AV.pR (hzr hr)⟩
  boxes:=fun i av hs hz=>by
   obtain⟨cs,e,h1,h2⟩:=hh.boxes _ _ (h.box i av hs) (acL hz)
   exact⟨cs,e,h1,AV.ae5 h2⟩
  apart:=fun i hi=>by
   obtain⟨h1,h2,h3,h4⟩:=hh.apart _ (h.live hi)
   refine⟨h1,fun h5=>?_,fun h5 h6=>?_,h4⟩
   ·rcases h.low i (kD hi) with e |e |e
    ·exact h2 (by omega)
    ·omega
    ·omega
   ·rcases h.low i (kD hi) with e |e |e
    ·exact h3 (by omega) (by omega)
    ·exact h3 e.2.1 e.2.2
    ·omega
  handed:=fun i b hb hi=>by
   have bU:i<c.H.length:=(ZC0.1 hb).1
   have CX:=h.live hi
   rcases h.low i (kD hi) with e |e |e
   ·show β (σ i)=b
    rw [e] at CX ⊢
    exact hh.handed i b hb CX
   ·exact absurd hh.EB (by omega)
   ·exact absurd hh.EB (by omega)
  inj:=fun i j hi hj e=>h.inj i j (kD hi) (kD hj) (hh.inj _ _ (h.live hi) (h.live hj) e)
  named:=h.named }⟩
structure P5 (w:World) (b:Nat) (o:Obj) (w':World):Prop where
 at_:w'.heap[b]?=some o
 other:∀k,k≠b→w'.heap[k]?=w.heap[k]?
 size:w'.heap.size=w.heap.size
 os:w'.os=w.os
 tape:w'.tape=w.tape
 output:w'.output=w.output
theorem Holds.lt (h:Holds N c T β τ a w) {i:Nat}(hi:live τ i):β i<w.heap.size:=by
 obtain⟨⟨n,hn⟩,_⟩:=h.apart i hi
 exact BK.lt (h.typed _ _ hn)
theorem Holds.YS (h:Holds N c T β τ a w) {i n:Nat}{cs:Array Value}{e:TypeId}{fr:Nat×Nat}(hn:T (β i)=some (.bx n)) (hb:w.heap[β i]?=some (.cells cs e fr)):cs.size=n:=by
 obtain⟨mg,e',h1,h2⟩:=h.typed _ _ hn
 rw [hb] at h1
 cases h1
 exact h2
theorem lj {j:Nat}{av:AV}{i:Nat}(h:live (τ.ap [(.b j,av)]) i):i=j∨(i≠j∧live τ i):=by
 by_cases e:i=j
 ·exact .inl e
 ·unfold live at h
  rw [uj,if_neg (by simp [e])] at h
  exact .inr ⟨e,h⟩
theorem Holds.DI (h:Holds N c T β τ a w) {i:Nat}{av:AV}{cs mg:Array Value}{e e':TypeId}(hi:live τ i) (ho:w.heap[β i]?=some (.cells cs e (0,0))) (hw:P5 w (β i) (.cells mg e' (0,0)) w') (dj:mg.size=cs.size) (hl:av.rU T β mg) (hsc:∀j∈av.boxes,τ (.b j)≠none):
  Holds N c T β (τ.ap [(.b i,av)]) a w':=by
 have af7:∀r,τ r≠none→(τ.ap [(.b i,av)]) r≠none:=by
  intro r hr
  rw [uj]
  split
  ·simp
  ·exact hr
 have FK:∀k,live (τ.ap [(.b i,av)]) k→live τ k:=fun k hk=>by
  rcases lj hk with rfl |⟨_,h⟩
  ·exact hi
  ·exact h
 obtain⟨⟨n,hn⟩,oa⟩:=h.apart i hi
 have mq:=h.YS hn ho
 exact {
  defs:=h.defs
  size:=h.size
  EB:=h.EB
  iJ:=fun k x hk=>h.iJ k x (by rwa [uj,if_neg (by simp)] at hk)
  boxes:=fun k x hk hz=>by
   rw [uj] at hk
   by_cases ek:k=i
   ·subst ek
    rw [if_pos rfl] at hk;cases hk
    exact⟨mg,e',hw.at_,hl⟩
   ·rw [if_neg (by simp [ek])] at hk
    obtain⟨ds,e2,h2,h3⟩:=h.boxes k x hk hz
    refine⟨ds,e2,?_,h3⟩
    rw [hw.other _ (fun he=>ek (h.inj k i (eD hk hz) hi he))]
    exact h2
  apart:=fun k hk=>h.apart k (FK k hk)
  handed:=fun k b hb h0=>h.handed k b hb (FK k h0)
  inj:=fun k j hk hj e=>h.inj k j (FK k hk) (FK j hj) e
  named:=fun r x hr k hk=>by
   refine af7 _ ?_
   rw [uj] at hr
   by_cases e:r= .b i
   ·rw [if_pos e] at hr;cases hr;exact hsc k hk
   ·rw [if_neg e] at hr;exact h.named r x hr k hk
  typed:=fun b k hb=>by
   by_cases e:b=β i
   ·subst e
    rw [hn] at hb;cases hb
    exact⟨mg,e',hw.at_,dj.trans mq⟩
   ·exact BK.qn (h.typed b k hb) (hw.other b e)
  old:=h.old
  frame:=fun b hb hH hq=>by
   have fA:b≠β i:=fun e=>by
    rcases oa.2.2 with h1 |h1
    ·omega
    ·rw [e] at hH;exact hH h1
   rw [hw.other b fA]
   exact h.frame b hb hH hq
  gd:=by rw [hw.size];exact h.gd
  os:=hw.os.trans h.os
  tape:=hw.tape.trans h.tape
  output:=hw.output.trans h.output
  oV:=h.oV }
theorem Holds.uR (h:Holds N c T β τ a w) {b:Nat}{ek:EK}{n:Nat}(hb:T b=some (.ty ek n)) {cs:Array Value}{e:TypeId}{fr:Nat×Nat}{l:List (EK.Ty ek)}(hw:P5 w b (.cells cs e fr) w') (ke:free fr cs.size) (cG:agy ek n l cs):
  Holds N c T β τ a w':=
 {h with
  boxes:=fun k x hk hz=>by
   obtain⟨mg,e',h2,h3⟩:=h.boxes k x hk hz
   refine⟨mg,e',?_,h3⟩
   rw [hw.other _ (fun he=>by obtain⟨n',hn'⟩:=(h.apart k (eD hk hz)).1;rw [he,hb] at hn';cases hn')]
   exact h2
  typed:=fun b' k hb'=>by
   by_cases he:b'=b
   ·subst he
    rw [hb] at hb';cases hb'
    exact⟨(h.typed b' _ hb).1,cs,e,fr,l,hw.at_,ke,cG⟩
   ·exact BK.qn (h.typed b' k hb') (hw.other b' he)
  frame:=fun k hk hH hq=>by
   have fA:k≠b:=fun e=>by
    subst e
    have:=h.old k hk
    rw [hb] at this
    rw [←this] at hq
    exact hq
   rw [hw.other k fA]
   exact h.frame k hk hH hq
  gd:=by rw [hw.size];exact h.gd
  os:=hw.os.trans h.os
  tape:=hw.tape.trans h.tape
  output:=hw.output.trans h.output
  oV:=h.oV }
structure oK (w:World) (o:Obj) (w':World):Prop where
 heap:w'.heap=w.heap.push o
 os:w'.os=w.os
 tape:w'.tape=w.tape
 output:w'.output=w.output
theorem oK.old {o:Obj}(h:oK w o w') {k:Nat}(hk:k<w.heap.size):w'.heap[k]?=w.heap[k]?:=by
 rw [h.heap,Array.getElem?_push,if_neg (by omega)]
theorem oK.new {o:Obj}(h:oK w o w'):w'.heap[w.heap.size]?=some o:=by
 rw [h.heap,Array.getElem?_push,if_pos rfl]
theorem oK.size {o:Obj}(h:oK w o w'):w'.heap.size=w.heap.size+1:=by rw [h.heap];simp
def oo (β:Nat→Nat) (d n:Nat):Nat→Nat:=fun i=>if i=d then n else β i
def xi (T:bb) (b:Nat) (k:BK):bb:=fun i=>if i=b then some k else T i
theorem K8 {b:Nat}(hT:T b=none) {k:BK}:uS T (xi T b k):=fun i k' hi=>by
 unfold xi
 by_cases e:i=b
 ·subst e;rw [hT] at hi;cases hi
 ·rw [if_neg e];exact hi
theorem WT.fresh (h:WT T w):T w.heap.size=none:=by
 cases hT:T w.heap.size with
 |none=>rfl
 |some k=>exact absurd (BK.lt (h _ k hT)) (by omega)
theorem Holds.CF (h:Holds N c T β τ a w) {k:BK}{o:Obj}(hp:oK w o w') (hk:k.holds w' w.heap.size):
  Holds N c (xi T w.heap.size k) β τ a w':=by
 have zS:uS T (xi T w.heap.size k):=K8 h.typed.fresh
 exact {
  defs:=h.defs
  size:=h.size
  EB:=h.EB
  iJ:=fun i av hi=>by obtain⟨v,hv,hr⟩:=h.iJ i av hi;exact⟨v,hv,AV.nJ zS hr⟩
  boxes:=fun i av hi hz=>by
   obtain⟨mg,e',h2,h3⟩:=h.boxes i av hi hz
   exact⟨mg,e',by rw [hp.old (h.lt (eD hi hz))];exact h2,AV.JS zS h3⟩
  apart:=fun i hi=>by
   obtain⟨⟨n,hn⟩,ho⟩:=h.apart i hi
   exact⟨⟨n,zS _ _ hn⟩,ho⟩
  handed:=h.handed
  inj:=h.inj
  named:=h.named
  typed:=fun b k' hb=>by
   unfold xi at hb
   by_cases he:b=w.heap.size
   ·rw [if_pos he] at hb;cases hb
    subst he
    exact hk
   ·rw [if_neg he] at hb
    have hb':=h.typed b k' hb
    exact BK.qn hb' (hp.old (BK.lt hb'))
  old:=fun b hb=>by
   have:xi T w.heap.size k b=T b:=by unfold xi;rw [if_neg (by have:=h.gd;omega)]
   rw [this]
   exact h.old b hb
  frame:=fun b hb hH hq=>by
   rw [hp.old (ZG3 hb h.gd)]
   exact h.frame b hb hH hq
  gd:=by rw [hp.size];have:=h.gd;omega
  os:=hp.os.trans h.os
  tape:=hp.tape.trans h.tape
  output:=hp.output.trans h.output
  oV:=h.oV.mono zS }
theorem Holds.SQ (h:Holds N c T β τ a w) {d b n:Nat}{av:AV}{cs:Array Value}{e:TypeId}(hd:1000≤d) (uA:τ (.b d)=none) (hT:T b=some (.bx n)) (vE:aiT c d b) (hun:∀i,live τ i→β i≠b) (hb:w.heap[b]?=some (.cells cs e (0,0)))
  (hl:av.rU T β cs) (hsc:∀j∈av.boxes,τ (.b j)≠none):Holds N c T (oo β d b) (τ.ap [(.b d,av)]) a w:=by
 have af5:∀(r:fJ) (av:AV),τ r=some av→d∉av.boxes:=fun r av hr hm=>h.named r av hr d hm uA
 have hβ:∀i,i≠d→oo β d b i=β i:=fun i hi=>by unfold oo;rw [if_neg hi]
 have hβd:oo β d b d=b:=by unfold oo;rw [if_pos rfl]
 have hnd:d∉av.boxes:=fun hm=>hsc d hm uA
 have xD:∀{x:AV},d∉x.boxes→∀i∈x.boxes,oo β d b i=β i:=fun hx i hi=>hβ i fun e=>hx (e ▸ hi)
 exact {
  defs:=h.defs
  size:=h.size
  EB:=h.EB
  iJ:=fun i x hi=>by
   rw [uj,if_neg (by simp)] at hi
   obtain⟨v,hv,hr⟩:=h.iJ i x hi
   exact⟨v,hv,AV.acO (xD (af5 _ _ hi)) hr⟩
  boxes:=fun i x hi hz=>by
   rw [uj] at hi
   by_cases ei:i=d
   ·subst ei
    rw [if_pos rfl] at hi;cases hi
    exact⟨cs,e,by rw [hβd];exact hb,AV.X2 (xD hnd) hl⟩
   ·rw [if_neg (by simp [ei])] at hi
    obtain⟨mg,e',h2,h3⟩:=h.boxes i x hi hz
    exact⟨mg,e',by rw [hβ i ei];exact h2,AV.X2 (xD (af5 _ _ hi)) h3⟩
  apart:=fun i hi=>by
   rcases lj hi with rfl |⟨e,CX⟩
   ·rw [hβd];exact⟨⟨n,hT⟩,vE⟩
   ·rw [hβ i e];exact h.apart i CX
  handed:=fun i b' hb' hi=>by
   rcases lj hi with rfl |⟨e,CX⟩
   ·have:i<c.H.length:=(ZC0.1 hb').1
    exact absurd h.EB (by omega)
   ·rw [hβ i e];exact h.handed i b' hb' CX
  inj:=fun i j hi hj e=>by
   rcases lj hi with rfl |⟨ei,CX⟩
   ·rcases lj hj with rfl |⟨ej,CW⟩
    ·rfl
    ·rw [hβd,hβ j ej] at e
     exact absurd e.symm (hun j CW)
   ·rcases lj hj with rfl |⟨ej,CW⟩
    ·rw [hβd,hβ i ei] at e
     exact absurd e (hun i CX)
    ·rw [hβ i ei,hβ j ej] at e
     exact h.inj i j CX CW e
  named:=fun r x hr k hk=>by
   rw [uj]
   by_cases ek:fJ.b k= .b d
   ·rw [if_pos ek];simp
   ·rw [if_neg ek]
    rw [uj] at hr
    by_cases e2:r= .b d
    ·rw [if_pos e2] at hr;cases hr
     exact hsc k hk
    ·rw [if_neg e2] at hr
     exact h.named r x hr k hk
  typed:=h.typed
  old:=h.old
  frame:=h.frame
  gd:=h.gd
  os:=h.os
  tape:=h.tape
  output:=h.output
  oV:=h.oV }
theorem Holds.tD (h:Holds N c T β τ a w) {d:Nat}(hd:1000≤d) (uA:τ (.b d)=none) {av:AV}{cs:Array Value}{e:TypeId}(hp:oK w (.cells cs e (0,0)) w') (hl:av.rU T β cs) (hsc:∀j∈av.boxes,τ (.b j)≠none):
  Holds N c (xi T w.heap.size (.bx cs.size)) (oo β d w.heap.size) (τ.ap [(.b d,av)]) a w':=by
 have h1:=h.CF (k:=.bx cs.size) hp ⟨cs,e,hp.new,rfl⟩
 refine h1.SQ hd uA (n:=cs.size) (by unfold xi;rw [if_pos rfl]) ⟨fun h=>by omega,fun _ _=>h.gd,.inl h.gd⟩ (fun i hi e=>?_) hp.new (AV.JS (K8 h.typed.fresh) hl) hsc
 have:=h.lt hi
 omega
theorem Holds.kill (h:Holds N c T β τ a w) {i:Nat}:Holds N c T β (τ.ap [(.b i,.zz)]) a w:=by
 have FK:∀k,live (τ.ap [(.b i,.zz)]) k→k≠i∧live τ k:=fun k hk=>by
  rcases lj hk with rfl |h
  ·unfold live at hk;rw [uj,if_pos rfl] at hk;exact hk.elim
  ·exact h
 exact { h with
  iJ:=fun k x hk=>h.iJ k x (by rwa [uj,if_neg (by simp)] at hk)
  boxes:=fun k x hk hz=>by
   rw [uj] at hk
   by_cases e:fJ.b k= .b i
   ·rw [if_pos e] at hk;cases hk;exact absurd rfl hz
   ·rw [if_neg e] at hk;exact h.boxes k x hk hz
  apart:=fun k hk=>h.apart k (FK k hk).2
  handed:=fun k b hb h0=>h.handed k b hb (FK k h0).2
  inj:=fun k j hk hj e=>h.inj k j (FK k hk).2 (FK j hj).2 e
  named:=fun r x hr k hk=>by
   rw [uj]
   split
   ·simp
   ·rw [uj] at hr
    by_cases e:r= .b i
    ·rw [if_pos e] at hr;cases hr;simp [AV.boxes] at hk
    ·rw [if_neg e] at hr;exact h.named r x hr k hk }
theorem Holds.SS (h:Holds N c T β τ a w) {i d:Nat}(hd:1000≤d) (hi0:1000000000≤d∨(1000≤i∧i<1000000000)) (uA:τ (.b d)=none) {av:AV}{cs mg:Array Value}{e e':TypeId}(hi:live τ i) (ho:w.heap[β i]?=some (.cells cs e (0,0))) (hw:P5 w (β i) (.cells mg e' (0,0)) w') (dj:mg.size=cs.size) (hl:av.rU T β mg) (hsc:av.boxes=[]):
  Holds N c T (oo β d (β i)) ((τ.ap [(.b i,.zz)]).ap [(.b d,av)]) a w':=by
 have hid:i≠d:=fun e=>by subst e;exact kD hi uA
 obtain⟨⟨n,hn⟩,oa⟩:=h.apart i hi
 have h1:=(h.DI (av:=av) hi ho hw dj hl (by rw [hsc];simp)).kill (i:=i)
 have e1:(τ.ap [(.b i,av)]).ap [(.b i,.zz)]=τ.ap [(.b i,.zz)]:=by
  funext r
  rw [uj,uj,uj]
  split<;>rfl
 rw [e1] at h1
 refine h1.SQ hd (by rw [uj,if_neg (by simp;exact fun h=>hid h.symm)];exact uA) hn ⟨fun h=>by omega,fun h1 h2=>oa.2.1 (by omega) (by omega),oa.2.2⟩ (fun j hj e=>?_) hw.at_ hl (by rw [hsc];simp)
 rcases lj hj with rfl |⟨ej,CW⟩
 ·unfold live at hj;rw [uj,if_pos rfl] at hj;exact hj.elim
 ·exact ej (h.inj j i CW hi e)
end
end GL
namespace GL
inductive Q (α:Type 1):Type 1 where
 |ret (a:α)
 |ask (r:fJ) (k:Option AV→Q α)
def Q.run {α:Type 1}:Q α→St→α
 |.ret a,_=>a
 |.ask r k,τ=>(k (τ r)).run τ
def Q.tr {α:Type 1}:Q α→St→List fJ
 |.ret _,_=>[]
 |.ask r k,τ=>r::(k (τ r)).tr τ
theorem Q.loc {α:Type 1}{τ τ':St}:∀(q:Q α),agree (q.tr τ) τ τ'→q.run τ'=q.run τ∧q.tr τ'=q.tr τ
 |.ret _,_=>⟨rfl,rfl⟩
 |.ask r k,h=>by
  have e:τ' r=τ r:=(h r (by simp [Q.tr])).symm
  have:=Q.loc (k (τ r)) (fun x hx=>h x (by simp [Q.tr,hx]))
  simp only [Q.run,Q.tr,e]
  exact⟨this.1,by rw [this.2]⟩
inductive Rs:Type 1 where
 |no
 |go (u:AO)
 |mZ (p:Prop) (u:AO)
 |br (p:Prop) (b:Bool) (d:Nat)
 |ex (p:Prop) (α:Type) (φ:α→Prop) (u:List (fJ×(α→AV)))
def inst {α:Type}(x:α):List (fJ×(α→AV))→AO
 |[]=>[]
 |p::u=>(p.1,p.2 x)::inst x u
def Rs.pre:Rs→Prop
 |.no=>False
 |.go _=>True
 |.mZ p _=>p
 |.br p _ _=>p
 |.ex p _ _ _=>p
def Rs.ne:Rs→Prop
 |.ex _ _ φ _=>∃x,φ x
 |_=>True
def Rs.out:Rs→AO→Prop
 |.no,_=>False
 |.go u,x=>x=u
 |.mZ _ u,x=>x=u
 |.br _ b d,x=>x=[(.s d,.s (.v (.bool b)))]
 |.ex _ _ φ u,x=>∃y,φ y∧x=inst y u
def K3 {α:Type}:List (fJ×α)→List fJ
 |[]=>[]
 |p::u=>p.1::K3 u
def Rs.dom:Rs→List fJ
 |.no=>[]
 |.go u=>K3 u
 |.mZ _ u=>K3 u
 |.br _ _ d=>[.s d]
 |.ex _ _ _ u=>K3 u
theorem HX {α:Type}{u:List (fJ×α)}{p:fJ×α}(h:p∈u):p.1∈K3 u:=by
 induction u with
 |nil=>cases h
 |cons q u ih=>
  rcases ZB8.1 h with rfl |h
  ·simp [K3]
  ·simp [K3,ih h]
theorem MR {α:Type}(x:α):∀(u:List (fJ×(α→AV))),K3 (inst x u)=K3 u
 |[]=>rfl
 |p::u=>by simp [inst,K3,MR x u]
theorem Rs.FP {r:Rs}{u:AO}(h:r.out u):∀p∈u,p.1∈r.dom:=by
 intro p hp
 cases r with
 |no=>exact h.elim
 |go v=>cases h;exact HX hp
 |mZ q v=>cases h;exact HX hp
 |br q b d=>cases h;simp at hp;subst hp;simp [Rs.dom]
 |ex q α φ v=>
  obtain⟨x,_,rfl⟩:=h
  have:=HX hp
  rwa [MR] at this
theorem Rs.ahu {r:Rs}(hp:r.pre) (hn:r.ne):∃u,r.out u:=by
 cases r with
 |no=>exact hp.elim
 |go v=>exact⟨_,rfl⟩
 |mZ q v=>exact⟨_,rfl⟩
 |br q b d=>exact⟨_,rfl⟩
 |ex q α φ v=>obtain⟨x,hx⟩:=hn;exact⟨_,x,hx,rfl⟩
structure Tr where
 j:Nat
 R:List fJ
 W:List fJ
def hit (nk:Nat→Nat→Bool) (i:Nat):Tr→Bool
 |⟨j,_,_⟩=>nk i j
theorem aee (nk:Nat→Nat→Bool) (i:Nat) (t:Tr):hit nk i t=nk i t.j:=rfl
def jI (nk:Nat→Nat→Bool) (i:Nat) (R W:List fJ):List Tr→Bool
 |[]=>true
 |t::l=>(bif hit nk i t then true else indep t.R t.W R W)&&jI nk i R W l
theorem KH {nk:Nat→Nat→Bool}{i:Nat}{R W:List fJ}:∀{l:List Tr},jI nk i R W l=true→∀t∈l,nk i t.j=false→indep t.R t.W R W=true
 |[],_,t,ht,_=>by cases ht
 |s::l,h,t,ht,ha=>by
  simp only [jI,ZA9] at h
  rcases ZB8.1 ht with rfl |ht
  ·have:=h.1;rw [aee,ha] at this;exact this
  ·exact KH h.2 t ht ha
def aL (F:Nat→Q Rs) (nk:Nat→Nat→Bool):List Nat→List Tr→St→(St→Prop)→Prop
 |[],_,τ,K=>K τ
 |i::l,T,τ,K=>jI nk i ((F i).tr τ) ((F i).run τ).dom T=true∧((F i).run τ).pre∧((F i).run τ).ne∧∀u,((F i).run τ).out u→aL F nk l (⟨i,(F i).tr τ,((F i).run τ).dom⟩::T) (τ.ap u) K
theorem rP {nk:Nat→Nat→Bool}{i:Nat}{R W:List fJ}:∀{l m:List Tr},jI nk i R W (l++m)=true→jI nk i R W l=true∧jI nk i R W m=true
 |[],m,h=>⟨rfl,h⟩
 |s::l,m,h=>by
  simp only [ZG7,jI,ZA9] at h ⊢
  exact⟨⟨h.1,(rP h.2).1⟩,(rP h.2).2⟩
theorem AM {nk:Nat→Nat→Bool}{i:Nat}{R W:List fJ}:∀{l m:List Tr},jI nk i R W l=true→jI nk i R W m=true→jI nk i R W (l++m)=true
 |[],m,_,h=>h
 |s::l,m,h,h'=>by
  simp only [ZG7,jI,ZA9] at h ⊢
  exact⟨h.1,AM h.2 h'⟩
theorem agw {F:Nat→Q Rs}{nk:Nat→Nat→Bool}{K:St→Prop}{t:Tr}{M:List Tr}:∀(l:List Nat) (L:List Tr) (τ:St),aL F nk l (L++t::M) τ K→aL F nk l (L++M) τ K:=by
 intro l
 induction l with
 |nil=>intro L τ h;exact h
 |cons i l ih=>
  intro L τ ⟨h1,h2,h3,h4⟩
  have h5:=rP h1
  have h6:=h5.2
  simp only [jI,ZA9] at h6
  exact⟨AM h5.1 h6.2,h2,h3,fun u hu=>ih (_::L) _ (h4 u hu)⟩
theorem afw {F:Nat→Q Rs}{nk:Nat→Nat→Bool}{i:Nat}{post:List Nat}{K:St→Prop}:
  ∀(pre:List Nat) (T:List Tr) (τ:St),(∀j∈pre,nk i j=false)→aL F nk (pre++i::post) T τ K→
   ((F i).run τ).pre∧((F i).run τ).ne∧(∀t∈T,nk i t.j=false→indep t.R t.W ((F i).tr τ) ((F i).run τ).dom=true)∧∀u,((F i).run τ).out u→aL F nk (pre++post) T (τ.ap u) K:=by
 intro pre
 induction pre with
 |nil=>
  intro T τ _ h
  obtain⟨h1,h2,h3,h4⟩:=h
  exact⟨h2,h3,KH h1,fun u hu=>agw post [] _ (h4 u hu)⟩
 |cons j pre ih=>
  intro T τ aeo h
  obtain⟨hj1,yK,hj3,hj4⟩:=h
  obtain⟨u0,hu0⟩:=Rs.ahu yK hj3
  have hIH:=fun u hu=>ih (⟨j,(F j).tr τ,((F j).run τ).dom⟩::T) (τ.ap u) (fun k hk=>aeo k (by simp [hk])) (hj4 u hu)
  have IZ:∀u,((F j).run τ).out u→(F i).run (τ.ap u)=(F i).run τ∧(F i).tr (τ.ap u)=(F i).tr τ:=by
   intro u hu
   obtain⟨_,_,h3,_⟩:=hIH u hu
   have ajs:=h3 ⟨j,(F j).tr τ,((F j).run τ).dom⟩ (by simp) (aeo j (by simp))
   simp only [indep,ZA9] at ajs
   have hag:agree ((F i).tr (τ.ap u)) (τ.ap u) τ:=afv fun p hp hm=>FQ ajs.1.1 (Rs.FP hu p hp) hm rfl
   have:=Q.loc (F i) hag
   exact⟨this.1.symm,this.2.symm⟩
  obtain⟨e1,e2⟩:=IZ u0 hu0
  obtain⟨g1,g2,g3,g4⟩:=hIH u0 hu0
  rw [e1] at g1 g2
  rw [e1,e2] at g3
  have aef:=g3 ⟨j,(F j).tr τ,((F j).run τ).dom⟩ (by simp) (aeo j (by simp))
  simp only [indep,ZA9] at aef
  refine⟨g1,g2,fun t ht ha=>g3 t (by simp [ht]) ha,fun v hv=>?_⟩
  have alo:agree ((F j).tr τ) τ (τ.ap v):=fun r hr=>(St.wh (fun p hp e=>FQ aef.2 (Rs.FP hv p hp) hr e)).symm
  have hj:=Q.loc (F j) alo
  refine⟨by rw [hj.1,hj.2];exact hj1,by rw [hj.1];exact yK,by rw [hj.1];exact hj3,fun u hu=>?_⟩
  rw [hj.1] at hu
  obtain⟨f1,f2⟩:=IZ u hu
  obtain⟨_,_,_,k4⟩:=hIH u hu
  have:=k4 v (by rw [f1];exact hv)
  rw [St.agt (u:=u) (v:=v) (fun p hp q hq=>FQ aef.1.2 (Rs.FP hu p hp) (Rs.FP hv q hq))] at this
  rw [hj.1,hj.2]
  exact this
def OpS (P:Program) (N:Nat) (ops:Array Oper) (o:Oper) (q:Q Rs):Prop:=
 ∀c τ a w,Rel N c τ a w→(q.run τ).pre→∀(K:Act→World→Prop) (Q':Exit→Act→World→Prop),
  (∀u a' w',(q.run τ).out u→Rel N c (τ.ap u) a' w'→K a' w')→if Region.wanted o (yielded ops a.tmps)=true then o.wp P a w K Q' else K (a.put o.dst undef) w
section
variable {P:Program}{N:Nat}{ops:Array Oper}{F:Nat→Q Rs}
def xx (o:Oper):List Nat:=(o.after.toList.filter (Region.binds .any)).map (·.on)
def zO (listed:Array Bool) (i:Nat):Prop:=listed.getD i false=true
def rest (n:Nat) (listed:Array Bool):List Nat:=(List.range n).filter fun i=> !listed.getD i true
def closed (ops:Array Oper) (listed:Array Bool):Prop:=∀i o,ops[i]?=some o→zO listed i→∀p∈xx o,zO listed p
structure Anc (ops:Array Oper) (nk:Nat→Nat→Bool):Prop where
 lt:∀i o,ops[i]?=some o→∀p∈xx o,p<i
 step:∀i o,ops[i]?=some o→∀j,nk i j=true→∃k∈xx o,k=j∨nk k j=true
theorem ais {nk:Nat→Nat→Bool}(h:Anc ops nk) {listed:Array Bool}(hc:closed ops listed):∀(i:Nat) (o:Oper),ops[i]?=some o→(∀p∈xx o,zO listed p)→
  ∀j,nk i j=true→zO listed j:=by
 intro i
 induction i using Nat.strongRecOn with
 |_ i ih=>
  intro o ho hp j ht
  obtain⟨k,hk,rfl |htk⟩:=h.step i o ho j ht
  ·exact hp k hk
  ·have hki:=h.lt i o ho k hk
   have hi:i<ops.size:=(ZF1.1 ho).1
   have cG:ops[k]?=some ops[k]:=ZG0 (by omega)
   exact ih k hki _ cG (hc k _ cG (hp k hk)) j htk
theorem mem_ready {listed:Array Bool}{i:Nat}:i∈Region.ready .any ops listed↔i∈rest ops.size listed∧∀o,ops[i]?=some o→∀p∈xx o,zO listed p:=by
 simp only [Region.ready,rest,ZF4,ZE2,ZA9]
 constructor
 ·rintro⟨hi,hl,ha⟩
  refine⟨⟨hi,hl⟩,fun o ho p hp=>?_⟩
  rw [ho] at ha
  simp only [Option.map_some,ZA2] at ha
  obtain⟨e,he,rfl⟩:=List.mem_map.1 hp
  rw [ZF4] at he
  have:=Array.all_eq_true_iff_forall_mem.1 ha e (by simpa using he.1)
  simp only [Bool.or_eq_true,he.2,Bool.not_true] at this
  simpa [zO] using this
 ·rintro⟨⟨hi,hl⟩,ha⟩
  refine⟨hi,hl,?_⟩
  have ho:ops[i]?=some ops[i]:=ZG0 hi
  rw [ho]
  simp only [Option.map_some,ZA2]
  rw [Array.all_eq_true_iff_forall_mem]
  intro e he
  cases hb:Region.binds .any e with
  |false=>simp
  |true=>
   have:=ha _ ho e.on (List.mem_map.2 ⟨e,by rw [ZF4];exact⟨by simpa using he,hb⟩,rfl⟩)
   simpa [zO] using this
theorem VL {n:Nat}{listed:Array Bool}{i:Nat}(hs:listed.size=n) (hi:i∈rest n listed):
  ∃pre post,rest n listed=pre++i::post∧rest n (listed.setIfInBounds i true)=pre++post∧∀j∈pre,j<i:=by
 obtain⟨pre,post,he⟩:=List.append_of_mem hi
 have hp:(rest n listed).Pairwise (· < ·):=List.Pairwise.filter _ List.pairwise_lt_range
 have hpp:=hp
 rw [he] at hp
 have cm:i<n:=by simp only [rest,ZF4,ZE2] at hi;exact hi.1
 obtain⟨h1,h2,h3⟩:=List.pairwise_append.1 hp
 refine⟨pre,post,he,?_,fun j hj=>h3 j hj i (by simp)⟩
 have e1:rest n (listed.setIfInBounds i true)=(rest n listed).filter (fun j=> !Nat.beq j i):=by
  simp only [rest,List.filter_filter]
  refine List.filter_congr fun j hj=>?_
  by_cases hji:j=i
  ·subst hji
   simp [Array.getD,hs,cm]
  ·have hb:Nat.beq j i=false:=by rw [←Bool.not_eq_true];simpa using hji
   rw [hb]
   simp only [Bool.not_false,Bool.true_and]
   have:(listed.setIfInBounds i true).getD j true=listed.getD j true:=by
    rw [ZE8,ZE8,Array.getElem?_setIfInBounds_ne (fun h=>hji h.symm)]
   rw [this]
 rw [e1,he,List.filter_append,List.filter_cons]
 have hb:Nat.beq i i=true:=by simp
 rw [hb]
 simp only [Bool.not_true,Bool.false_eq_true,if_false]
 congr 1
 ·rw [List.filter_eq_self]
  intro j hj
  have:=h3 j hj i (by simp)
  have fA:Nat.beq j i=false:=by rw [←Bool.not_eq_true];simp;omega
  simp [fA]
 ·rw [List.filter_eq_self]
  intro j hj
  have:=(List.pairwise_cons.1 h2).1 j hj
  have fA:Nat.beq j i=false:=by rw [←Bool.not_eq_true];simp;omega
  simp [fA]
theorem acf {nk:Nat→Nat→Bool}(h:∀i o,ops[i]?=some o→OpS P N ops o (F i)) (hA:Anc ops nk) {Q':Exit→Act→World→Prop}{c:Ctx}{K:St→Prop}
  (hQ:∀τ a w,K τ→Rel N c τ a w→Q' .normal a w):∀(fuel:Nat) (listed:Array Bool) (τ:St) (a:Act) (w:World),
   (rest ops.size listed).length=fuel→listed.size=ops.size→closed ops listed→aL F nk (rest ops.size listed) [] τ K→Rel N c τ a w→wpAny P .any ops Q' fuel listed a w:=by
 intro fuel
 induction fuel with
 |zero=>
  intro listed τ a w hlen _ _ hk hr
  have af6:rest ops.size listed=[]:=ZD4.1 hlen
  refine⟨?_,?_⟩
  ·rw [List.eq_nil_iff_forall_not_mem]
   intro i hi
   have:=(mem_ready.1 hi).1
   rw [af6] at this
   cases this
  ·rw [af6] at hk
   exact hQ τ a w hk hr
 |succ fuel ih=>
  intro listed τ a w hlen hs hcl hk hr
  refine⟨fun af6=>?_,fun i hi=>?_⟩
  ·
   exfalso
   cases hl:rest ops.size listed with
   |nil=>rw [hl] at hlen;simp at hlen
   |cons i l=>
    have yJ:i∈rest ops.size listed:=by rw [hl];simp
    have cm:i<ops.size:=by simp only [rest,ZF4,ZE2] at yJ;exact yJ.1
    have ho:ops[i]?=some ops[i]:=ZG0 cm
    have ad8:i∈Region.ready .any ops listed:=by
     refine mem_ready.2 ⟨yJ,fun o ho' p hp=>?_⟩
     rw [ho] at ho';cases ho'
     have hpi:=hA.lt i _ ho p hp
     have hpw:(rest ops.size listed).Pairwise (· < ·):=List.Pairwise.filter _ List.pairwise_lt_range
     have af5:p∉rest ops.size listed:=by
      intro hm
      rw [hl] at hm hpw
      rcases ZB8.1 hm with rfl |hm
      ·omega
      ·have:=(List.pairwise_cons.1 hpw).1 p hm;omega
     have hpn:p<listed.size:=by omega
     have:listed.getD p true=true:=by
      cases hb:listed.getD p true with
      |true=>rfl
      |false=>exact absurd (by simp only [rest,ZF4,ZE2];exact⟨by omega,by rw [hb];rfl⟩) af5
     unfold zO
     simp only [Array.getD,hpn,dif_pos] at this ⊢
     exact this
    rw [af6] at ad8
    cases ad8
  ·have hm:=mem_ready.1 hi
   obtain⟨pre,post,he,he',bU⟩:=VL hs hm.1
   have cm:i<ops.size:=by have:=hm.1;simp only [rest,ZF4,ZE2] at this;exact this.1
   have ho:ops[i]?=some ops[i]:=ZG0 cm
   have hp:=hm.2 _ ho
   have aeo:∀j∈pre,nk i j=false:=by
    intro j hj
    cases ht:nk i j with
    |false=>rfl
    |true=>
     exfalso
     have CW:=ais hA hcl i _ ho hp j ht
     have hmj:j∈rest ops.size listed:=by rw [he];simp [hj]
     simp only [rest,ZF4,ZE2] at hmj
     have hjn:j<listed.size:=by omega
     have e2:=hmj.2
     unfold zO at CW
     simp only [Array.getD,hjn,dif_pos] at e2 CW
     rw [CW] at e2
     cases e2
   rw [he] at hk
   obtain⟨ahN,_,_,hK⟩:=afw pre [] τ aeo hk
   have ajq:(rest ops.size (listed.setIfInBounds i true)).length=fuel:=by
    rw [he'];rw [he] at hlen;simp at hlen ⊢;omega
   have alh:closed ops (listed.setIfInBounds i true):=by
    have up:∀p,zO listed p→zO (listed.setIfInBounds i true) p:=by
     intro p hp
     unfold zO at hp ⊢
     rw [ZE8] at hp ⊢
     by_cases e:i=p
     ·subst e
      simp [hs,cm]
     ·rw [Array.getElem?_setIfInBounds_ne e]
      exact hp
    intro k o hk af8 p hpp
    by_cases e:i=k
    ·subst e
     rw [ho] at hk;cases hk
     exact up p (hp p hpp)
    ·refine up p (hcl k o hk ?_ p hpp)
     unfold zO at af8 ⊢
     rw [ZE8] at af8 ⊢
     rw [Array.getElem?_setIfInBounds_ne e] at af8
     exact af8
   refine wpOp_step ho fun K' hK'=>?_
   exact h i _ ho c τ a w hr ahN K' Q' fun u a' w' hu uK=>hK' _ _ (ih _ _ a' w' ajq (by simpa using hs) alh (by rw [he'];exact hK u hu) uK)
def aT (F:Nat→Q Rs):List Nat→St→(St→Prop)→Prop
 |[],τ,K=>K τ
 |i::l,τ,K=>((F i).run τ).pre∧∀u,((F i).run τ).out u→aT F l (τ.ap u) K
theorem UW (h:∀i o,ops[i]?=some o→OpS P N ops o (F i)) {Q':Exit→Act→World→Prop}{c:Ctx}{K:St→Prop}
  (hQ:∀τ a w,K τ→Rel N c τ a w→Q' .normal a w):∀(l:List Nat) (τ:St) (a:Act) (w:World),(∀i∈l,i<ops.size)→aT F l τ K→Rel N c τ a w→wpOps P ops Q' l a w:=by
 intro l
 induction l with
 |nil=>intro τ a w _ hk hr;exact hQ τ a w hk hr
 |cons i l ih=>
  intro τ a w hl hk hr
  obtain⟨hp,hK⟩:=hk
  have hi:i<ops.size:=hl i (by simp)
  have ho:ops[i]?=some ops[i]:=ZG0 hi
  rw [wpOps_cons]
  refine wpOp_step ho fun K' hK'=>?_
  exact h i _ ho c τ a w hr hp K' Q' fun u a' w' hu uK=>hK' _ _ (ih _ a' w' (fun k hk=>hl k (by simp [hk])) (hK u hu) uK)
theorem Q3 (n:Nat):rest n (Array.replicate n false)=List.range n:=by
 unfold rest
 rw [List.filter_eq_self]
 intro i hi
 have:i<n:=by simpa using hi
 simp [Array.getD,this]
end
end GL
end Go.Proofs.YtnkbdhldiinfdaaGreatDoor
