/- A drawn law returns true for every code (its row lists package variables, tied by the card): part 2. -/
import Derived.Test.YtkgpljpmdkflmaaGreatDoorPaa
set_option maxHeartbeats 20000000
set_option maxRecDepth 100000
set_option linter.all false
namespace Go.Proofs.YtkgpljpmdkflmaaGreatDoor
namespace GL
def free (fr:Nat×Nat) (n:Nat):Prop:=fr.1=fr.2∨(n≤fr.1∧fr.1≤fr.2)
theorem I5 (n:Nat):free (0,0) n:=.inl rfl
theorem af5 {fr:Nat×Nat}{n:Nat}(h:free fr n):∀i,i<n→(decide (fr.1≤i)&&decide (i<fr.2))=false:=by
 intro i hi
 rw [Bool.and_eq_false_iff]
 simp only [decide_eq_false_iff_not]
 rcases h with h |h<;>omega
def ags (ek:EK) (n:Nat) (l:List (EK.Ty ek)) (cs:Array Value):Prop:=l.length=n∧(∀x∈l,EK.ok ek x)∧cs.toList=flat ek l
def BK.holds (w:World) (b:Nat):BK→Prop
 |.ty ek n=>ek≠[]∧∃cs e fr l,w.heap[b]?=some (.cells cs e fr)∧free fr cs.size∧ags ek n l cs
 |.ro cs e fr=>w.heap[b]?=some (.cells cs e fr)
 |.ln cs e fr=>w.heap[b]?=some (.cells cs e fr)
 |.fz ek n cs=>ek≠[]∧∃e fr l,w.heap[b]?=some (.cells cs e fr)∧free fr cs.size∧ags ek n l cs
 |.bx n=>∃cs e,w.heap[b]?=some (.cells cs e (0,0))∧cs.size=n
def BK.un:BK→BK
 |.fz ek n _=>.ty ek n
 |k=>k
def WT (T:bb) (w:World):Prop:=∀b k,T b=some k→k.holds w b
theorem BK.lt {w:World}{b:Nat}{k:BK}(h:k.holds w b):b<w.heap.size:=by
 cases k with
 |ty ek n=>obtain⟨_,cs,e,fr,l,h,_⟩:=h;exact (ZF1.1 h).1
 |ro cs e fr=>exact (ZF1.1 h).1
 |ln cs e fr=>exact (ZF1.1 h).1
 |fz ek n cs=>obtain⟨_,e,fr,l,h,_⟩:=h;exact (ZF1.1 h).1
 |bx n=>obtain⟨cs,e,h,_⟩:=h;exact (ZF1.1 h).1
theorem BK.qp {w w':World}{b:Nat}{k:BK}(h:k.holds w b) (e:w'.heap[b]?=w.heap[b]?):k.holds w' b:=by
 cases k with
 |ty ek n=>exact⟨h.1,by rw [e];exact h.2⟩
 |ro cs e' fr=>show w'.heap[b]?=_;rw [e];exact h
 |ln cs e' fr=>show w'.heap[b]?=_;rw [e];exact h
 |fz ek n cs=>exact⟨h.1,by rw [e];exact h.2⟩
 |bx n=>show∃cs e,_∧_;rw [e];exact h
theorem E9 {T:bb}{w:World}(h:WT T w) {b:Nat}{cs:Array Value}(hr:rdT T b cs):∃e fr,w.heap[b]?=some (.cells cs e fr):=by
 rcases hr with ⟨e,fr,h1⟩ |⟨e,fr,h1⟩ |⟨ek,n,h1⟩
 ·exact⟨e,fr,h _ _ h1⟩
 ·exact⟨e,fr,h _ _ h1⟩
 ·obtain⟨_,e,fr,l,h2,_⟩:=h _ _ h1;exact⟨e,fr,h2⟩
structure Ctx where
 W:World
 T:bb
 H:List Nat
def quiet:Option BK→Prop
 |none=>True
 |some (.bx _)=>True
 |_=>False
def live (τ:St) (i:Nat):Prop:=match τ (.b i) with
 |none=>False
 |some .zz=>False
 |_=>True
theorem kF {τ:St}{i:Nat}(h:live τ i):τ (.b i)≠none:=fun e=>by simp only [live,e] at h
theorem eE {τ:St}{i:Nat}{av:AV}(h:τ (.b i)=some av) (hz:av≠.zz):live τ i:=by
 unfold live
 rw [h]
 cases av<;>first|trivial|exact absurd rfl hz
def aiO (c:Ctx) (i b:Nat):Prop:=(i<1000→b∈c.H)∧(1000≤i→i<1000000000→c.W.heap.size≤b)∧(c.W.heap.size≤b∨b∈c.H)
def YD (T:bb):Prop:=∀g∈zV,∃cs e fr,T g.1=some (.ro cs e fr)∧g.2 cs
theorem YD.mono {T T':bb}(h:uV T T') (hg:YD T):YD T':=fun g hm=>by
 obtain⟨cs,e,fr,h1,h2⟩:=hg g hm
 exact⟨cs,e,fr,h _ _ h1,h2⟩
structure Holds (N:Nat) (c:Ctx) (T:bb) (β:Nat→Nat) (τ:St) (a:Act) (w:World):Prop where
 defs:a.defers=[]
 size:a.tmps.size=N
 EC:c.H.length≤1000
 iK:∀i av,τ (.s i)=some av→∃v,a.tmps[i]?=some v∧av.rel T β v
 boxes:∀i av,τ (.b i)=some av→av≠.zz→∃cs e,w.heap[β i]?=some (.cells cs e (0,0))∧av.rX T β cs
 apart:∀i,live τ i→(∃n,T (β i)=some (.bx n))∧aiO c i (β i)
 handed:∀i b,c.H[i]?=some b→live τ i→β i=b
 inj:∀i j,live τ i→live τ j→β i=β j→i=j
 named:∀r av,τ r=some av→∀i∈av.boxes,τ (.b i)≠none
 typed:WT T w
 old:∀b,b<c.W.heap.size→(T b).map BK.un=c.T b
 frame:∀b,b<c.W.heap.size→b∉c.H→quiet (c.T b)→w.heap[b]?=c.W.heap[b]?
 gd:c.W.heap.size≤w.heap.size
 os:w.os=c.W.os
 tape:w.tape=c.W.tape
 output:w.output=c.W.output
 oX:YD T
def Rel (N:Nat) (c:Ctx) (τ:St) (a:Act) (w:World):Prop:=∃T β,Holds N c T β τ a w
section
variable {N:Nat}{c:Ctx}{T:bb}{β:Nat→Nat}{τ:St}{a:Act}{w w':World}
theorem Holds.drew (h:Holds N c T β τ a w):Holds N c T β τ a { w with drawn:=w.drawn+1 }:=
 {h with
  boxes:=h.boxes
  typed:=fun b k hb=>BK.qp (h.typed b k hb) rfl
  frame:=h.frame }
theorem Rel.drew (h:Rel N c τ a w):Rel N c τ a { w with drawn:=w.drawn+1 }:=by
 obtain⟨T,β,h⟩:=h
 exact⟨T,β,h.drew⟩
theorem Holds.world (h:Holds N c T β τ a w) (hh:w'.heap=w.heap) (ho:w'.os=w.os) (ht:w'.tape=w.tape) (hu:w'.output=w.output):Holds N c T β τ a w':=
 {h with
  boxes:=by rw [hh];exact h.boxes
  typed:=fun b k hb=>BK.qp (h.typed b k hb) (by rw [hh])
  frame:=by rw [hh];exact h.frame
  gd:=by rw [hh];exact h.gd
  os:=ho.trans h.os
  tape:=ht.trans h.tape
  output:=hu.trans h.output
  oX:=h.oX }
theorem um {r q:fK}{av:AV}:(τ.ap [(r,av)]) q=if q=r then some av else τ q:=by
 show (bif fK.beq r q then some av else τ q)=_
 by_cases e:q=r
 ·subst e;rw [fK.UG,if_pos rfl];rfl
 ·rw [fK.beq_false.2 (fun h=>e h.symm),if_neg e];rfl
theorem wL {d:Nat}{av:AV}{i:Nat}:live (τ.ap [(.s d,av)]) i=live τ i:=by
 unfold live
 rw [um,if_neg (by simp)]
theorem Holds.put (h:Holds N c T β τ a w) {d:Nat}(hd:d<N) {av:AV}{v:Value}
  (hav:av.rel T β v) (hsc:∀i∈av.boxes,τ (.b i)≠none)
  :Holds N c T β (τ.ap [(.s d,av)]) (a.put (some d) v) w where
 defs:=h.defs
 size:=by simp [Act.put,h.size]
 EC:=h.EC
 iK:=fun i x hx=>by
  rw [um] at hx
  by_cases e:i=d
  ·subst e
   rw [if_pos rfl] at hx;cases hx
   refine⟨v,?_,hav⟩
   simp [Act.put,h.size,hd]
  ·rw [if_neg (by simp [e])] at hx
   obtain⟨y,hy,hr⟩:=h.iK i x hx
   refine⟨y,?_,hr⟩
   simp only [Act.put]
   rw [Array.getElem?_setIfInBounds_ne (by omega)]
   exact hy
 boxes:=fun i x hx=>h.boxes i x (by rwa [um,if_neg (by simp)] at hx)
 apart:=fun i hi=>h.apart i (by rwa [wL] at hi)
 handed:=fun i b hb h0=>h.handed i b hb (by rwa [wL] at h0)
 inj:=fun i j hi hj e=>h.inj i j (by rwa [wL] at hi) (by rwa [wL] at hj) e
 named:=fun r x hx i hi=>by
  rw [um,if_neg (by simp)]
  rw [um] at hx
  by_cases e:r= .s d
  ·rw [if_pos e] at hx;cases hx;exact hsc i hi
  ·rw [if_neg e] at hx;exact h.named r x hx i hi
 typed:=h.typed
 old:=h.old
 frame:=h.frame
 gd:=h.gd
 os:=h.os
 tape:=h.tape
 output:=h.output
 oX:=h.oX
def GN (x:Option AV):AV→Prop
 |.o (.s (.q c))=>match x with
  |some (.o (.s (.v (.bool b))))=>b=c
  |x=>x=some (.o (.s (.q c)))
 |y=>x=some y
theorem U1 {y:AV}:GN (some y) y:=by
 unfold GN
 split
 ·split
  ·rename_i h;cases h
  ·rfl
 ·rfl
theorem aaG {x:Option AV}{y:AV}(h:GN x y):∃z,x=some z∧∀{T:bb}{β:Nat→Nat}{v:Value},z.rel T β v→y.rel T β v:=by
 unfold GN at h
 split at h
 ·split at h
  ·rename_i b
   subst h
   exact⟨_,rfl,fun hr=>hr⟩
  ·exact⟨_,h,fun hr=>hr⟩
 ·exact⟨_,h,fun hr=>hr⟩
structure Sub (σ:Nat→Nat) (τ' τ:St):Prop where
 slot:∀i av,τ' (.s i)=some av→GN (τ (.s i)) (av.lB σ)
 box:∀i av,τ' (.b i)=some av→τ (.b (σ i))=some (av.lB σ)
 named:∀r av,τ' r=some av→∀i∈av.boxes,τ' (.b i)≠none
 inj:∀i j,τ' (.b i)≠none→τ' (.b j)≠none→σ i=σ j→i=j
 low:∀i,τ' (.b i)≠none→σ i=i∨((1000≤i∧i<1000000000)∧1000≤σ i∧σ i<1000000000)∨1000000000≤i
theorem acH {g:Nat→Nat}{av:AV}(h:av≠.zz):av.lB g≠.zz:=by
 cases av with
 |zz=>exact absurd rfl h
 |o x=>intro e;cases e
 |t l=>intro e;cases e
 |rs ek l=>intro e;cases e
 |fn f l=>intro e;cases e
theorem SV.pT {σ:Nat→Nat}{x:SV}{v:Value}(hr:(x.lB σ).rel T β v):x.rel T (fun i=>β (σ i)) v:=by
 cases x<;>exact hr
theorem BQ {σ:Nat→Nat}:∀{l:List SV}{cs:List Value},dO T β (BL σ l) cs→dO T (fun i=>β (σ i)) l cs
 |[],[],_=>trivial
 |_::_,[],h'=>h'.elim
 |[],_::_,h'=>h'.elim
 |_::_,_::_,h'=>⟨SV.pT h'.1,BQ h'.2⟩
theorem A0.pT {σ:Nat→Nat}{x:A0}{v:Value}(hr:(x.lB σ).rel T β v):x.rel T (fun i=>β (σ i)) v:=by
 cases x with
 |s x=>exact SV.pT hr
 |a l=>obtain⟨cs,e,hl⟩:=hr;exact⟨cs,e,BQ hl⟩
theorem LI {σ:Nat→Nat}:∀{l:List A0}{cs:List Value},uF T β (BJ σ l) cs→uF T (fun i=>β (σ i)) l cs
 |[],[],_=>trivial
 |_::_,[],h'=>h'.elim
 |[],_::_,h'=>h'.elim
 |_::_,_::_,h'=>⟨A0.pT h'.1,LI h'.2⟩
theorem NI {σ:Nat→Nat}:∀{l:List (Nat×Nat)},EZ β (BM σ l)=EZ (fun i=>β (σ i)) l
 |[]=>rfl
 |p::l=>by simp only [EZ,BM];rw [NI]
theorem AV.pT {σ:Nat→Nat}{x:AV}{v:Value}(hr:(x.lB σ).rel T β v):x.rel T (fun i=>β (σ i)) v:=by
 cases x with
 |o x=>exact A0.pT hr
 |t l=>obtain⟨cs,e,hl⟩:=hr;exact⟨cs,e,LI hl⟩
 |rs ek l=>exact hr
 |zz=>exact hr
 |fn f l=>obtain⟨cs,e,hl⟩:=hr;exact⟨cs,e,hl.trans NI⟩
theorem AV.ae1 {σ:Nat→Nat}{x:AV}{cs:Array Value}(hr:(x.lB σ).rX T β cs):x.rX T (fun i=>β (σ i)) cs:=by
 cases x with
 |o x=>
  cases x with
  |s x=>exact hr
  |a l=>exact BQ hr
 |_=>exact hr
theorem Sub.live {σ:Nat→Nat}{τ':St}(h:Sub σ τ' τ) {i:Nat}(hl:live τ' i):GL.live τ (σ i):=by
 cases hb:τ' (.b i) with
 |none=>exact absurd hb (kF hl)
 |some av=>
  refine eE (h.box i av hb) (acH fun e=>?_)
  subst e
  unfold GL.live at hl
  rw [hb] at hl
  exact hl
theorem Rel.sub {σ:Nat→Nat}{τ':St}(h:Sub σ τ' τ) (hr:Rel N c τ a w):Rel N c τ' a w:=by
 obtain⟨T,β,hh⟩:=hr
 refine⟨T,fun i=>β (σ i),{ hh with
  iK:=fun i av hs=>by
   obtain⟨z,hz,hzr⟩:=aaG (h.slot i av hs)
   obtain⟨v,hv,hr⟩:=hh.iK i _ hz
   exact⟨v,hv,AV.pT (hzr hr)⟩
  boxes:=fun i av hs hz=>by
   obtain⟨cs,e,h1,h2⟩:=hh.boxes _ _ (h.box i av hs) (acH hz)
   exact⟨cs,e,h1,AV.ae1 h2⟩
  apart:=fun i hi=>by
   obtain⟨h1,h2,h3,h4⟩:=hh.apart _ (h.live hi)
   refine⟨h1,fun h5=>?_,fun h5 h6=>?_,h4⟩
   ·rcases h.low i (kF hi) with e |e |e
    ·exact h2 (by omega)
    ·omega
    ·omega
   ·rcases h.low i (kF hi) with e |e |e
    ·exact h3 (by omega) (by omega)
    ·exact h3 e.2.1 e.2.2
    ·omega
  handed:=fun i b hb hi=>by
   have bV:i<c.H.length:=(ZB9.1 hb).1
   have CY:=h.live hi
   rcases h.low i (kF hi) with e |e |e
   ·show β (σ i)=b
    rw [e] at CY ⊢
    exact hh.handed i b hb CY
   ·exact absurd hh.EC (by omega)
   ·exact absurd hh.EC (by omega)
  inj:=fun i j hi hj e=>h.inj i j (kF hi) (kF hj) (hh.inj _ _ (h.live hi) (h.live hj) e)
  named:=h.named }⟩
structure P3 (w:World) (b:Nat) (o:Obj) (w':World):Prop where
 at_:w'.heap[b]?=some o
 other:∀k,k≠b→w'.heap[k]?=w.heap[k]?
 size:w'.heap.size=w.heap.size
 os:w'.os=w.os
 tape:w'.tape=w.tape
 output:w'.output=w.output
theorem Holds.lt (h:Holds N c T β τ a w) {i:Nat}(hi:live τ i):β i<w.heap.size:=by
 obtain⟨⟨n,hn⟩,_⟩:=h.apart i hi
 exact BK.lt (h.typed _ _ hn)
theorem Holds.YQ (h:Holds N c T β τ a w) {i n:Nat}{cs:Array Value}{e:TypeId}{fr:Nat×Nat}(hn:T (β i)=some (.bx n)) (hb:w.heap[β i]?=some (.cells cs e fr)):cs.size=n:=by
 obtain⟨ml,e',h1,h2⟩:=h.typed _ _ hn
 rw [hb] at h1
 cases h1
 exact h2
theorem lq {j:Nat}{av:AV}{i:Nat}(h:live (τ.ap [(.b j,av)]) i):i=j∨(i≠j∧live τ i):=by
 by_cases e:i=j
 ·exact .inl e
 ·unfold live at h
  rw [um,if_neg (by simp [e])] at h
  exact .inr ⟨e,h⟩
theorem Holds.DJ (h:Holds N c T β τ a w) {i:Nat}{av:AV}{cs ml:Array Value}{e e':TypeId}(hi:live τ i) (ho:w.heap[β i]?=some (.cells cs e (0,0))) (hw:P3 w (β i) (.cells ml e' (0,0)) w') (dj:ml.size=cs.size) (hl:av.rX T β ml) (hsc:∀j∈av.boxes,τ (.b j)≠none):
  Holds N c T β (τ.ap [(.b i,av)]) a w':=by
 have af1:∀r,τ r≠none→(τ.ap [(.b i,av)]) r≠none:=by
  intro r hr
  rw [um]
  split
  ·simp
  ·exact hr
 have FJ:∀k,live (τ.ap [(.b i,av)]) k→live τ k:=fun k hk=>by
  rcases lq hk with rfl |⟨_,h⟩
  ·exact hi
  ·exact h
 obtain⟨⟨n,hn⟩,od⟩:=h.apart i hi
 have mw:=h.YQ hn ho
 exact {
  defs:=h.defs
  size:=h.size
  EC:=h.EC
  iK:=fun k x hk=>h.iK k x (by rwa [um,if_neg (by simp)] at hk)
  boxes:=fun k x hk hz=>by
   rw [um] at hk
   by_cases ek:k=i
   ·subst ek
    rw [if_pos rfl] at hk;cases hk
    exact⟨ml,e',hw.at_,hl⟩
   ·rw [if_neg (by simp [ek])] at hk
    obtain⟨ds,e2,h2,h3⟩:=h.boxes k x hk hz
    refine⟨ds,e2,?_,h3⟩
    rw [hw.other _ (fun he=>ek (h.inj k i (eE hk hz) hi he))]
    exact h2
  apart:=fun k hk=>h.apart k (FJ k hk)
  handed:=fun k b hb h0=>h.handed k b hb (FJ k h0)
  inj:=fun k j hk hj e=>h.inj k j (FJ k hk) (FJ j hj) e
  named:=fun r x hr k hk=>by
   refine af1 _ ?_
   rw [um] at hr
   by_cases e:r= .b i
   ·rw [if_pos e] at hr;cases hr;exact hsc k hk
   ·rw [if_neg e] at hr;exact h.named r x hr k hk
  typed:=fun b k hb=>by
   by_cases e:b=β i
   ·subst e
    rw [hn] at hb;cases hb
    exact⟨ml,e',hw.at_,dj.trans mw⟩
   ·exact BK.qp (h.typed b k hb) (hw.other b e)
  old:=h.old
  frame:=fun b hb hH hq=>by
   have fB:b≠β i:=fun e=>by
    rcases od.2.2 with h1 |h1
    ·omega
    ·rw [e] at hH;exact hH h1
   rw [hw.other b fB]
   exact h.frame b hb hH hq
  gd:=by rw [hw.size];exact h.gd
  os:=hw.os.trans h.os
  tape:=hw.tape.trans h.tape
  output:=hw.output.trans h.output
  oX:=h.oX }
theorem Holds.uU (h:Holds N c T β τ a w) {b:Nat}{ek:EK}{n:Nat}(hb:T b=some (.ty ek n)) {cs:Array Value}{e:TypeId}{fr:Nat×Nat}{l:List (EK.Ty ek)}(hw:P3 w b (.cells cs e fr) w') (kg:free fr cs.size) (cH:ags ek n l cs):
  Holds N c T β τ a w':=
 {h with
  boxes:=fun k x hk hz=>by
   obtain⟨ml,e',h2,h3⟩:=h.boxes k x hk hz
   refine⟨ml,e',?_,h3⟩
   rw [hw.other _ (fun he=>by obtain⟨n',hn'⟩:=(h.apart k (eE hk hz)).1;rw [he,hb] at hn';cases hn')]
   exact h2
  typed:=fun b' k hb'=>by
   by_cases he:b'=b
   ·subst he
    rw [hb] at hb';cases hb'
    exact⟨(h.typed b' _ hb).1,cs,e,fr,l,hw.at_,kg,cH⟩
   ·exact BK.qp (h.typed b' k hb') (hw.other b' he)
  frame:=fun k hk hH hq=>by
   have fB:k≠b:=fun e=>by
    subst e
    have:=h.old k hk
    rw [hb] at this
    rw [←this] at hq
    exact hq
   rw [hw.other k fB]
   exact h.frame k hk hH hq
  gd:=by rw [hw.size];exact h.gd
  os:=hw.os.trans h.os
  tape:=hw.tape.trans h.tape
  output:=hw.output.trans h.output
  oX:=h.oX }
structure oM (w:World) (o:Obj) (w':World):Prop where
 heap:w'.heap=w.heap.push o
 os:w'.os=w.os
 tape:w'.tape=w.tape
 output:w'.output=w.output
theorem oM.old {o:Obj}(h:oM w o w') {k:Nat}(hk:k<w.heap.size):w'.heap[k]?=w.heap[k]?:=by
 rw [h.heap,Array.getElem?_push,if_neg (by omega)]
theorem oM.new {o:Obj}(h:oM w o w'):w'.heap[w.heap.size]?=some o:=by
 rw [h.heap,Array.getElem?_push,if_pos rfl]
theorem oM.size {o:Obj}(h:oM w o w'):w'.heap.size=w.heap.size+1:=by rw [h.heap];simp
def ou (β:Nat→Nat) (d n:Nat):Nat→Nat:=fun i=>if i=d then n else β i
def xl (T:bb) (b:Nat) (k:BK):bb:=fun i=>if i=b then some k else T i
theorem K6 {b:Nat}(hT:T b=none) {k:BK}:uV T (xl T b k):=fun i k' hi=>by
 unfold xl
 by_cases e:i=b
 ·subst e;rw [hT] at hi;cases hi
 ·rw [if_neg e];exact hi
theorem WT.fresh (h:WT T w):T w.heap.size=none:=by
 cases hT:T w.heap.size with
 |none=>rfl
 |some k=>exact absurd (BK.lt (h _ k hT)) (by omega)
theorem Holds.CF (h:Holds N c T β τ a w) {k:BK}{o:Obj}(hp:oM w o w') (hk:k.holds w' w.heap.size):
  Holds N c (xl T w.heap.size k) β τ a w':=by
 have zU:uV T (xl T w.heap.size k):=K6 h.typed.fresh
 exact {
  defs:=h.defs
  size:=h.size
  EC:=h.EC
  iK:=fun i av hi=>by obtain⟨v,hv,hr⟩:=h.iK i av hi;exact⟨v,hv,AV.nM zU hr⟩
  boxes:=fun i av hi hz=>by
   obtain⟨ml,e',h2,h3⟩:=h.boxes i av hi hz
   exact⟨ml,e',by rw [hp.old (h.lt (eE hi hz))];exact h2,AV.JR zU h3⟩
  apart:=fun i hi=>by
   obtain⟨⟨n,hn⟩,ho⟩:=h.apart i hi
   exact⟨⟨n,zU _ _ hn⟩,ho⟩
  handed:=h.handed
  inj:=h.inj
  named:=h.named
  typed:=fun b k' hb=>by
   unfold xl at hb
   by_cases he:b=w.heap.size
   ·rw [if_pos he] at hb;cases hb
    subst he
    exact hk
   ·rw [if_neg he] at hb
    have hb':=h.typed b k' hb
    exact BK.qp hb' (hp.old (BK.lt hb'))
  old:=fun b hb=>by
   have:xl T w.heap.size k b=T b:=by unfold xl;rw [if_neg (by have:=h.gd;omega)]
   rw [this]
   exact h.old b hb
  frame:=fun b hb hH hq=>by
   rw [hp.old (ZG1 hb h.gd)]
   exact h.frame b hb hH hq
  gd:=by rw [hp.size];have:=h.gd;omega
  os:=hp.os.trans h.os
  tape:=hp.tape.trans h.tape
  output:=hp.output.trans h.output
  oX:=h.oX.mono zU }
theorem Holds.SM (h:Holds N c T β τ a w) {d b n:Nat}{av:AV}{cs:Array Value}{e:TypeId}(hd:1000≤d) (uC:τ (.b d)=none) (hT:T b=some (.bx n)) (vH:aiO c d b) (hun:∀i,live τ i→β i≠b) (hb:w.heap[b]?=some (.cells cs e (0,0)))
  (hl:av.rX T β cs) (hsc:∀j∈av.boxes,τ (.b j)≠none):Holds N c T (ou β d b) (τ.ap [(.b d,av)]) a w:=by
 have afZ:∀(r:fK) (av:AV),τ r=some av→d∉av.boxes:=fun r av hr hm=>h.named r av hr d hm uC
 have hβ:∀i,i≠d→ou β d b i=β i:=fun i hi=>by unfold ou;rw [if_neg hi]
 have hβd:ou β d b d=b:=by unfold ou;rw [if_pos rfl]
 have hnd:d∉av.boxes:=fun hm=>hsc d hm uC
 have xF:∀{x:AV},d∉x.boxes→∀i∈x.boxes,ou β d b i=β i:=fun hx i hi=>hβ i fun e=>hx (e ▸ hi)
 exact {
  defs:=h.defs
  size:=h.size
  EC:=h.EC
  iK:=fun i x hi=>by
   rw [um,if_neg (by simp)] at hi
   obtain⟨v,hv,hr⟩:=h.iK i x hi
   exact⟨v,hv,AV.acK (xF (afZ _ _ hi)) hr⟩
  boxes:=fun i x hi hz=>by
   rw [um] at hi
   by_cases ei:i=d
   ·subst ei
    rw [if_pos rfl] at hi;cases hi
    exact⟨cs,e,by rw [hβd];exact hb,AV.XZ (xF hnd) hl⟩
   ·rw [if_neg (by simp [ei])] at hi
    obtain⟨ml,e',h2,h3⟩:=h.boxes i x hi hz
    exact⟨ml,e',by rw [hβ i ei];exact h2,AV.XZ (xF (afZ _ _ hi)) h3⟩
  apart:=fun i hi=>by
   rcases lq hi with rfl |⟨e,CY⟩
   ·rw [hβd];exact⟨⟨n,hT⟩,vH⟩
   ·rw [hβ i e];exact h.apart i CY
  handed:=fun i b' hb' hi=>by
   rcases lq hi with rfl |⟨e,CY⟩
   ·have:i<c.H.length:=(ZB9.1 hb').1
    exact absurd h.EC (by omega)
   ·rw [hβ i e];exact h.handed i b' hb' CY
  inj:=fun i j hi hj e=>by
   rcases lq hi with rfl |⟨ei,CY⟩
   ·rcases lq hj with rfl |⟨ej,CX⟩
    ·rfl
    ·rw [hβd,hβ j ej] at e
     exact absurd e.symm (hun j CX)
   ·rcases lq hj with rfl |⟨ej,CX⟩
    ·rw [hβd,hβ i ei] at e
     exact absurd e (hun i CY)
    ·rw [hβ i ei,hβ j ej] at e
     exact h.inj i j CY CX e
  named:=fun r x hr k hk=>by
   rw [um]
   by_cases ek:fK.b k= .b d
   ·rw [if_pos ek];simp
   ·rw [if_neg ek]
    rw [um] at hr
    by_cases e2:r= .b d
    ·rw [if_pos e2] at hr;cases hr
     exact hsc k hk
    ·rw [if_neg e2] at hr
     exact h.named r x hr k hk
  typed:=h.typed
  old:=h.old
  frame:=h.frame
  gd:=h.gd
  os:=h.os
  tape:=h.tape
  output:=h.output
  oX:=h.oX }
theorem Holds.tF (h:Holds N c T β τ a w) {d:Nat}(hd:1000≤d) (uC:τ (.b d)=none) {av:AV}{cs:Array Value}{e:TypeId}(hp:oM w (.cells cs e (0,0)) w') (hl:av.rX T β cs) (hsc:∀j∈av.boxes,τ (.b j)≠none):
  Holds N c (xl T w.heap.size (.bx cs.size)) (ou β d w.heap.size) (τ.ap [(.b d,av)]) a w':=by
 have h1:=h.CF (k:=.bx cs.size) hp ⟨cs,e,hp.new,rfl⟩
 refine h1.SM hd uC (n:=cs.size) (by unfold xl;rw [if_pos rfl]) ⟨fun h=>by omega,fun _ _=>h.gd,.inl h.gd⟩ (fun i hi e=>?_) hp.new (AV.JR (K6 h.typed.fresh) hl) hsc
 have:=h.lt hi
 omega
theorem Holds.kill (h:Holds N c T β τ a w) {i:Nat}:Holds N c T β (τ.ap [(.b i,.zz)]) a w:=by
 have FJ:∀k,live (τ.ap [(.b i,.zz)]) k→k≠i∧live τ k:=fun k hk=>by
  rcases lq hk with rfl |h
  ·unfold live at hk;rw [um,if_pos rfl] at hk;exact hk.elim
  ·exact h
 exact { h with
  iK:=fun k x hk=>h.iK k x (by rwa [um,if_neg (by simp)] at hk)
  boxes:=fun k x hk hz=>by
   rw [um] at hk
   by_cases e:fK.b k= .b i
   ·rw [if_pos e] at hk;cases hk;exact absurd rfl hz
   ·rw [if_neg e] at hk;exact h.boxes k x hk hz
  apart:=fun k hk=>h.apart k (FJ k hk).2
  handed:=fun k b hb h0=>h.handed k b hb (FJ k h0).2
  inj:=fun k j hk hj e=>h.inj k j (FJ k hk).2 (FJ j hj).2 e
  named:=fun r x hr k hk=>by
   rw [um]
   split
   ·simp
   ·rw [um] at hr
    by_cases e:r= .b i
    ·rw [if_pos e] at hr;cases hr;simp [AV.boxes] at hk
    ·rw [if_neg e] at hr;exact h.named r x hr k hk }
theorem Holds.SO (h:Holds N c T β τ a w) {i d:Nat}(hd:1000≤d) (hi0:1000000000≤d∨(1000≤i∧i<1000000000)) (uC:τ (.b d)=none) {av:AV}{cs ml:Array Value}{e e':TypeId}(hi:live τ i) (ho:w.heap[β i]?=some (.cells cs e (0,0))) (hw:P3 w (β i) (.cells ml e' (0,0)) w') (dj:ml.size=cs.size) (hl:av.rX T β ml) (hsc:av.boxes=[]):
  Holds N c T (ou β d (β i)) ((τ.ap [(.b i,.zz)]).ap [(.b d,av)]) a w':=by
 have hid:i≠d:=fun e=>by subst e;exact kF hi uC
 obtain⟨⟨n,hn⟩,od⟩:=h.apart i hi
 have h1:=(h.DJ (av:=av) hi ho hw dj hl (by rw [hsc];simp)).kill (i:=i)
 have e1:(τ.ap [(.b i,av)]).ap [(.b i,.zz)]=τ.ap [(.b i,.zz)]:=by
  funext r
  rw [um,um,um]
  split<;>rfl
 rw [e1] at h1
 refine h1.SM hd (by rw [um,if_neg (by simp;exact fun h=>hid h.symm)];exact uC) hn ⟨fun h=>by omega,fun h1 h2=>od.2.1 (by omega) (by omega),od.2.2⟩ (fun j hj e=>?_) hw.at_ hl (by rw [hsc];simp)
 rcases lq hj with rfl |⟨ej,CX⟩
 ·unfold live at hj;rw [um,if_pos rfl] at hj;exact hj.elim
 ·exact ej (h.inj j i CX hi e)
end
end GL
namespace GL
inductive Q (α:Type 1):Type 1 where
 |ret (a:α)
 |ask (r:fK) (k:Option AV→Q α)
def Q.run {α:Type 1}:Q α→St→α
 |.ret a,_=>a
 |.ask r k,τ=>(k (τ r)).run τ
def Q.tr {α:Type 1}:Q α→St→List fK
 |.ret _,_=>[]
 |.ask r k,τ=>r::(k (τ r)).tr τ
theorem Q.loc {α:Type 1}{τ τ':St}:∀(q:Q α),agree (q.tr τ) τ τ'→q.run τ'=q.run τ∧q.tr τ'=q.tr τ
 |.ret _,_=>⟨rfl,rfl⟩
 |.ask r k,h=>by
  have e:τ' r=τ r:=(h r (by simp [Q.tr])).symm
  have:=Q.loc (k (τ r)) (fun x hx=>h x (by simp [Q.tr,hx]))
  simp only [Q.run,Q.tr,e]
  exact⟨this.1,by rw [this.2]⟩
inductive Rs:Type 1 where
 |no
 |go (u:AO)
 |nc (p:Prop) (u:AO)
 |br (p:Prop) (b:Bool) (d:Nat)
 |ex (p:Prop) (α:Type) (φ:α→Prop) (u:List (fK×(α→AV)))
def inst {α:Type}(x:α):List (fK×(α→AV))→AO
 |[]=>[]
 |p::u=>(p.1,p.2 x)::inst x u
def Rs.pre:Rs→Prop
 |.no=>False
 |.go _=>True
 |.nc p _=>p
 |.br p _ _=>p
 |.ex p _ _ _=>p
def Rs.ne:Rs→Prop
 |.ex _ _ φ _=>∃x,φ x
 |_=>True
def Rs.out:Rs→AO→Prop
 |.no,_=>False
 |.go u,x=>x=u
 |.nc _ u,x=>x=u
 |.br _ b d,x=>x=[(.s d,.s (.v (.bool b)))]
 |.ex _ _ φ u,x=>∃y,φ y∧x=inst y u
def K1 {α:Type}:List (fK×α)→List fK
 |[]=>[]
 |p::u=>p.1::K1 u
def Rs.dom:Rs→List fK
 |.no=>[]
 |.go u=>K1 u
 |.nc _ u=>K1 u
 |.br _ _ d=>[.s d]
 |.ex _ _ _ u=>K1 u
theorem HW {α:Type}{u:List (fK×α)}{p:fK×α}(h:p∈u):p.1∈K1 u:=by
 induction u with
 |nil=>cases h
 |cons q u ih=>
  rcases ZB8.1 h with rfl |h
  ·simp [K1]
  ·simp [K1,ih h]
theorem MP {α:Type}(x:α):∀(u:List (fK×(α→AV))),K1 (inst x u)=K1 u
 |[]=>rfl
 |p::u=>by simp [inst,K1,MP x u]
theorem Rs.FO {r:Rs}{u:AO}(h:r.out u):∀p∈u,p.1∈r.dom:=by
 intro p hp
 cases r with
 |no=>exact h.elim
 |go v=>cases h;exact HW hp
 |nc q v=>cases h;exact HW hp
 |br q b d=>cases h;simp at hp;subst hp;simp [Rs.dom]
 |ex q α φ v=>
  obtain⟨x,_,rfl⟩:=h
  have:=HW hp
  rwa [MP] at this
theorem Rs.aho {r:Rs}(hp:r.pre) (hn:r.ne):∃u,r.out u:=by
 cases r with
 |no=>exact hp.elim
 |go v=>exact⟨_,rfl⟩
 |nc q v=>exact⟨_,rfl⟩
 |br q b d=>exact⟨_,rfl⟩
 |ex q α φ v=>obtain⟨x,hx⟩:=hn;exact⟨_,x,hx,rfl⟩
structure Tr where
 j:Nat
 R:List fK
 W:List fK
def hit (nr:Nat→Nat→Bool) (i:Nat):Tr→Bool
 |⟨j,_,_⟩=>nr i j
theorem aea (nr:Nat→Nat→Bool) (i:Nat) (t:Tr):hit nr i t=nr i t.j:=rfl
def jK (nr:Nat→Nat→Bool) (i:Nat) (R W:List fK):List Tr→Bool
 |[]=>true
 |t::l=>(bif hit nr i t then true else indep t.R t.W R W)&&jK nr i R W l
theorem KF {nr:Nat→Nat→Bool}{i:Nat}{R W:List fK}:∀{l:List Tr},jK nr i R W l=true→∀t∈l,nr i t.j=false→indep t.R t.W R W=true
 |[],_,t,ht,_=>by cases ht
 |s::l,h,t,ht,ha=>by
  simp only [jK,ZA9] at h
  rcases ZB8.1 ht with rfl |ht
  ·have:=h.1;rw [aea,ha] at this;exact this
  ·exact KF h.2 t ht ha
def aL (F:Nat→Q Rs) (nr:Nat→Nat→Bool):List Nat→List Tr→St→(St→Prop)→Prop
 |[],_,τ,K=>K τ
 |i::l,T,τ,K=>jK nr i ((F i).tr τ) ((F i).run τ).dom T=true∧((F i).run τ).pre∧((F i).run τ).ne∧∀u,((F i).run τ).out u→aL F nr l (⟨i,(F i).tr τ,((F i).run τ).dom⟩::T) (τ.ap u) K
theorem rS {nr:Nat→Nat→Bool}{i:Nat}{R W:List fK}:∀{l m:List Tr},jK nr i R W (l++m)=true→jK nr i R W l=true∧jK nr i R W m=true
 |[],m,h=>⟨rfl,h⟩
 |s::l,m,h=>by
  simp only [ZG4,jK,ZA9] at h ⊢
  exact⟨⟨h.1,(rS h.2).1⟩,(rS h.2).2⟩
theorem AM {nr:Nat→Nat→Bool}{i:Nat}{R W:List fK}:∀{l m:List Tr},jK nr i R W l=true→jK nr i R W m=true→jK nr i R W (l++m)=true
 |[],m,_,h=>h
 |s::l,m,h,h'=>by
  simp only [ZG4,jK,ZA9] at h ⊢
  exact⟨h.1,AM h.2 h'⟩
theorem agq {F:Nat→Q Rs}{nr:Nat→Nat→Bool}{K:St→Prop}{t:Tr}{M:List Tr}:∀(l:List Nat) (L:List Tr) (τ:St),aL F nr l (L++t::M) τ K→aL F nr l (L++M) τ K:=by
 intro l
 induction l with
 |nil=>intro L τ h;exact h
 |cons i l ih=>
  intro L τ ⟨h1,h2,h3,h4⟩
  have h5:=rS h1
  have h6:=h5.2
  simp only [jK,ZA9] at h6
  exact⟨AM h5.1 h6.2,h2,h3,fun u hu=>ih (_::L) _ (h4 u hu)⟩
theorem afq {F:Nat→Q Rs}{nr:Nat→Nat→Bool}{i:Nat}{post:List Nat}{K:St→Prop}:
  ∀(pre:List Nat) (T:List Tr) (τ:St),(∀j∈pre,nr i j=false)→aL F nr (pre++i::post) T τ K→
   ((F i).run τ).pre∧((F i).run τ).ne∧(∀t∈T,nr i t.j=false→indep t.R t.W ((F i).tr τ) ((F i).run τ).dom=true)∧∀u,((F i).run τ).out u→aL F nr (pre++post) T (τ.ap u) K:=by
 intro pre
 induction pre with
 |nil=>
  intro T τ _ h
  obtain⟨h1,h2,h3,h4⟩:=h
  exact⟨h2,h3,KF h1,fun u hu=>agq post [] _ (h4 u hu)⟩
 |cons j pre ih=>
  intro T τ aek h
  obtain⟨hj1,yM,hj3,hj4⟩:=h
  obtain⟨u0,hu0⟩:=Rs.aho yM hj3
  have hIH:=fun u hu=>ih (⟨j,(F j).tr τ,((F j).run τ).dom⟩::T) (τ.ap u) (fun k hk=>aek k (by simp [hk])) (hj4 u hu)
  have IY:∀u,((F j).run τ).out u→(F i).run (τ.ap u)=(F i).run τ∧(F i).tr (τ.ap u)=(F i).tr τ:=by
   intro u hu
   obtain⟨_,_,h3,_⟩:=hIH u hu
   have ajn:=h3 ⟨j,(F j).tr τ,((F j).run τ).dom⟩ (by simp) (aek j (by simp))
   simp only [indep,ZA9] at ajn
   have hag:agree ((F i).tr (τ.ap u)) (τ.ap u) τ:=afp fun p hp hm=>FP ajn.1.1 (Rs.FO hu p hp) hm rfl
   have:=Q.loc (F i) hag
   exact⟨this.1.symm,this.2.symm⟩
  obtain⟨e1,e2⟩:=IY u0 hu0
  obtain⟨g1,g2,g3,g4⟩:=hIH u0 hu0
  rw [e1] at g1 g2
  rw [e1,e2] at g3
  have aeb:=g3 ⟨j,(F j).tr τ,((F j).run τ).dom⟩ (by simp) (aek j (by simp))
  simp only [indep,ZA9] at aeb
  refine⟨g1,g2,fun t ht ha=>g3 t (by simp [ht]) ha,fun v hv=>?_⟩
  have alh:agree ((F j).tr τ) τ (τ.ap v):=fun r hr=>(St.wk (fun p hp e=>FP aeb.2 (Rs.FO hv p hp) hr e)).symm
  have hj:=Q.loc (F j) alh
  refine⟨by rw [hj.1,hj.2];exact hj1,by rw [hj.1];exact yM,by rw [hj.1];exact hj3,fun u hu=>?_⟩
  rw [hj.1] at hu
  obtain⟨f1,f2⟩:=IY u hu
  obtain⟨_,_,_,k4⟩:=hIH u hu
  have:=k4 v (by rw [f1];exact hv)
  rw [St.agn (u:=u) (v:=v) (fun p hp q hq=>FP aeb.1.2 (Rs.FO hu p hp) (Rs.FO hv q hq))] at this
  rw [hj.1,hj.2]
  exact this
def OpS (P:Program) (N:Nat) (ops:Array Oper) (o:Oper) (q:Q Rs):Prop:=
 ∀c τ a w,Rel N c τ a w→(q.run τ).pre→∀(K:Act→World→Prop) (Q':Exit→Act→World→Prop),
  (∀u a' w',(q.run τ).out u→Rel N c (τ.ap u) a' w'→K a' w')→if Region.wanted o (yielded ops a.tmps)=true then o.wp P a w K Q' else K (a.put o.dst undef) w
section
variable {P:Program}{N:Nat}{ops:Array Oper}{F:Nat→Q Rs}
def xA (o:Oper):List Nat:=(o.after.toList.filter (Region.binds .any)).map (·.on)
def zP (listed:Array Bool) (i:Nat):Prop:=listed.getD i false=true
def rest (n:Nat) (listed:Array Bool):List Nat:=(List.range n).filter fun i=> !listed.getD i true
def closed (ops:Array Oper) (listed:Array Bool):Prop:=∀i o,ops[i]?=some o→zP listed i→∀p∈xA o,zP listed p
structure Anc (ops:Array Oper) (nr:Nat→Nat→Bool):Prop where
 lt:∀i o,ops[i]?=some o→∀p∈xA o,p<i
 step:∀i o,ops[i]?=some o→∀j,nr i j=true→∃k∈xA o,k=j∨nr k j=true
theorem aik {nr:Nat→Nat→Bool}(h:Anc ops nr) {listed:Array Bool}(hc:closed ops listed):∀(i:Nat) (o:Oper),ops[i]?=some o→(∀p∈xA o,zP listed p)→
  ∀j,nr i j=true→zP listed j:=by
 intro i
 induction i using Nat.strongRecOn with
 |_ i ih=>
  intro o ho hp j ht
  obtain⟨k,hk,rfl |htk⟩:=h.step i o ho j ht
  ·exact hp k hk
  ·have hki:=h.lt i o ho k hk
   have hi:i<ops.size:=(ZF1.1 ho).1
   have cH:ops[k]?=some ops[k]:=ZF9 (by omega)
   exact ih k hki _ cH (hc k _ cH (hp k hk)) j htk
theorem mem_ready {listed:Array Bool}{i:Nat}:i∈Region.ready .any ops listed↔i∈rest ops.size listed∧∀o,ops[i]?=some o→∀p∈xA o,zP listed p:=by
 simp only [Region.ready,rest,ZF4,ZE2,ZA9]
 constructor
 ·rintro⟨hi,hl,ha⟩
  refine⟨⟨hi,hl⟩,fun o ho p hp=>?_⟩
  rw [ho] at ha
  simp only [Option.map_some,ZA2] at ha
  obtain⟨e,he,rfl⟩:=List.mem_map.1 hp
  rw [ZF4] at he
  have:=Array.all_eq_true_iff_forall_mem.1 ha e (by simpa using he.1)
  simp only [Bool.or_eq_true,he.2,Bool.not_true] at this
  simpa [zP] using this
 ·rintro⟨⟨hi,hl⟩,ha⟩
  refine⟨hi,hl,?_⟩
  have ho:ops[i]?=some ops[i]:=ZF9 hi
  rw [ho]
  simp only [Option.map_some,ZA2]
  rw [Array.all_eq_true_iff_forall_mem]
  intro e he
  cases hb:Region.binds .any e with
  |false=>simp
  |true=>
   have:=ha _ ho e.on (List.mem_map.2 ⟨e,by rw [ZF4];exact⟨by simpa using he,hb⟩,rfl⟩)
   simpa [zP] using this
theorem VI {n:Nat}{listed:Array Bool}{i:Nat}(hs:listed.size=n) (hi:i∈rest n listed):
  ∃pre post,rest n listed=pre++i::post∧rest n (listed.setIfInBounds i true)=pre++post∧∀j∈pre,j<i:=by
 obtain⟨pre,post,he⟩:=List.append_of_mem hi
 have hp:(rest n listed).Pairwise (· < ·):=List.Pairwise.filter _ List.pairwise_lt_range
 have hpp:=hp
 rw [he] at hp
 have cq:i<n:=by simp only [rest,ZF4,ZE2] at hi;exact hi.1
 obtain⟨h1,h2,h3⟩:=List.pairwise_append.1 hp
 refine⟨pre,post,he,?_,fun j hj=>h3 j hj i (by simp)⟩
 have e1:rest n (listed.setIfInBounds i true)=(rest n listed).filter (fun j=> !Nat.beq j i):=by
  simp only [rest,List.filter_filter]
  refine List.filter_congr fun j hj=>?_
  by_cases hji:j=i
  ·subst hji
   simp [Array.getD,hs,cq]
  ·have hb:Nat.beq j i=false:=by rw [←Bool.not_eq_true];simpa using hji
   rw [hb]
   simp only [Bool.not_false,Bool.true_and]
   have:(listed.setIfInBounds i true).getD j true=listed.getD j true:=by
    rw [ZE8,ZE8,Array.getElem?_setIfInBounds_ne (fun h=>hji h.symm)]
   rw [this]
 rw [e1,he,List.filter_append,List.filter_cons]
 have hb:Nat.beq i i=true:=by simp
 rw [hb]
 simp only [Bool.not_true,Bool.false_eq_true,if_false]
 congr 1
 ·rw [List.filter_eq_self]
  intro j hj
  have:=h3 j hj i (by simp)
  have fB:Nat.beq j i=false:=by rw [←Bool.not_eq_true];simp;omega
  simp [fB]
 ·rw [List.filter_eq_self]
  intro j hj
  have:=(List.pairwise_cons.1 h2).1 j hj
  have fB:Nat.beq j i=false:=by rw [←Bool.not_eq_true];simp;omega
  simp [fB]
theorem acb {nr:Nat→Nat→Bool}(h:∀i o,ops[i]?=some o→OpS P N ops o (F i)) (hA:Anc ops nr) {Q':Exit→Act→World→Prop}{c:Ctx}{K:St→Prop}
  (hQ:∀τ a w,K τ→Rel N c τ a w→Q' .normal a w):∀(fuel:Nat) (listed:Array Bool) (τ:St) (a:Act) (w:World),
   (rest ops.size listed).length=fuel→listed.size=ops.size→closed ops listed→aL F nr (rest ops.size listed) [] τ K→Rel N c τ a w→wpAny P .any ops Q' fuel listed a w:=by
 intro fuel
 induction fuel with
 |zero=>
  intro listed τ a w hlen _ _ hk hr
  have af0:rest ops.size listed=[]:=ZD4.1 hlen
  refine⟨?_,?_⟩
  ·rw [List.eq_nil_iff_forall_not_mem]
   intro i hi
   have:=(mem_ready.1 hi).1
   rw [af0] at this
   cases this
  ·rw [af0] at hk
   exact hQ τ a w hk hr
 |succ fuel ih=>
  intro listed τ a w hlen hs hcl hk hr
  refine⟨fun af0=>?_,fun i hi=>?_⟩
  ·
   exfalso
   cases hl:rest ops.size listed with
   |nil=>rw [hl] at hlen;simp at hlen
   |cons i l=>
    have yL:i∈rest ops.size listed:=by rw [hl];simp
    have cq:i<ops.size:=by simp only [rest,ZF4,ZE2] at yL;exact yL.1
    have ho:ops[i]?=some ops[i]:=ZF9 cq
    have ad4:i∈Region.ready .any ops listed:=by
     refine mem_ready.2 ⟨yL,fun o ho' p hp=>?_⟩
     rw [ho] at ho';cases ho'
     have hpi:=hA.lt i _ ho p hp
     have hpw:(rest ops.size listed).Pairwise (· < ·):=List.Pairwise.filter _ List.pairwise_lt_range
     have afZ:p∉rest ops.size listed:=by
      intro hm
      rw [hl] at hm hpw
      rcases ZB8.1 hm with rfl |hm
      ·omega
      ·have:=(List.pairwise_cons.1 hpw).1 p hm;omega
     have hpn:p<listed.size:=by omega
     have:listed.getD p true=true:=by
      cases hb:listed.getD p true with
      |true=>rfl
      |false=>exact absurd (by simp only [rest,ZF4,ZE2];exact⟨by omega,by rw [hb];rfl⟩) afZ
     unfold zP
     simp only [Array.getD,hpn,dif_pos] at this ⊢
     exact this
    rw [af0] at ad4
    cases ad4
  ·have hm:=mem_ready.1 hi
   obtain⟨pre,post,he,he',bV⟩:=VI hs hm.1
   have cq:i<ops.size:=by have:=hm.1;simp only [rest,ZF4,ZE2] at this;exact this.1
   have ho:ops[i]?=some ops[i]:=ZF9 cq
   have hp:=hm.2 _ ho
   have aek:∀j∈pre,nr i j=false:=by
    intro j hj
    cases ht:nr i j with
    |false=>rfl
    |true=>
     exfalso
     have CX:=aik hA hcl i _ ho hp j ht
     have hmj:j∈rest ops.size listed:=by rw [he];simp [hj]
     simp only [rest,ZF4,ZE2] at hmj
     have hjn:j<listed.size:=by omega
     have e2:=hmj.2
     unfold zP at CX
     simp only [Array.getD,hjn,dif_pos] at e2 CX
     rw [CX] at e2
     cases e2
   rw [he] at hk
   obtain⟨ahF,_,_,hK⟩:=afq pre [] τ aek hk
   have ajl:(rest ops.size (listed.setIfInBounds i true)).length=fuel:=by
    rw [he'];rw [he] at hlen;simp at hlen ⊢;omega
   have alb:closed ops (listed.setIfInBounds i true):=by
    have up:∀p,zP listed p→zP (listed.setIfInBounds i true) p:=by
     intro p hp
     unfold zP at hp ⊢
     rw [ZE8] at hp ⊢
     by_cases e:i=p
     ·subst e
      simp [hs,cq]
     ·rw [Array.getElem?_setIfInBounds_ne e]
      exact hp
    intro k o hk af2 p hpp
    by_cases e:i=k
    ·subst e
     rw [ho] at hk;cases hk
     exact up p (hp p hpp)
    ·refine up p (hcl k o hk ?_ p hpp)
     unfold zP at af2 ⊢
     rw [ZE8] at af2 ⊢
     rw [Array.getElem?_setIfInBounds_ne e] at af2
     exact af2
   refine wpOp_step ho fun K' hK'=>?_
   exact h i _ ho c τ a w hr ahF K' Q' fun u a' w' hu uN=>hK' _ _ (ih _ _ a' w' ajl (by simpa using hs) alb (by rw [he'];exact hK u hu) uN)
def aT (F:Nat→Q Rs):List Nat→St→(St→Prop)→Prop
 |[],τ,K=>K τ
 |i::l,τ,K=>((F i).run τ).pre∧∀u,((F i).run τ).out u→aT F l (τ.ap u) K
theorem UR (h:∀i o,ops[i]?=some o→OpS P N ops o (F i)) {Q':Exit→Act→World→Prop}{c:Ctx}{K:St→Prop}
  (hQ:∀τ a w,K τ→Rel N c τ a w→Q' .normal a w):∀(l:List Nat) (τ:St) (a:Act) (w:World),(∀i∈l,i<ops.size)→aT F l τ K→Rel N c τ a w→wpOps P ops Q' l a w:=by
 intro l
 induction l with
 |nil=>intro τ a w _ hk hr;exact hQ τ a w hk hr
 |cons i l ih=>
  intro τ a w hl hk hr
  obtain⟨hp,hK⟩:=hk
  have hi:i<ops.size:=hl i (by simp)
  have ho:ops[i]?=some ops[i]:=ZF9 hi
  rw [wpOps_cons]
  refine wpOp_step ho fun K' hK'=>?_
  exact h i _ ho c τ a w hr hp K' Q' fun u a' w' hu uN=>hK' _ _ (ih _ a' w' (fun k hk=>hl k (by simp [hk])) (hK u hu) uN)
theorem Q0 (n:Nat):rest n (Array.replicate n false)=List.range n:=by
 unfold rest
 rw [List.filter_eq_self]
 intro i hi
 have:i<n:=by simpa using hi
 simp [Array.getD,this]
end
end GL
end Go.Proofs.YtkgpljpmdkflmaaGreatDoor
