/- A drawn law returns true for every code (its row lists package variables, tied by the card): part 2. -/
import Derived.Test.YtclcgjhhehbdeaaGreatDoorPaa
set_option maxHeartbeats 20000000
set_option maxRecDepth 100000
set_option linter.all false
namespace Go.Proofs.YtclcgjhhehbdeaaGreatDoor
namespace GL
def free (fr:Nat×Nat) (n:Nat):Prop:=fr.1=fr.2∨(n≤fr.1∧fr.1≤fr.2)
theorem I0 (n:Nat):free (0,0) n:=.inl rfl
theorem af3 {fr:Nat×Nat}{n:Nat}(h:free fr n):∀i,i<n→(decide (fr.1≤i)&&decide (i<fr.2))=false:=by
 intro i hi
 rw [Bool.and_eq_false_iff]
 simp only [decide_eq_false_iff_not]
 rcases h with h |h<;>omega
def agq (ek:EK) (n:Nat) (l:List (EK.Ty ek)) (cs:Array Value):Prop:=l.length=n∧(∀x∈l,EK.ok ek x)∧cs.toList=flat ek l
def BK.holds (w:World) (b:Nat):BK→Prop
 |.ty ek n=>ek≠[]∧∃cs e fr l,w.heap[b]?=some (.cells cs e fr)∧free fr cs.size∧agq ek n l cs
 |.ro cs e fr=>w.heap[b]?=some (.cells cs e fr)
 |.ln cs e fr=>w.heap[b]?=some (.cells cs e fr)
 |.fz ek n cs=>ek≠[]∧∃e fr l,w.heap[b]?=some (.cells cs e fr)∧free fr cs.size∧agq ek n l cs
 |.bx n=>∃cs e,w.heap[b]?=some (.cells cs e (0,0))∧cs.size=n
def BK.un:BK→BK
 |.fz ek n _=>.ty ek n
 |k=>k
def WT (T:bb) (w:World):Prop:=∀b k,T b=some k→k.holds w b
theorem BK.lt {w:World}{b:Nat}{k:BK}(h:k.holds w b):b<w.heap.size:=by
 cases k with
 |ty ek n=>obtain⟨_,cs,e,fr,l,h,_⟩:=h;exact (ZF1.1 h).1
 |ro cs e fr=>exact (ZF1.1 h).1
 |ln cs e fr=>exact (ZF1.1 h).1
 |fz ek n cs=>obtain⟨_,e,fr,l,h,_⟩:=h;exact (ZF1.1 h).1
 |bx n=>obtain⟨cs,e,h,_⟩:=h;exact (ZF1.1 h).1
theorem BK.qi {w w':World}{b:Nat}{k:BK}(h:k.holds w b) (e:w'.heap[b]?=w.heap[b]?):k.holds w' b:=by
 cases k with
 |ty ek n=>exact⟨h.1,by rw [e];exact h.2⟩
 |ro cs e' fr=>show w'.heap[b]?=_;rw [e];exact h
 |ln cs e' fr=>show w'.heap[b]?=_;rw [e];exact h
 |fz ek n cs=>exact⟨h.1,by rw [e];exact h.2⟩
 |bx n=>show∃cs e,_∧_;rw [e];exact h
theorem E5 {T:bb}{w:World}(h:WT T w) {b:Nat}{cs:Array Value}(hr:rdT T b cs):∃e fr,w.heap[b]?=some (.cells cs e fr):=by
 rcases hr with ⟨e,fr,h1⟩ |⟨e,fr,h1⟩ |⟨ek,n,h1⟩
 ·exact⟨e,fr,h _ _ h1⟩
 ·exact⟨e,fr,h _ _ h1⟩
 ·obtain⟨_,e,fr,l,h2,_⟩:=h _ _ h1;exact⟨e,fr,h2⟩
structure Ctx where
 W:World
 T:bb
 H:List Nat
def quiet:Option BK→Prop
 |none=>True
 |some (.bx _)=>True
 |_=>False
def live (τ:St) (i:Nat):Prop:=match τ (.b i) with
 |none=>False
 |some .zz=>False
 |_=>True
theorem kA {τ:St}{i:Nat}(h:live τ i):τ (.b i)≠none:=fun e=>by simp only [live,e] at h
theorem eC {τ:St}{i:Nat}{av:AV}(h:τ (.b i)=some av) (hz:av≠.zz):live τ i:=by
 unfold live
 rw [h]
 cases av<;>first|trivial|exact absurd rfl hz
def aiL (c:Ctx) (i b:Nat):Prop:=(i<1000→b∈c.H)∧(1000≤i→i<1000000000→c.W.heap.size≤b)∧(c.W.heap.size≤b∨b∈c.H)
def X9 (T:bb):Prop:=∀g∈zO,∃cs e fr,T g.1=some (.ro cs e fr)∧g.2 cs
theorem X9.mono {T T':bb}(h:uO T T') (hg:X9 T):X9 T':=fun g hm=>by
 obtain⟨cs,e,fr,h1,h2⟩:=hg g hm
 exact⟨cs,e,fr,h _ _ h1,h2⟩
structure Holds (N:Nat) (c:Ctx) (T:bb) (β:Nat→Nat) (τ:St) (a:Act) (w:World):Prop where
 defs:a.defers=[]
 size:a.tmps.size=N
 D7:c.H.length≤1000
 iH:∀i av,τ (.s i)=some av→∃v,a.tmps[i]?=some v∧av.rel T β v
 boxes:∀i av,τ (.b i)=some av→av≠.zz→∃cs e,w.heap[β i]?=some (.cells cs e (0,0))∧av.rQ T β cs
 apart:∀i,live τ i→(∃n,T (β i)=some (.bx n))∧aiL c i (β i)
 handed:∀i b,c.H[i]?=some b→live τ i→β i=b
 inj:∀i j,live τ i→live τ j→β i=β j→i=j
 named:∀r av,τ r=some av→∀i∈av.boxes,τ (.b i)≠none
 typed:WT T w
 old:∀b,b<c.W.heap.size→(T b).map BK.un=c.T b
 frame:∀b,b<c.W.heap.size→b∉c.H→quiet (c.T b)→w.heap[b]?=c.W.heap[b]?
 gb:c.W.heap.size≤w.heap.size
 os:w.os=c.W.os
 tape:w.tape=c.W.tape
 output:w.output=c.W.output
 oR:X9 T
def Rel (N:Nat) (c:Ctx) (τ:St) (a:Act) (w:World):Prop:=∃T β,Holds N c T β τ a w
section
variable {N:Nat}{c:Ctx}{T:bb}{β:Nat→Nat}{τ:St}{a:Act}{w w':World}
theorem Holds.drew (h:Holds N c T β τ a w):Holds N c T β τ a { w with drawn:=w.drawn+1 }:=
 {h with
  boxes:=h.boxes
  typed:=fun b k hb=>BK.qi (h.typed b k hb) rfl
  frame:=h.frame }
theorem Rel.drew (h:Rel N c τ a w):Rel N c τ a { w with drawn:=w.drawn+1 }:=by
 obtain⟨T,β,h⟩:=h
 exact⟨T,β,h.drew⟩
theorem Holds.world (h:Holds N c T β τ a w) (hh:w'.heap=w.heap) (ho:w'.os=w.os) (ht:w'.tape=w.tape) (hu:w'.output=w.output):Holds N c T β τ a w':=
 {h with
  boxes:=by rw [hh];exact h.boxes
  typed:=fun b k hb=>BK.qi (h.typed b k hb) (by rw [hh])
  frame:=by rw [hh];exact h.frame
  gb:=by rw [hh];exact h.gb
  os:=ho.trans h.os
  tape:=ht.trans h.tape
  output:=hu.trans h.output
  oR:=h.oR }
theorem uf {r q:fI}{av:AV}:(τ.ap [(r,av)]) q=if q=r then some av else τ q:=by
 show (bif fI.beq r q then some av else τ q)=_
 by_cases e:q=r
 ·subst e;rw [fI.UD,if_pos rfl];rfl
 ·rw [fI.beq_false.2 (fun h=>e h.symm),if_neg e];rfl
theorem wE {d:Nat}{av:AV}{i:Nat}:live (τ.ap [(.s d,av)]) i=live τ i:=by
 unfold live
 rw [uf,if_neg (by simp)]
theorem Holds.put (h:Holds N c T β τ a w) {d:Nat}(hd:d<N) {av:AV}{v:Value}
  (hav:av.rel T β v) (hsc:∀i∈av.boxes,τ (.b i)≠none)
  :Holds N c T β (τ.ap [(.s d,av)]) (a.put (some d) v) w where
 defs:=h.defs
 size:=by simp [Act.put,h.size]
 D7:=h.D7
 iH:=fun i x hx=>by
  rw [uf] at hx
  by_cases e:i=d
  ·subst e
   rw [if_pos rfl] at hx;cases hx
   refine⟨v,?_,hav⟩
   simp [Act.put,h.size,hd]
  ·rw [if_neg (by simp [e])] at hx
   obtain⟨y,hy,hr⟩:=h.iH i x hx
   refine⟨y,?_,hr⟩
   simp only [Act.put]
   rw [Array.getElem?_setIfInBounds_ne (by omega)]
   exact hy
 boxes:=fun i x hx=>h.boxes i x (by rwa [uf,if_neg (by simp)] at hx)
 apart:=fun i hi=>h.apart i (by rwa [wE] at hi)
 handed:=fun i b hb h0=>h.handed i b hb (by rwa [wE] at h0)
 inj:=fun i j hi hj e=>h.inj i j (by rwa [wE] at hi) (by rwa [wE] at hj) e
 named:=fun r x hx i hi=>by
  rw [uf,if_neg (by simp)]
  rw [uf] at hx
  by_cases e:r= .s d
  ·rw [if_pos e] at hx;cases hx;exact hsc i hi
  ·rw [if_neg e] at hx;exact h.named r x hx i hi
 typed:=h.typed
 old:=h.old
 frame:=h.frame
 gb:=h.gb
 os:=h.os
 tape:=h.tape
 output:=h.output
 oR:=h.oR
def GI (x:Option AV):AV→Prop
 |.o (.s (.q c))=>match x with
  |some (.o (.s (.v (.bool b))))=>b=c
  |x=>x=some (.o (.s (.q c)))
 |y=>x=some y
theorem UY {y:AV}:GI (some y) y:=by
 unfold GI
 split
 ·split
  ·rename_i h;cases h
  ·rfl
 ·rfl
theorem aaC {x:Option AV}{y:AV}(h:GI x y):∃z,x=some z∧∀{T:bb}{β:Nat→Nat}{v:Value},z.rel T β v→y.rel T β v:=by
 unfold GI at h
 split at h
 ·split at h
  ·rename_i b
   subst h
   exact⟨_,rfl,fun hr=>hr⟩
  ·exact⟨_,h,fun hr=>hr⟩
 ·exact⟨_,h,fun hr=>hr⟩
structure Sub (σ:Nat→Nat) (τ' τ:St):Prop where
 slot:∀i av,τ' (.s i)=some av→GI (τ (.s i)) (av.lr σ)
 box:∀i av,τ' (.b i)=some av→τ (.b (σ i))=some (av.lr σ)
 named:∀r av,τ' r=some av→∀i∈av.boxes,τ' (.b i)≠none
 inj:∀i j,τ' (.b i)≠none→τ' (.b j)≠none→σ i=σ j→i=j
 low:∀i,τ' (.b i)≠none→σ i=i∨((1000≤i∧i<1000000000)∧1000≤σ i∧σ i<1000000000)∨1000000000≤i
theorem acD {g:Nat→Nat}{av:AV}(h:av≠.zz):av.lr g≠.zz:=by
 cases av with
 |zz=>exact absurd rfl h
 |o x=>intro e;cases e
 |t l=>intro e;cases e
 |rs ek l=>intro e;cases e
 |fn f l=>intro e;cases e
theorem SV.pM {σ:Nat→Nat}{x:SV}{v:Value}(hr:(x.lr σ).rel T β v):x.rel T (fun i=>β (σ i)) v:=by
 cases x<;>exact hr
theorem BL {σ:Nat→Nat}:∀{l:List SV}{cs:List Value},dM T β (BF σ l) cs→dM T (fun i=>β (σ i)) l cs
 |[],[],_=>trivial
 |_::_,[],h'=>h'.elim
 |[],_::_,h'=>h'.elim
 |_::_,_::_,h'=>⟨SV.pM h'.1,BL h'.2⟩
theorem A0.pM {σ:Nat→Nat}{x:A0}{v:Value}(hr:(x.lr σ).rel T β v):x.rel T (fun i=>β (σ i)) v:=by
 cases x with
 |s x=>exact SV.pM hr
 |a l=>obtain⟨cs,e,hl⟩:=hr;exact⟨cs,e,BL hl⟩
theorem LD {σ:Nat→Nat}:∀{l:List A0}{cs:List Value},uz T β (BE σ l) cs→uz T (fun i=>β (σ i)) l cs
 |[],[],_=>trivial
 |_::_,[],h'=>h'.elim
 |[],_::_,h'=>h'.elim
 |_::_,_::_,h'=>⟨A0.pM h'.1,LD h'.2⟩
theorem ND {σ:Nat→Nat}:∀{l:List (Nat×Nat)},EV β (BG σ l)=EV (fun i=>β (σ i)) l
 |[]=>rfl
 |p::l=>by simp only [EV,BG];rw [ND]
theorem AV.pM {σ:Nat→Nat}{x:AV}{v:Value}(hr:(x.lr σ).rel T β v):x.rel T (fun i=>β (σ i)) v:=by
 cases x with
 |o x=>exact A0.pM hr
 |t l=>obtain⟨cs,e,hl⟩:=hr;exact⟨cs,e,LD hl⟩
 |rs ek l=>exact hr
 |zz=>exact hr
 |fn f l=>obtain⟨cs,e,hl⟩:=hr;exact⟨cs,e,hl.trans ND⟩
theorem AV.aeX {σ:Nat→Nat}{x:AV}{cs:Array Value}(hr:(x.lr σ).rQ T β cs):x.rQ T (fun i=>β (σ i)) cs:=by
 cases x with
 |o x=>
  cases x with
  |s x=>exact hr
  |a l=>exact BL hr
 |_=>exact hr
theorem Sub.live {σ:Nat→Nat}{τ':St}(h:Sub σ τ' τ) {i:Nat}(hl:live τ' i):GL.live τ (σ i):=by
 cases hb:τ' (.b i) with
 |none=>exact absurd hb (kA hl)
 |some av=>
  refine eC (h.box i av hb) (acD fun e=>?_)
  subst e
  unfold GL.live at hl
  rw [hb] at hl
  exact hl
theorem Rel.sub {σ:Nat→Nat}{τ':St}(h:Sub σ τ' τ) (hr:Rel N c τ a w):Rel N c τ' a w:=by
 obtain⟨T,β,hh⟩:=hr
 refine⟨T,fun i=>β (σ i),{ hh with
  iH:=fun i av hs=>by
   obtain⟨z,hz,hzr⟩:=aaC (h.slot i av hs)
   obtain⟨v,hv,hr⟩:=hh.iH i _ hz
   exact⟨v,hv,AV.pM (hzr hr)⟩
  boxes:=fun i av hs hz=>by
   obtain⟨cs,e,h1,h2⟩:=hh.boxes _ _ (h.box i av hs) (acD hz)
   exact⟨cs,e,h1,AV.aeX h2⟩
  apart:=fun i hi=>by
   obtain⟨h1,h2,h3,h4⟩:=hh.apart _ (h.live hi)
   refine⟨h1,fun h5=>?_,fun h5 h6=>?_,h4⟩
   ·rcases h.low i (kA hi) with e |e |e
    ·exact h2 (by omega)
    ·omega
    ·omega
   ·rcases h.low i (kA hi) with e |e |e
    ·exact h3 (by omega) (by omega)
    ·exact h3 e.2.1 e.2.2
    ·omega
  handed:=fun i b hb hi=>by
   have bU:i<c.H.length:=(ZB9.1 hb).1
   have CS:=h.live hi
   rcases h.low i (kA hi) with e |e |e
   ·show β (σ i)=b
    rw [e] at CS ⊢
    exact hh.handed i b hb CS
   ·exact absurd hh.D7 (by omega)
   ·exact absurd hh.D7 (by omega)
  inj:=fun i j hi hj e=>h.inj i j (kA hi) (kA hj) (hh.inj _ _ (h.live hi) (h.live hj) e)
  named:=h.named }⟩
structure PZ (w:World) (b:Nat) (o:Obj) (w':World):Prop where
 at_:w'.heap[b]?=some o
 other:∀k,k≠b→w'.heap[k]?=w.heap[k]?
 size:w'.heap.size=w.heap.size
 os:w'.os=w.os
 tape:w'.tape=w.tape
 output:w'.output=w.output
theorem Holds.lt (h:Holds N c T β τ a w) {i:Nat}(hi:live τ i):β i<w.heap.size:=by
 obtain⟨⟨n,hn⟩,_⟩:=h.apart i hi
 exact BK.lt (h.typed _ _ hn)
theorem Holds.YM (h:Holds N c T β τ a w) {i n:Nat}{cs:Array Value}{e:TypeId}{fr:Nat×Nat}(hn:T (β i)=some (.bx n)) (hb:w.heap[β i]?=some (.cells cs e fr)):cs.size=n:=by
 obtain⟨mb,e',h1,h2⟩:=h.typed _ _ hn
 rw [hb] at h1
 cases h1
 exact h2
theorem lf {j:Nat}{av:AV}{i:Nat}(h:live (τ.ap [(.b j,av)]) i):i=j∨(i≠j∧live τ i):=by
 by_cases e:i=j
 ·exact .inl e
 ·unfold live at h
  rw [uf,if_neg (by simp [e])] at h
  exact .inr ⟨e,h⟩
theorem Holds.DE (h:Holds N c T β τ a w) {i:Nat}{av:AV}{cs mb:Array Value}{e e':TypeId}(hi:live τ i) (ho:w.heap[β i]?=some (.cells cs e (0,0))) (hw:PZ w (β i) (.cells mb e' (0,0)) w') (dj:mb.size=cs.size) (hl:av.rQ T β mb) (hsc:∀j∈av.boxes,τ (.b j)≠none):
  Holds N c T β (τ.ap [(.b i,av)]) a w':=by
 have afZ:∀r,τ r≠none→(τ.ap [(.b i,av)]) r≠none:=by
  intro r hr
  rw [uf]
  split
  ·simp
  ·exact hr
 have FE:∀k,live (τ.ap [(.b i,av)]) k→live τ k:=fun k hk=>by
  rcases lf hk with rfl |⟨_,h⟩
  ·exact hi
  ·exact h
 obtain⟨⟨n,hn⟩,nX⟩:=h.apart i hi
 have mj:=h.YM hn ho
 exact {
  defs:=h.defs
  size:=h.size
  D7:=h.D7
  iH:=fun k x hk=>h.iH k x (by rwa [uf,if_neg (by simp)] at hk)
  boxes:=fun k x hk hz=>by
   rw [uf] at hk
   by_cases ek:k=i
   ·subst ek
    rw [if_pos rfl] at hk;cases hk
    exact⟨mb,e',hw.at_,hl⟩
   ·rw [if_neg (by simp [ek])] at hk
    obtain⟨ds,e2,h2,h3⟩:=h.boxes k x hk hz
    refine⟨ds,e2,?_,h3⟩
    rw [hw.other _ (fun he=>ek (h.inj k i (eC hk hz) hi he))]
    exact h2
  apart:=fun k hk=>h.apart k (FE k hk)
  handed:=fun k b hb h0=>h.handed k b hb (FE k h0)
  inj:=fun k j hk hj e=>h.inj k j (FE k hk) (FE j hj) e
  named:=fun r x hr k hk=>by
   refine afZ _ ?_
   rw [uf] at hr
   by_cases e:r= .b i
   ·rw [if_pos e] at hr;cases hr;exact hsc k hk
   ·rw [if_neg e] at hr;exact h.named r x hr k hk
  typed:=fun b k hb=>by
   by_cases e:b=β i
   ·subst e
    rw [hn] at hb;cases hb
    exact⟨mb,e',hw.at_,dj.trans mj⟩
   ·exact BK.qi (h.typed b k hb) (hw.other b e)
  old:=h.old
  frame:=fun b hb hH hq=>by
   have fy:b≠β i:=fun e=>by
    rcases nX.2.2 with h1 |h1
    ·omega
    ·rw [e] at hH;exact hH h1
   rw [hw.other b fy]
   exact h.frame b hb hH hq
  gb:=by rw [hw.size];exact h.gb
  os:=hw.os.trans h.os
  tape:=hw.tape.trans h.tape
  output:=hw.output.trans h.output
  oR:=h.oR }
theorem Holds.uN (h:Holds N c T β τ a w) {b:Nat}{ek:EK}{n:Nat}(hb:T b=some (.ty ek n)) {cs:Array Value}{e:TypeId}{fr:Nat×Nat}{l:List (EK.Ty ek)}(hw:PZ w b (.cells cs e fr) w') (ka:free fr cs.size) (cG:agq ek n l cs):
  Holds N c T β τ a w':=
 {h with
  boxes:=fun k x hk hz=>by
   obtain⟨mb,e',h2,h3⟩:=h.boxes k x hk hz
   refine⟨mb,e',?_,h3⟩
   rw [hw.other _ (fun he=>by obtain⟨n',hn'⟩:=(h.apart k (eC hk hz)).1;rw [he,hb] at hn';cases hn')]
   exact h2
  typed:=fun b' k hb'=>by
   by_cases he:b'=b
   ·subst he
    rw [hb] at hb';cases hb'
    exact⟨(h.typed b' _ hb).1,cs,e,fr,l,hw.at_,ka,cG⟩
   ·exact BK.qi (h.typed b' k hb') (hw.other b' he)
  frame:=fun k hk hH hq=>by
   have fy:k≠b:=fun e=>by
    subst e
    have:=h.old k hk
    rw [hb] at this
    rw [←this] at hq
    exact hq
   rw [hw.other k fy]
   exact h.frame k hk hH hq
  gb:=by rw [hw.size];exact h.gb
  os:=hw.os.trans h.os
  tape:=hw.tape.trans h.tape
  output:=hw.output.trans h.output
  oR:=h.oR }
structure oG (w:World) (o:Obj) (w':World):Prop where
 heap:w'.heap=w.heap.push o
 os:w'.os=w.os
 tape:w'.tape=w.tape
 output:w'.output=w.output
theorem oG.old {o:Obj}(h:oG w o w') {k:Nat}(hk:k<w.heap.size):w'.heap[k]?=w.heap[k]?:=by
 rw [h.heap,Array.getElem?_push,if_neg (by omega)]
theorem oG.new {o:Obj}(h:oG w o w'):w'.heap[w.heap.size]?=some o:=by
 rw [h.heap,Array.getElem?_push,if_pos rfl]
theorem oG.size {o:Obj}(h:oG w o w'):w'.heap.size=w.heap.size+1:=by rw [h.heap];simp
def oe (β:Nat→Nat) (d n:Nat):Nat→Nat:=fun i=>if i=d then n else β i
def xe (T:bb) (b:Nat) (k:BK):bb:=fun i=>if i=b then some k else T i
theorem K2 {b:Nat}(hT:T b=none) {k:BK}:uO T (xe T b k):=fun i k' hi=>by
 unfold xe
 by_cases e:i=b
 ·subst e;rw [hT] at hi;cases hi
 ·rw [if_neg e];exact hi
theorem WT.fresh (h:WT T w):T w.heap.size=none:=by
 cases hT:T w.heap.size with
 |none=>rfl
 |some k=>exact absurd (BK.lt (h _ k hT)) (by omega)
theorem Holds.CA (h:Holds N c T β τ a w) {k:BK}{o:Obj}(hp:oG w o w') (hk:k.holds w' w.heap.size):
  Holds N c (xe T w.heap.size k) β τ a w':=by
 have zN:uO T (xe T w.heap.size k):=K2 h.typed.fresh
 exact {
  defs:=h.defs
  size:=h.size
  D7:=h.D7
  iH:=fun i av hi=>by obtain⟨v,hv,hr⟩:=h.iH i av hi;exact⟨v,hv,AV.nF zN hr⟩
  boxes:=fun i av hi hz=>by
   obtain⟨mb,e',h2,h3⟩:=h.boxes i av hi hz
   exact⟨mb,e',by rw [hp.old (h.lt (eC hi hz))];exact h2,AV.JM zN h3⟩
  apart:=fun i hi=>by
   obtain⟨⟨n,hn⟩,ho⟩:=h.apart i hi
   exact⟨⟨n,zN _ _ hn⟩,ho⟩
  handed:=h.handed
  inj:=h.inj
  named:=h.named
  typed:=fun b k' hb=>by
   unfold xe at hb
   by_cases he:b=w.heap.size
   ·rw [if_pos he] at hb;cases hb
    subst he
    exact hk
   ·rw [if_neg he] at hb
    have hb':=h.typed b k' hb
    exact BK.qi hb' (hp.old (BK.lt hb'))
  old:=fun b hb=>by
   have:xe T w.heap.size k b=T b:=by unfold xe;rw [if_neg (by have:=h.gb;omega)]
   rw [this]
   exact h.old b hb
  frame:=fun b hb hH hq=>by
   rw [hp.old (ZG1 hb h.gb)]
   exact h.frame b hb hH hq
  gb:=by rw [hp.size];have:=h.gb;omega
  os:=hp.os.trans h.os
  tape:=hp.tape.trans h.tape
  output:=hp.output.trans h.output
  oR:=h.oR.mono zN }
theorem Holds.SJ (h:Holds N c T β τ a w) {d b n:Nat}{av:AV}{cs:Array Value}{e:TypeId}(hd:1000≤d) (uw:τ (.b d)=none) (hT:T b=some (.bx n)) (vA:aiL c d b) (hun:∀i,live τ i→β i≠b) (hb:w.heap[b]?=some (.cells cs e (0,0)))
  (hl:av.rQ T β cs) (hsc:∀j∈av.boxes,τ (.b j)≠none):Holds N c T (oe β d b) (τ.ap [(.b d,av)]) a w:=by
 have afX:∀(r:fI) (av:AV),τ r=some av→d∉av.boxes:=fun r av hr hm=>h.named r av hr d hm uw
 have hβ:∀i,i≠d→oe β d b i=β i:=fun i hi=>by unfold oe;rw [if_neg hi]
 have hβd:oe β d b d=b:=by unfold oe;rw [if_pos rfl]
 have hnd:d∉av.boxes:=fun hm=>hsc d hm uw
 have xy:∀{x:AV},d∉x.boxes→∀i∈x.boxes,oe β d b i=β i:=fun hx i hi=>hβ i fun e=>hx (e ▸ hi)
 exact {
  defs:=h.defs
  size:=h.size
  D7:=h.D7
  iH:=fun i x hi=>by
   rw [uf,if_neg (by simp)] at hi
   obtain⟨v,hv,hr⟩:=h.iH i x hi
   exact⟨v,hv,AV.acG (xy (afX _ _ hi)) hr⟩
  boxes:=fun i x hi hz=>by
   rw [uf] at hi
   by_cases ei:i=d
   ·subst ei
    rw [if_pos rfl] at hi;cases hi
    exact⟨cs,e,by rw [hβd];exact hb,AV.XW (xy hnd) hl⟩
   ·rw [if_neg (by simp [ei])] at hi
    obtain⟨mb,e',h2,h3⟩:=h.boxes i x hi hz
    exact⟨mb,e',by rw [hβ i ei];exact h2,AV.XW (xy (afX _ _ hi)) h3⟩
  apart:=fun i hi=>by
   rcases lf hi with rfl |⟨e,CS⟩
   ·rw [hβd];exact⟨⟨n,hT⟩,vA⟩
   ·rw [hβ i e];exact h.apart i CS
  handed:=fun i b' hb' hi=>by
   rcases lf hi with rfl |⟨e,CS⟩
   ·have:i<c.H.length:=(ZB9.1 hb').1
    exact absurd h.D7 (by omega)
   ·rw [hβ i e];exact h.handed i b' hb' CS
  inj:=fun i j hi hj e=>by
   rcases lf hi with rfl |⟨ei,CS⟩
   ·rcases lf hj with rfl |⟨ej,CR⟩
    ·rfl
    ·rw [hβd,hβ j ej] at e
     exact absurd e.symm (hun j CR)
   ·rcases lf hj with rfl |⟨ej,CR⟩
    ·rw [hβd,hβ i ei] at e
     exact absurd e (hun i CS)
    ·rw [hβ i ei,hβ j ej] at e
     exact h.inj i j CS CR e
  named:=fun r x hr k hk=>by
   rw [uf]
   by_cases ek:fI.b k= .b d
   ·rw [if_pos ek];simp
   ·rw [if_neg ek]
    rw [uf] at hr
    by_cases e2:r= .b d
    ·rw [if_pos e2] at hr;cases hr
     exact hsc k hk
    ·rw [if_neg e2] at hr
     exact h.named r x hr k hk
  typed:=h.typed
  old:=h.old
  frame:=h.frame
  gb:=h.gb
  os:=h.os
  tape:=h.tape
  output:=h.output
  oR:=h.oR }
theorem Holds.tz (h:Holds N c T β τ a w) {d:Nat}(hd:1000≤d) (uw:τ (.b d)=none) {av:AV}{cs:Array Value}{e:TypeId}(hp:oG w (.cells cs e (0,0)) w') (hl:av.rQ T β cs) (hsc:∀j∈av.boxes,τ (.b j)≠none):
  Holds N c (xe T w.heap.size (.bx cs.size)) (oe β d w.heap.size) (τ.ap [(.b d,av)]) a w':=by
 have h1:=h.CA (k:=.bx cs.size) hp ⟨cs,e,hp.new,rfl⟩
 refine h1.SJ hd uw (n:=cs.size) (by unfold xe;rw [if_pos rfl]) ⟨fun h=>by omega,fun _ _=>h.gb,.inl h.gb⟩ (fun i hi e=>?_) hp.new (AV.JM (K2 h.typed.fresh) hl) hsc
 have:=h.lt hi
 omega
theorem Holds.kill (h:Holds N c T β τ a w) {i:Nat}:Holds N c T β (τ.ap [(.b i,.zz)]) a w:=by
 have FE:∀k,live (τ.ap [(.b i,.zz)]) k→k≠i∧live τ k:=fun k hk=>by
  rcases lf hk with rfl |h
  ·unfold live at hk;rw [uf,if_pos rfl] at hk;exact hk.elim
  ·exact h
 exact { h with
  iH:=fun k x hk=>h.iH k x (by rwa [uf,if_neg (by simp)] at hk)
  boxes:=fun k x hk hz=>by
   rw [uf] at hk
   by_cases e:fI.b k= .b i
   ·rw [if_pos e] at hk;cases hk;exact absurd rfl hz
   ·rw [if_neg e] at hk;exact h.boxes k x hk hz
  apart:=fun k hk=>h.apart k (FE k hk).2
  handed:=fun k b hb h0=>h.handed k b hb (FE k h0).2
  inj:=fun k j hk hj e=>h.inj k j (FE k hk).2 (FE j hj).2 e
  named:=fun r x hr k hk=>by
   rw [uf]
   split
   ·simp
   ·rw [uf] at hr
    by_cases e:r= .b i
    ·rw [if_pos e] at hr;cases hr;simp [AV.boxes] at hk
    ·rw [if_neg e] at hr;exact h.named r x hr k hk }
theorem Holds.SL (h:Holds N c T β τ a w) {i d:Nat}(hd:1000≤d) (hi0:1000000000≤d∨(1000≤i∧i<1000000000)) (uw:τ (.b d)=none) {av:AV}{cs mb:Array Value}{e e':TypeId}(hi:live τ i) (ho:w.heap[β i]?=some (.cells cs e (0,0))) (hw:PZ w (β i) (.cells mb e' (0,0)) w') (dj:mb.size=cs.size) (hl:av.rQ T β mb) (hsc:av.boxes=[]):
  Holds N c T (oe β d (β i)) ((τ.ap [(.b i,.zz)]).ap [(.b d,av)]) a w':=by
 have hid:i≠d:=fun e=>by subst e;exact kA hi uw
 obtain⟨⟨n,hn⟩,nX⟩:=h.apart i hi
 have h1:=(h.DE (av:=av) hi ho hw dj hl (by rw [hsc];simp)).kill (i:=i)
 have e1:(τ.ap [(.b i,av)]).ap [(.b i,.zz)]=τ.ap [(.b i,.zz)]:=by
  funext r
  rw [uf,uf,uf]
  split<;>rfl
 rw [e1] at h1
 refine h1.SJ hd (by rw [uf,if_neg (by simp;exact fun h=>hid h.symm)];exact uw) hn ⟨fun h=>by omega,fun h1 h2=>nX.2.1 (by omega) (by omega),nX.2.2⟩ (fun j hj e=>?_) hw.at_ hl (by rw [hsc];simp)
 rcases lf hj with rfl |⟨ej,CR⟩
 ·unfold live at hj;rw [uf,if_pos rfl] at hj;exact hj.elim
 ·exact ej (h.inj j i CR hi e)
end
end GL
namespace GL
inductive Q (α:Type 1):Type 1 where
 |ret (a:α)
 |ask (r:fI) (k:Option AV→Q α)
def Q.run {α:Type 1}:Q α→St→α
 |.ret a,_=>a
 |.ask r k,τ=>(k (τ r)).run τ
def Q.tr {α:Type 1}:Q α→St→List fI
 |.ret _,_=>[]
 |.ask r k,τ=>r::(k (τ r)).tr τ
theorem Q.loc {α:Type 1}{τ τ':St}:∀(q:Q α),agree (q.tr τ) τ τ'→q.run τ'=q.run τ∧q.tr τ'=q.tr τ
 |.ret _,_=>⟨rfl,rfl⟩
 |.ask r k,h=>by
  have e:τ' r=τ r:=(h r (by simp [Q.tr])).symm
  have:=Q.loc (k (τ r)) (fun x hx=>h x (by simp [Q.tr,hx]))
  simp only [Q.run,Q.tr,e]
  exact⟨this.1,by rw [this.2]⟩
inductive Rs:Type 1 where
 |no
 |go (u:AJ)
 |mV (p:Prop) (u:AJ)
 |br (p:Prop) (b:Bool) (d:Nat)
 |ex (p:Prop) (α:Type) (φ:α→Prop) (u:List (fI×(α→AV)))
def inst {α:Type}(x:α):List (fI×(α→AV))→AJ
 |[]=>[]
 |p::u=>(p.1,p.2 x)::inst x u
def Rs.pre:Rs→Prop
 |.no=>False
 |.go _=>True
 |.mV p _=>p
 |.br p _ _=>p
 |.ex p _ _ _=>p
def Rs.ne:Rs→Prop
 |.ex _ _ φ _=>∃x,φ x
 |_=>True
def Rs.out:Rs→AJ→Prop
 |.no,_=>False
 |.go u,x=>x=u
 |.mV _ u,x=>x=u
 |.br _ b d,x=>x=[(.s d,.s (.v (.bool b)))]
 |.ex _ _ φ u,x=>∃y,φ y∧x=inst y u
def KX {α:Type}:List (fI×α)→List fI
 |[]=>[]
 |p::u=>p.1::KX u
def Rs.dom:Rs→List fI
 |.no=>[]
 |.go u=>KX u
 |.mV _ u=>KX u
 |.br _ _ d=>[.s d]
 |.ex _ _ _ u=>KX u
theorem HR {α:Type}{u:List (fI×α)}{p:fI×α}(h:p∈u):p.1∈KX u:=by
 induction u with
 |nil=>cases h
 |cons q u ih=>
  rcases ZB8.1 h with rfl |h
  ·simp [KX]
  ·simp [KX,ih h]
theorem ML {α:Type}(x:α):∀(u:List (fI×(α→AV))),KX (inst x u)=KX u
 |[]=>rfl
 |p::u=>by simp [inst,KX,ML x u]
theorem Rs.FK {r:Rs}{u:AJ}(h:r.out u):∀p∈u,p.1∈r.dom:=by
 intro p hp
 cases r with
 |no=>exact h.elim
 |go v=>cases h;exact HR hp
 |mV q v=>cases h;exact HR hp
 |br q b d=>cases h;simp at hp;subst hp;simp [Rs.dom]
 |ex q α φ v=>
  obtain⟨x,_,rfl⟩:=h
  have:=HR hp
  rwa [ML] at this
theorem Rs.ahm {r:Rs}(hp:r.pre) (hn:r.ne):∃u,r.out u:=by
 cases r with
 |no=>exact hp.elim
 |go v=>exact⟨_,rfl⟩
 |mV q v=>exact⟨_,rfl⟩
 |br q b d=>exact⟨_,rfl⟩
 |ex q α φ v=>obtain⟨x,hx⟩:=hn;exact⟨_,x,hx,rfl⟩
structure Tr where
 j:Nat
 R:List fI
 W:List fI
def hit (nc:Nat→Nat→Bool) (i:Nat):Tr→Bool
 |⟨j,_,_⟩=>nc i j
theorem ad6 (nc:Nat→Nat→Bool) (i:Nat) (t:Tr):hit nc i t=nc i t.j:=rfl
def jG (nc:Nat→Nat→Bool) (i:Nat) (R W:List fI):List Tr→Bool
 |[]=>true
 |t::l=>(bif hit nc i t then true else indep t.R t.W R W)&&jG nc i R W l
theorem KB {nc:Nat→Nat→Bool}{i:Nat}{R W:List fI}:∀{l:List Tr},jG nc i R W l=true→∀t∈l,nc i t.j=false→indep t.R t.W R W=true
 |[],_,t,ht,_=>by cases ht
 |s::l,h,t,ht,ha=>by
  simp only [jG,ZA9] at h
  rcases ZB8.1 ht with rfl |ht
  ·have:=h.1;rw [ad6,ha] at this;exact this
  ·exact KB h.2 t ht ha
def aL (F:Nat→Q Rs) (nc:Nat→Nat→Bool):List Nat→List Tr→St→(St→Prop)→Prop
 |[],_,τ,K=>K τ
 |i::l,T,τ,K=>jG nc i ((F i).tr τ) ((F i).run τ).dom T=true∧((F i).run τ).pre∧((F i).run τ).ne∧∀u,((F i).run τ).out u→aL F nc l (⟨i,(F i).tr τ,((F i).run τ).dom⟩::T) (τ.ap u) K
theorem rL {nc:Nat→Nat→Bool}{i:Nat}{R W:List fI}:∀{l m:List Tr},jG nc i R W (l++m)=true→jG nc i R W l=true∧jG nc i R W m=true
 |[],m,h=>⟨rfl,h⟩
 |s::l,m,h=>by
  simp only [ZG4,jG,ZA9] at h ⊢
  exact⟨⟨h.1,(rL h.2).1⟩,(rL h.2).2⟩
theorem AH {nc:Nat→Nat→Bool}{i:Nat}{R W:List fI}:∀{l m:List Tr},jG nc i R W l=true→jG nc i R W m=true→jG nc i R W (l++m)=true
 |[],m,_,h=>h
 |s::l,m,h,h'=>by
  simp only [ZG4,jG,ZA9] at h ⊢
  exact⟨h.1,AH h.2 h'⟩
theorem ago {F:Nat→Q Rs}{nc:Nat→Nat→Bool}{K:St→Prop}{t:Tr}{M:List Tr}:∀(l:List Nat) (L:List Tr) (τ:St),aL F nc l (L++t::M) τ K→aL F nc l (L++M) τ K:=by
 intro l
 induction l with
 |nil=>intro L τ h;exact h
 |cons i l ih=>
  intro L τ ⟨h1,h2,h3,h4⟩
  have h5:=rL h1
  have h6:=h5.2
  simp only [jG,ZA9] at h6
  exact⟨AH h5.1 h6.2,h2,h3,fun u hu=>ih (_::L) _ (h4 u hu)⟩
theorem afo {F:Nat→Q Rs}{nc:Nat→Nat→Bool}{i:Nat}{post:List Nat}{K:St→Prop}:
  ∀(pre:List Nat) (T:List Tr) (τ:St),(∀j∈pre,nc i j=false)→aL F nc (pre++i::post) T τ K→
   ((F i).run τ).pre∧((F i).run τ).ne∧(∀t∈T,nc i t.j=false→indep t.R t.W ((F i).tr τ) ((F i).run τ).dom=true)∧∀u,((F i).run τ).out u→aL F nc (pre++post) T (τ.ap u) K:=by
 intro pre
 induction pre with
 |nil=>
  intro T τ _ h
  obtain⟨h1,h2,h3,h4⟩:=h
  exact⟨h2,h3,KB h1,fun u hu=>ago post [] _ (h4 u hu)⟩
 |cons j pre ih=>
  intro T τ aeg h
  obtain⟨hj1,yF,hj3,hj4⟩:=h
  obtain⟨u0,hu0⟩:=Rs.ahm yF hj3
  have hIH:=fun u hu=>ih (⟨j,(F j).tr τ,((F j).run τ).dom⟩::T) (τ.ap u) (fun k hk=>aeg k (by simp [hk])) (hj4 u hu)
  have IT:∀u,((F j).run τ).out u→(F i).run (τ.ap u)=(F i).run τ∧(F i).tr (τ.ap u)=(F i).tr τ:=by
   intro u hu
   obtain⟨_,_,h3,_⟩:=hIH u hu
   have ajk:=h3 ⟨j,(F j).tr τ,((F j).run τ).dom⟩ (by simp) (aeg j (by simp))
   simp only [indep,ZA9] at ajk
   have hag:agree ((F i).tr (τ.ap u)) (τ.ap u) τ:=afn fun p hp hm=>FL ajk.1.1 (Rs.FK hu p hp) hm rfl
   have:=Q.loc (F i) hag
   exact⟨this.1.symm,this.2.symm⟩
  obtain⟨e1,e2⟩:=IT u0 hu0
  obtain⟨g1,g2,g3,g4⟩:=hIH u0 hu0
  rw [e1] at g1 g2
  rw [e1,e2] at g3
  have ad7:=g3 ⟨j,(F j).tr τ,((F j).run τ).dom⟩ (by simp) (aeg j (by simp))
  simp only [indep,ZA9] at ad7
  refine⟨g1,g2,fun t ht ha=>g3 t (by simp [ht]) ha,fun v hv=>?_⟩
  have ale:agree ((F j).tr τ) τ (τ.ap v):=fun r hr=>(St.wa (fun p hp e=>FL ad7.2 (Rs.FK hv p hp) hr e)).symm
  have hj:=Q.loc (F j) ale
  refine⟨by rw [hj.1,hj.2];exact hj1,by rw [hj.1];exact yF,by rw [hj.1];exact hj3,fun u hu=>?_⟩
  rw [hj.1] at hu
  obtain⟨f1,f2⟩:=IT u hu
  obtain⟨_,_,_,k4⟩:=hIH u hu
  have:=k4 v (by rw [f1];exact hv)
  rw [St.agl (u:=u) (v:=v) (fun p hp q hq=>FL ad7.1.2 (Rs.FK hu p hp) (Rs.FK hv q hq))] at this
  rw [hj.1,hj.2]
  exact this
def OpS (P:Program) (N:Nat) (ops:Array Oper) (o:Oper) (q:Q Rs):Prop:=
 ∀c τ a w,Rel N c τ a w→(q.run τ).pre→∀(K:Act→World→Prop) (Q':Exit→Act→World→Prop),
  (∀u a' w',(q.run τ).out u→Rel N c (τ.ap u) a' w'→K a' w')→if Region.wanted o (yielded ops a.tmps)=true then o.wp P a w K Q' else K (a.put o.dst undef) w
section
variable {P:Program}{N:Nat}{ops:Array Oper}{F:Nat→Q Rs}
def xt (o:Oper):List Nat:=(o.after.toList.filter (Region.binds .any)).map (·.on)
def zJ (listed:Array Bool) (i:Nat):Prop:=listed.getD i false=true
def rest (n:Nat) (listed:Array Bool):List Nat:=(List.range n).filter fun i=> !listed.getD i true
def closed (ops:Array Oper) (listed:Array Bool):Prop:=∀i o,ops[i]?=some o→zJ listed i→∀p∈xt o,zJ listed p
structure Anc (ops:Array Oper) (nc:Nat→Nat→Bool):Prop where
 lt:∀i o,ops[i]?=some o→∀p∈xt o,p<i
 step:∀i o,ops[i]?=some o→∀j,nc i j=true→∃k∈xt o,k=j∨nc k j=true
theorem aij {nc:Nat→Nat→Bool}(h:Anc ops nc) {listed:Array Bool}(hc:closed ops listed):∀(i:Nat) (o:Oper),ops[i]?=some o→(∀p∈xt o,zJ listed p)→
  ∀j,nc i j=true→zJ listed j:=by
 intro i
 induction i using Nat.strongRecOn with
 |_ i ih=>
  intro o ho hp j ht
  obtain⟨k,hk,rfl |htk⟩:=h.step i o ho j ht
  ·exact hp k hk
  ·have hki:=h.lt i o ho k hk
   have hi:i<ops.size:=(ZF1.1 ho).1
   have cG:ops[k]?=some ops[k]:=ZF9 (by omega)
   exact ih k hki _ cG (hc k _ cG (hp k hk)) j htk
theorem mem_ready {listed:Array Bool}{i:Nat}:i∈Region.ready .any ops listed↔i∈rest ops.size listed∧∀o,ops[i]?=some o→∀p∈xt o,zJ listed p:=by
 simp only [Region.ready,rest,ZF4,ZE2,ZA9]
 constructor
 ·rintro⟨hi,hl,ha⟩
  refine⟨⟨hi,hl⟩,fun o ho p hp=>?_⟩
  rw [ho] at ha
  simp only [Option.map_some,ZA2] at ha
  obtain⟨e,he,rfl⟩:=List.mem_map.1 hp
  rw [ZF4] at he
  have:=Array.all_eq_true_iff_forall_mem.1 ha e (by simpa using he.1)
  simp only [Bool.or_eq_true,he.2,Bool.not_true] at this
  simpa [zJ] using this
 ·rintro⟨⟨hi,hl⟩,ha⟩
  refine⟨hi,hl,?_⟩
  have ho:ops[i]?=some ops[i]:=ZF9 hi
  rw [ho]
  simp only [Option.map_some,ZA2]
  rw [Array.all_eq_true_iff_forall_mem]
  intro e he
  cases hb:Region.binds .any e with
  |false=>simp
  |true=>
   have:=ha _ ho e.on (List.mem_map.2 ⟨e,by rw [ZF4];exact⟨by simpa using he,hb⟩,rfl⟩)
   simpa [zJ] using this
theorem VF {n:Nat}{listed:Array Bool}{i:Nat}(hs:listed.size=n) (hi:i∈rest n listed):
  ∃pre post,rest n listed=pre++i::post∧rest n (listed.setIfInBounds i true)=pre++post∧∀j∈pre,j<i:=by
 obtain⟨pre,post,he⟩:=List.append_of_mem hi
 have hp:(rest n listed).Pairwise (· < ·):=List.Pairwise.filter _ List.pairwise_lt_range
 have hpp:=hp
 rw [he] at hp
 have cm:i<n:=by simp only [rest,ZF4,ZE2] at hi;exact hi.1
 obtain⟨h1,h2,h3⟩:=List.pairwise_append.1 hp
 refine⟨pre,post,he,?_,fun j hj=>h3 j hj i (by simp)⟩
 have e1:rest n (listed.setIfInBounds i true)=(rest n listed).filter (fun j=> !Nat.beq j i):=by
  simp only [rest,List.filter_filter]
  refine List.filter_congr fun j hj=>?_
  by_cases hji:j=i
  ·subst hji
   simp [Array.getD,hs,cm]
  ·have hb:Nat.beq j i=false:=by rw [←Bool.not_eq_true];simpa using hji
   rw [hb]
   simp only [Bool.not_false,Bool.true_and]
   have:(listed.setIfInBounds i true).getD j true=listed.getD j true:=by
    rw [ZE8,ZE8,Array.getElem?_setIfInBounds_ne (fun h=>hji h.symm)]
   rw [this]
 rw [e1,he,List.filter_append,List.filter_cons]
 have hb:Nat.beq i i=true:=by simp
 rw [hb]
 simp only [Bool.not_true,Bool.false_eq_true,if_false]
 congr 1
 ·rw [List.filter_eq_self]
  intro j hj
  have:=h3 j hj i (by simp)
  have fy:Nat.beq j i=false:=by rw [←Bool.not_eq_true];simp;omega
  simp [fy]
 ·rw [List.filter_eq_self]
  intro j hj
  have:=(List.pairwise_cons.1 h2).1 j hj
  have fy:Nat.beq j i=false:=by rw [←Bool.not_eq_true];simp;omega
  simp [fy]
theorem ab7 {nc:Nat→Nat→Bool}(h:∀i o,ops[i]?=some o→OpS P N ops o (F i)) (hA:Anc ops nc) {Q':Exit→Act→World→Prop}{c:Ctx}{K:St→Prop}
  (hQ:∀τ a w,K τ→Rel N c τ a w→Q' .normal a w):∀(fuel:Nat) (listed:Array Bool) (τ:St) (a:Act) (w:World),
   (rest ops.size listed).length=fuel→listed.size=ops.size→closed ops listed→aL F nc (rest ops.size listed) [] τ K→Rel N c τ a w→wpAny P .any ops Q' fuel listed a w:=by
 intro fuel
 induction fuel with
 |zero=>
  intro listed τ a w hlen _ _ hk hr
  have afY:rest ops.size listed=[]:=ZD4.1 hlen
  refine⟨?_,?_⟩
  ·rw [List.eq_nil_iff_forall_not_mem]
   intro i hi
   have:=(mem_ready.1 hi).1
   rw [afY] at this
   cases this
  ·rw [afY] at hk
   exact hQ τ a w hk hr
 |succ fuel ih=>
  intro listed τ a w hlen hs hcl hk hr
  refine⟨fun afY=>?_,fun i hi=>?_⟩
  ·
   exfalso
   cases hl:rest ops.size listed with
   |nil=>rw [hl] at hlen;simp at hlen
   |cons i l=>
    have yE:i∈rest ops.size listed:=by rw [hl];simp
    have cm:i<ops.size:=by simp only [rest,ZF4,ZE2] at yE;exact yE.1
    have ho:ops[i]?=some ops[i]:=ZF9 cm
    have ad0:i∈Region.ready .any ops listed:=by
     refine mem_ready.2 ⟨yE,fun o ho' p hp=>?_⟩
     rw [ho] at ho';cases ho'
     have hpi:=hA.lt i _ ho p hp
     have hpw:(rest ops.size listed).Pairwise (· < ·):=List.Pairwise.filter _ List.pairwise_lt_range
     have afX:p∉rest ops.size listed:=by
      intro hm
      rw [hl] at hm hpw
      rcases ZB8.1 hm with rfl |hm
      ·omega
      ·have:=(List.pairwise_cons.1 hpw).1 p hm;omega
     have hpn:p<listed.size:=by omega
     have:listed.getD p true=true:=by
      cases hb:listed.getD p true with
      |true=>rfl
      |false=>exact absurd (by simp only [rest,ZF4,ZE2];exact⟨by omega,by rw [hb];rfl⟩) afX
     unfold zJ
     simp only [Array.getD,hpn,dif_pos] at this ⊢
     exact this
    rw [afY] at ad0
    cases ad0
  ·have hm:=mem_ready.1 hi
   obtain⟨pre,post,he,he',bU⟩:=VF hs hm.1
   have cm:i<ops.size:=by have:=hm.1;simp only [rest,ZF4,ZE2] at this;exact this.1
   have ho:ops[i]?=some ops[i]:=ZF9 cm
   have hp:=hm.2 _ ho
   have aeg:∀j∈pre,nc i j=false:=by
    intro j hj
    cases ht:nc i j with
    |false=>rfl
    |true=>
     exfalso
     have CR:=aij hA hcl i _ ho hp j ht
     have hmj:j∈rest ops.size listed:=by rw [he];simp [hj]
     simp only [rest,ZF4,ZE2] at hmj
     have hjn:j<listed.size:=by omega
     have e2:=hmj.2
     unfold zJ at CR
     simp only [Array.getD,hjn,dif_pos] at e2 CR
     rw [CR] at e2
     cases e2
   rw [he] at hk
   obtain⟨ahE,_,_,hK⟩:=afo pre [] τ aeg hk
   have aji:(rest ops.size (listed.setIfInBounds i true)).length=fuel:=by
    rw [he'];rw [he] at hlen;simp at hlen ⊢;omega
   have ak8:closed ops (listed.setIfInBounds i true):=by
    have up:∀p,zJ listed p→zJ (listed.setIfInBounds i true) p:=by
     intro p hp
     unfold zJ at hp ⊢
     rw [ZE8] at hp ⊢
     by_cases e:i=p
     ·subst e
      simp [hs,cm]
     ·rw [Array.getElem?_setIfInBounds_ne e]
      exact hp
    intro k o hk af0 p hpp
    by_cases e:i=k
    ·subst e
     rw [ho] at hk;cases hk
     exact up p (hp p hpp)
    ·refine up p (hcl k o hk ?_ p hpp)
     unfold zJ at af0 ⊢
     rw [ZE8] at af0 ⊢
     rw [Array.getElem?_setIfInBounds_ne e] at af0
     exact af0
   refine wpOp_step ho fun K' hK'=>?_
   exact h i _ ho c τ a w hr ahE K' Q' fun u a' w' hu uG=>hK' _ _ (ih _ _ a' w' aji (by simpa using hs) ak8 (by rw [he'];exact hK u hu) uG)
def aT (F:Nat→Q Rs):List Nat→St→(St→Prop)→Prop
 |[],τ,K=>K τ
 |i::l,τ,K=>((F i).run τ).pre∧∀u,((F i).run τ).out u→aT F l (τ.ap u) K
theorem UO (h:∀i o,ops[i]?=some o→OpS P N ops o (F i)) {Q':Exit→Act→World→Prop}{c:Ctx}{K:St→Prop}
  (hQ:∀τ a w,K τ→Rel N c τ a w→Q' .normal a w):∀(l:List Nat) (τ:St) (a:Act) (w:World),(∀i∈l,i<ops.size)→aT F l τ K→Rel N c τ a w→wpOps P ops Q' l a w:=by
 intro l
 induction l with
 |nil=>intro τ a w _ hk hr;exact hQ τ a w hk hr
 |cons i l ih=>
  intro τ a w hl hk hr
  obtain⟨hp,hK⟩:=hk
  have hi:i<ops.size:=hl i (by simp)
  have ho:ops[i]?=some ops[i]:=ZF9 hi
  rw [wpOps_cons]
  refine wpOp_step ho fun K' hK'=>?_
  exact h i _ ho c τ a w hr hp K' Q' fun u a' w' hu uG=>hK' _ _ (ih _ a' w' (fun k hk=>hl k (by simp [hk])) (hK u hu) uG)
theorem QW (n:Nat):rest n (Array.replicate n false)=List.range n:=by
 unfold rest
 rw [List.filter_eq_self]
 intro i hi
 have:i<n:=by simpa using hi
 simp [Array.getD,this]
end
end GL
end Go.Proofs.YtclcgjhhehbdeaaGreatDoor
