/- A drawn law returns true for every code (its row lists package variables, tied by the card): part 5. -/
import Derived.Laws.Concat
import Derived.Laws.Strings
import Derived.Laws.StructEq
import Derived.WalkLawsBesides
import Derived.Test.YtclcgjhhehbdeaaGreatDoorPad
set_option maxHeartbeats 20000000
set_option maxRecDepth 100000
set_option linter.all false
namespace Go.Proofs.YtclcgjhhehbdeaaGreatDoor
namespace GL
def r5 (T:bb) (β:Nat→Nat):List AV→List Value→Prop
 |[],[]=>True
 |x::l,y::r=>x.rel T β y∧r5 T β l r
 |_,_=>False
theorem GV {T:bb}{β:Nat→Nat}:∀{l:List AV}{cs:List Value},r5 T β l cs→l.length=cs.length
 |[],[],_=>rfl
 |_::_,[],h=>h.elim
 |[],_::_,h=>h.elim
 |_::l,_::cs,h=>by simp [GV h.2]
theorem N3 {T:bb}{β:Nat→Nat}:∀{l:List AV}{cs:List Value},r5 T β l cs→∀{i:Nat}{x:AV},l[i]?=some x→∃v,cs[i]?=some v∧x.rel T β v
 |[],[],_,i,x,hx=>by simp at hx
 |_::_,[],h,_,_,_=>h.elim
 |[],_::_,h,_,_,_=>h.elim
 |y::l,v::cs,h,i,x,hx=>by
  cases i with
  |zero=>simp at hx;subst hx;exact⟨v,by simp,h.1⟩
  |succ i=>simpa using N3 h.2 (by simpa using hx)
structure UJ (T:bb):Prop where
 no:∀b ek n cs,T b≠some (.fz ek n cs)
 oR:X9 T
structure aat (W:World) (T:bb) (β:Nat→Nat) (bs:List AV):Prop where
 D7:bs.length≤1000
 at_:∀i av,bs[i]?=some av→av≠.zz∧(∃n,T (β i)=some (.bx n))∧(∃cs e,W.heap[β i]?=some (.cells cs e (0,0))∧av.rQ T β cs)∧∀j∈av.boxes,j<bs.length
 inj:∀i j,i<bs.length→j<bs.length→β i=β j→i=j
structure KI (W:World) (k:Nat) (mv:Bool) (β:Nat→Nat) (T':bb) (β':Nat→Nat) (w':World) (os:List AV):Prop where
 len:k≤os.length
 same:∀i,i<k→β' i=β i
 at_:∀i av,os[i]?=some av→av≠.zz→(∃n,T' (β' i)=some (.bx n))∧(k≤i→W.heap.size≤β' i∨(mv=true∧∃j,j<k∧β' i=β j))∧(∃cs e,w'.heap[β' i]?=some (.cells cs e (0,0))∧av.rQ T' β' cs)∧(∀j∈av.boxes,j<os.length)∧av.n0=true
 inj:∀i j av av',os[i]?=some av→av≠.zz→os[j]?=some av'→av'≠.zz→β' i=β' j→i=j
structure aau (W:World) (T:bb) (β:Nat→Nat) (k:Nat) (T':bb) (w':World):Prop where
 typed:WT T' w'
 aiO:UJ T'
 new:∀b,b<W.heap.size→T' b=T b
 frame:∀b,b<W.heap.size→(∀i,i<k→b≠β i)→quiet (T b)→w'.heap[b]?=W.heap[b]?
 gb:W.heap.size≤w'.heap.size
 os:w'.os=W.os
 tape:w'.tape=W.tape
 output:w'.output=W.output
def TC (P:Program) (f:FuncId) (mv:Bool) (args bs:List AV) (post:AV→List AV→Prop):Prop:=
 ∀(W:World) (T:bb) (β:Nat→Nat) (vs:List Value),WT T W→UJ T→r5 T β args vs→(∀av∈args,∀i∈av.boxes,i<bs.length)→aat W T β bs→
  Calls P f vs.toArray W fun e w'=>∃v r os T' β',e= .returned v∧post r os∧r.rel T' β' v∧((∀i∈r.boxes,i<os.length)∧r.n0=true)∧aau W T β bs.length T' w'∧KI W bs.length mv β T' β' w' os
theorem TC.mono {P:Program}{f:FuncId}{mv:Bool}{args bs:List AV}{post zp:AV→List AV→Prop}(h:TC P f mv args bs post) (hp:∀r os,post r os→zp r os):TC P f mv args bs zp:=by
 intro W T β vs h1 h2 h3 h4 h5
 exact (h W T β vs h1 h2 h3 h4 h5).mono fun e w' ⟨v,r,os,T',β',e1,e2,e3⟩=>⟨v,r,os,T',β',e1,hp _ _ e2,e3⟩
def T3:Nat→List AV→AJ
 |_,[]=>[]
 |i,av::l=>(.s i,av)::T3 (i+1) l
def D9:Nat→List AV→AJ
 |_,[]=>[]
 |i,av::l=>(.b i,av)::D9 (i+1) l
def DT:St:=fun _=>none
def entry (args bs:List AV):St:=DT.ap (T3 0 args++D9 0 bs)
theorem M3 {av:AV}{r:fI}:∀{l:List AV}{i:Nat},(r,av)∈T3 i l→∃j,r= .s (i+j)∧l[j]?=some av
 |[],_,h=>by cases h
 |x::l,i,h=>by
  rcases ZB8.1 h with h |h
  ·cases h;exact⟨0,rfl,by simp⟩
  ·obtain⟨j,hj,hl⟩:=M3 h
   exact⟨j+1,by rw [hj];congr 1;omega,by simpa using hl⟩
theorem M4 {av:AV}{r:fI}:∀{l:List AV}{i:Nat},(r,av)∈D9 i l→∃j,r= .b (i+j)∧l[j]?=some av
 |[],_,h=>by cases h
 |x::l,i,h=>by
  rcases ZB8.1 h with h |h
  ·cases h;exact⟨0,rfl,by simp⟩
  ·obtain⟨j,hj,hl⟩:=M4 h
   exact⟨j+1,by rw [hj];congr 1;omega,by simpa using hl⟩
theorem M5:∀{l:List AV}{i j:Nat}{av:AV},l[j]?=some av→(.b (i+j),av)∈D9 i l
 |[],_,j,av,h=>by simp at h
 |x::l,i,0,av,h=>by simp at h;subst h;simp [D9]
 |x::l,i,j+1,av,h=>by
  have:=M5 (i:=i+1) (j:=j) (l:=l) (av:=av) (by simpa using h)
  simp only [D9,ZB8]
  right
  have e:i+1+j=i+(j+1):=by omega
  rwa [e] at this
theorem jz {args bs:List AV}{r:fI}{av:AV}(h:entry args bs r=some av):(∃j,r= .s j∧args[j]?=some av)∨∃j,r= .b j∧bs[j]?=some av:=by
 unfold entry at h
 rcases St.AI (τ:=DT) (u:=T3 0 args++D9 0 bs) (r:=r) with ⟨v,hv,hm⟩ |⟨hv,_⟩
 ·rw [h] at hv;cases hv
  rcases ZB4.1 hm with hm |hm
  ·obtain⟨j,hj,hl⟩:=M3 hm;exact .inl ⟨j,by simpa using hj,hl⟩
  ·obtain⟨j,hj,hl⟩:=M4 hm;exact .inr ⟨j,by simpa using hj,hl⟩
 ·rw [h] at hv;cases hv
theorem wX {args bs:List AV}{i:Nat}(h:i<bs.length):entry args bs (.b i)≠none:=by
 intro hn
 unfold entry at hn
 rcases St.AI (τ:=DT) (u:=T3 0 args++D9 0 bs) (r:=.b i) with ⟨v,hv,_⟩ |⟨_,uu⟩
 ·rw [hn] at hv;cases hv
 ·refine uu (.b i,bs[i]) ?_ rfl
  refine List.mem_append_right _ ?_
  have:=M5 (l:=bs) (i:=0) (j:=i) (ZB1 h)
  simpa using this
def cD:Nat→Nat→List Nat
 |_,0=>[]
 |i,n+1=>i::cD (i+1) n
theorem fX {j:Nat}:∀{n i:Nat},j∈cD i n↔i≤j∧j<i+n
 |0,i=>by simp [cD]<;>omega
 |n+1,i=>by simp only [cD,ZB8,fX (n:=n)];omega
theorem kF:∀(n i:Nat),(cD i n).length=n
 |0,_=>rfl
 |n+1,i=>by simp [cD,kF n]
theorem jL:∀(n i j:Nat),j<n→(cD i n)[j]?=some (i+j)
 |0,_,_,h=>by omega
 |n+1,i,0,_=>by simp [cD]
 |n+1,i,j+1,h=>by
  simp only [cD,List.getElem?_cons_succ]
  rw [jL n (i+1) j (by omega)]
  congr 1;omega
def isLive (τ:St) (i:Nat):Bool:=match τ (.b i) with
 |none=>false
 |some .zz=>false
 |some _=>true
theorem tG {τ:St}{i:Nat}:isLive τ i=true↔live τ i:=by
 unfold isLive live
 cases τ (.b i) with
 |none=>simp
 |some av=>cases av<;>simp
def idxOf:List Nat→Nat→Nat
 |[],_=>0
 |x::l,i=>bif Nat.beq x i then 0 else idxOf l i+1
theorem sw:∀{l:List Nat}{i:Nat},i∈l→l[idxOf l i]?=some i∧idxOf l i<l.length
 |[],_,h=>by cases h
 |x::l,i,h=>by
  simp only [idxOf]
  cases hb:Nat.beq x i with
  |true=>
   have:x=i:=by simpa using hb
   subst this;simp
  |false=>
   have fy:x≠i:=by intro e;subst e;simp at hb
   have hm:i∈l:=by
    rcases ZB8.1 h with e |h
    ·exact absurd e.symm fy
    ·exact h
   have h:=sw hm
   exact⟨by simpa using h.1,by simpa using h.2⟩
def acR (τ:St) (own:List Nat) (i:Nat):Option (Prop×AV):=
 match τ (.b i) with
 |some (.o (.a l))=>match xL τ own l with
  |some (p,m)=>some (p,.o (.a m))
  |none=>none
 |some (.rs ek l)=>some (True,.rs ek l)
 |_=>some (True,.zz)
def agz (τ:St) (own gone:List Nat) (i:Nat):Option (Prop×AV):=bif ix gone i then some (True,.zz) else acR τ own i
def acS (V:Nat→Option (Prop×AV)) (g:Nat→Nat):List Nat→Option (Prop×List AV)
 |[]=>some (True,[])
 |i::l=>match V i,acS V g l with
  |some (p,x),some (q,m)=>some (p∧q,x.lr g::m)
  |_,_=>none
def nodupB:List Nat→Bool
 |[]=>true
 |i::l=> !(ix l i)&&nodupB l
def HB (τ:St) (k:Nat) (ex dr:List Nat):List Nat:=(cD 0 k).filter (fun i=>isLive τ i&& !(ix dr i))++ex
def nameOut (k:Nat) (ex:List Nat) (i:Nat):Nat:=bif ix ex i then k+idxOf ex i else i
def af8 (τ:St) (k:Nat) (mv:Bool) (i:Nat):Bool:=isLive τ i&&(mv||(Nat.ble 1000 i&&(Nat.blt i 1000000000||(cD 0 k).all (isLive τ))))
def aha (sh:TypeId→Option (Bool×Nat)) (τ:St) (rs:List ResultVar) (k:Nat) (mv:Bool) (ex dr:List Nat):Option (Prop×AV×List AV):=
 match afu sh τ rs with
 |none=>none
 |some r0=>match xM τ (HB τ k ex dr) r0,acS (agz τ (HB τ k ex dr) (ex++dr)) (nameOut k ex) (cD 0 k),acS (acR τ (HB τ k ex dr)) (nameOut k ex) ex with
  |some (p,r),some (q,os),some (q',os')=>bif (ex.all (af8 τ k mv))&&(nodupB ex&&Nat.ble k 1000) then some ((p∧q)∧q',r.lr (nameOut k ex),os++os') else none
  |_,_,_=>none
def endQ (sh:TypeId→Option (Bool×Nat)) (rs:List ResultVar) (k:Nat) (mv:Bool) (post:AV→List AV→Prop):oX:=fun e τ=>
 match e with
 |.normal |.ret=>∃ex dr p r os,aha sh τ rs k mv ex dr=some (p,r,os)∧p∧post r os
 |_=>False
theorem tq:∀{l:List Nat},nodupB l=true→∀(i j:Nat) (x:Nat),l[i]?=some x→l[j]?=some x→i=j
 |[],_,i,j,x,h,_=>by simp at h
 |y::l,h,i,j,x,h1,h2=>by
  simp only [nodupB,ZA9,ZF8] at h
  have hn:y∉l:=fun hm=>by rw [fx.2 hm] at h;exact absurd h.1 (by simp)
  cases i with
  |zero=>
   cases j with
   |zero=>rfl
   |succ j=>
    simp at h1 h2;subst h1
    exact absurd (ZB6 h2) hn
  |succ i=>
   cases j with
   |zero=>
    simp at h1 h2;subst h2
    exact absurd (ZB6 h1) hn
   |succ j=>
    simp at h1 h2
    rw [tq h.2 i j x h1 h2]
section
variable {N:Nat}{c:Ctx}{T:bb}{β:Nat→Nat}{τ:St}{a:Act}{w:World}{own:List Nat}
theorem zt (hh:Holds N c T β τ a w) (nX:∀i∈own,τ (.b i)≠none→live τ i) {i:Nat}{p:Prop}{x:AV}(h:acR τ own i=some (p,x)) (hp:p) (hz:x≠.zz):
  ∃cs e,w.heap[β i]?=some (.cells cs e (0,0))∧x.rQ (sC T β τ c.W w own) β cs∧((∀j∈x.boxes,j∈own)∧x.n0=true)∧live τ i:=by
 unfold acR at h
 split at h
 ·rename_i l hb
  split at h
  ·rename_i p1 m hs
   cases h
   obtain⟨cs,e,h1,h2⟩:=hh.boxes i _ hb (by intro e;cases e)
   have:=xK hh nX hs hp (fun j hj=>hh.named (.b i) _ hb j hj) h2
   exact⟨cs,e,h1,this.1,⟨this.2,uR hs⟩,eC hb (by intro e;cases e)⟩
  ·cases h
 ·rename_i ek l hb
  cases h
  obtain⟨cs,e,h1,h2⟩:=hh.boxes i _ hb (by intro e;cases e)
  exact⟨cs,e,h1,h2,⟨by simp [AV.boxes],rfl⟩,eC hb (by intro e;cases e)⟩
 ·cases h;exact absurd rfl hz
theorem OF {V:Nat→Option (Prop×AV)}{g:Nat→Nat}:∀{l:List Nat}{p:Prop}{os:List AV},acS V g l=some (p,os)→p→os.length=l.length∧∀(j:Nat) (av:AV),os[j]?=some av→∃(i:Nat) (x:AV) (q:Prop),l[j]?=some i∧V i=some (q,x)∧q∧av=x.lr g
 |[],p,os,h,_=>by cases h;exact⟨rfl,by simp⟩
 |i::l,p,os,h,hp=>by
  simp only [acS] at h
  split at h
  ·rename_i p1 x q1 m h1 h2
   cases h
   obtain⟨hl,xy⟩:=OF h2 hp.2
   refine⟨by simp [hl],fun j av hj=>?_⟩
   cases j with
   |zero=>simp at hj;exact⟨i,x,p1,by simp,h1,hp.1,hj.symm⟩
   |succ j=>simpa using xy j av (by simpa using hj)
  ·cases h
theorem E2 {g:Nat→Nat}{x:AV}(h:x.lr g≠.zz):x≠.zz:=fun e=>h (by subst e;rfl)
theorem af9 {W:World}(h:WT T w):WT (sC T β τ W w own) w:=by
 intro b k hb
 unfold sC at hb
 split at hb
 ·rename_i n hT
  have hn:=h b _ hT
  split at hb
  ·split at hb
   ·rename_i cs e fr hc;cases hb;exact hc
   ·cases hb;exact hn
  ·cases hb;exact hn
 ·obtain⟨k',hk',rfl⟩:=Option.map_eq_some_iff.1 hb
  have hk:=h b _ hk'
  cases k' with
  |ty ek n=>exact hk
  |ro cs e fr=>exact hk
  |ln cs e fr=>exact hk
  |fz ek n cs=>obtain⟨h1,e,fr,l,h2⟩:=hk;exact⟨h1,cs,e,fr,l,h2⟩
  |bx n=>exact hk
theorem ab0 {W:World}(hg:X9 T):UJ (sC T β τ W w own):=by
 refine⟨?_,fun g hm=>by obtain⟨cs,e,fr,h1,h2⟩:=hg g hm;exact⟨cs,e,fr,aab h1,h2⟩⟩
 intro b ek n cs hb
 unfold sC at hb
 split at hb
 ·split at hb
  ·split at hb<;>cases hb
  ·cases hb
 ·obtain⟨k',_,hk⟩:=Option.map_eq_some_iff.1 hb
  cases k'<;>cases hk
end
theorem tP {P:Program}{N:Nat}{sh:TypeId→Option (Bool×Nat)}(hsh:∀t x,sh t=some x→Sh P t=some x) {fn:Func}{args bs:List AV}{mv:Bool}{post:AV→List AV→Prop}{W:World}{T0:bb}{β0:Nat→Nat}(hnf:UJ T0) (ak4:bs.length≤1000)
  {τ:St} {a:Act} {w:World} (hr:Rel N ⟨W,T0,(cD 0 bs.length).map β0⟩ τ a w) (h:∃ex dr p r os,aha sh τ fn.results.toList bs.length mv ex dr=some (p,r,os)∧p∧post r os):
  ∃v,(results fn a.tmps).run P w= .ok v w∧∃r os T' β',post r os∧r.rel T' β' v∧((∀i∈r.boxes,i<os.length)∧r.n0=true)∧aau W T0 β0 bs.length T' w∧KI W bs.length mv β0 T' β' w os:=by
 obtain⟨T,β,hh⟩:=hr
 obtain⟨ex,dr,p,r,os,hX,hp,ajc⟩:=h
 unfold aha at hX
 split at hX
 ·cases hX
 ·rename_i r0 hr0
  split at hX
  ·rename_i p1 r1 q1 os1 q2 os2 hs ho1 ho2
   cases hc:(ex.all (af8 τ bs.length mv))&&(nodupB ex&&Nat.ble bs.length 1000) with
   |false=>rw [hc] at hX;cases hX
   |true=>
    rw [hc] at hX;cases hX
    simp only [ZA9] at hc
    obtain⟨hex,hnd,_⟩:=hc
    have agL:∀i,i<bs.length→live τ i→β i=β0 i:=fun i hi hl=>hh.handed i (β0 i) (by
     show ((cD 0 bs.length).map β0)[i]?=_
     rw [List.getElem?_map,jL _ _ _ hi];simp) hl
    have ahJ:∀b,b∈(cD 0 bs.length).map β0→∃j,j<bs.length∧b=β0 j:=fun b hm=>by
     obtain⟨j,hj,e⟩:=List.mem_map.1 hm
     exact⟨j,by have:=fX.1 hj;omega,e.symm⟩
    have ajn:∀i∈ex,live τ i:=by
     intro i hi
     have:=ZC8.1 hex i hi
     unfold af8 at this
     simp only [ZA9] at this
     exact tG.1 this.1
    have ak5:∀i∈ex,W.heap.size≤β i∨(mv=true∧∃j,j<bs.length∧β i=β0 j):=by
     intro i hi
     have hl:=ajn i hi
     have:=ZC8.1 hex i hi
     unfold af8 at this
     simp only [ZA9,Bool.or_eq_true] at this
     obtain⟨_,g1,g2,g3⟩:=hh.apart i hl
     rcases this.2 with hm |⟨h1,h2⟩
     ·rcases g3 with g3 |g3
      ·exact .inl g3
      ·exact .inr ⟨hm,ahJ _ g3⟩
     ·have h1':1000≤i:=zqNlb h1
      rcases h2 with h2 |h2
      ·exact .inl (g2 h1' (zqNlb h2))
      ·rcases g3 with g3 |g3
       ·exact .inl g3
       ·exfalso
        obtain⟨j,hj,e⟩:=ahJ _ g3
        have hlj:=tG.1 (ZC8.1 h2 j (fX.2 ⟨by omega,by omega⟩))
        rw [←agL j hj hlj] at e
        have:=hh.inj i j hl hlj e
        omega
    obtain⟨v,hv,hvr⟩:=acB hsh hh hr0
    have agK:∀i∈HB τ bs.length ex dr,(i∈ex∨(i∉ex∧i<bs.length))∧live τ i:=by
     intro i hi
     by_cases hm:i∈ex
     ·exact⟨.inl hm,ajn i hm⟩
     ·rcases ZB4.1 hi with hi |hi
      ·have h1:=ZF4.1 hi
       simp only [ZA9] at h1
       exact⟨.inr ⟨hm,by have:=fX.1 h1.1;omega⟩,tG.1 h1.2.1⟩
      ·exact absurd hi hm
    have nX:∀i∈HB τ bs.length ex dr,τ (.b i)≠none→live τ i:=fun i hi _=>(agK i hi).2
    have akP:∀i∈r0.boxes,τ (.b i)≠none:=by
     have k1:∀{x:ResultVar} {y:A0},VG sh τ x=some y→∀i∈y.boxes,τ (.b i)≠none:=by
      intro x y hy i hi
      cases x with
      |tmp t=>
       simp only [VG] at hy
       split at hy
       ·rename_i z hz;cases hy;exact hh.named (.s t) _ hz i hi
       ·cases hy
      |cell ad ty=>
       simp only [VG] at hy
       split at hy
       ·rename_i b _
        split at hy
        ·rename_i l hl
         split at hy
         ·rename_i n _
          cases hq:Nat.beq n l.length with
          |false=>rw [hq] at hy;cases hy
          |true=>rw [hq] at hy;cases hy;exact hh.named (.b b) _ hl i hi
         ·split at hy
          ·cases hy
           exact hh.named (.b b) _ hl i (by simpa [AV.boxes,A0.boxes,cc] using hi)
          ·cases hy
         ·cases hy
        ·cases hy
       ·cases hy
     have k2:∀{l:List ResultVar} {ys:List A0},N1 sh τ l=some ys→∀i∈eR ys,τ (.b i)≠none:=by
      intro l
      induction l with
      |nil=>intro ys h i hi;simp only [N1] at h;cases h;simp [eR] at hi
      |cons x l ih=>
       intro ys h i hi
       simp only [N1] at h
       split at h
       ·rename_i y ys' h1 h2
        cases h
        simp only [eR,ZB4] at hi
        rcases hi with hi |hi
        ·exact k1 h1 i hi
        ·exact ih h2 i hi
       ·cases h
     unfold afu at hr0
     split at hr0
     ·rename_i x hx
      cases hr0
      intro i hi
      exact k2 hx i (by simp only [eR,ZE5];exact hi)
     ·rename_i ys _ hx;cases hr0;exact k2 hx
     ·cases hr0
    obtain⟨c6,hrb⟩:=UX hh nX hs hp.1.1 akP hvr
    obtain⟨ad5,alc⟩:=OF ho1 hp.1.2
    obtain⟨ajh,alb⟩:=OF ho2 hp.2
    rw [kF] at ad5
    have hlen:(os1++os2).length=bs.length+ex.length:=by rw [ZA0,ad5,ajh]
    let β':Nat→Nat:=fun j=>if j<bs.length then β0 j else match ex[j-bs.length]? with
     |some i=>β i
     |none=>0
    have hβex:∀j i,ex[j]?=some i→β' (bs.length+j)=β i:=fun j i hj=>by
     show (if bs.length+j<bs.length then _ else _)=_
     rw [if_neg (by omega),Nat.add_sub_cancel_left,hj]
    have hβin:∀j,j<bs.length→live τ j→β' j=β j:=fun j hj hl=>by
     show (if j<bs.length then _ else _)=_
     rw [if_pos hj]
     exact (agL j hj hl).symm
    have hg:∀i∈HB τ bs.length ex dr,β' (nameOut bs.length ex i)=β i∧nameOut bs.length ex i<(os1++os2).length:=fun i hi=>by
     unfold nameOut
     obtain⟨h1,h2⟩:=agK i hi
     rcases h1 with h1 |⟨h1,h3⟩
     ·rw [fx.2 h1]
      have h4:=sw h1
      exact⟨hβex _ _ h4.1,by rw [hlen];show bs.length+_<_;omega⟩
     ·have:ix ex i=false:=by
       cases hm:ix ex i with
       |false=>rfl
       |true=>exact absurd (fx.1 hm) h1
      rw [this]
      exact⟨hβin i h3 h2,by rw [hlen];show i<_;omega⟩
    have uD:∀j av,(os1++os2)[j]?=some av→av≠.zz→∃(i:Nat) (x:AV) (q:Prop),acR τ (HB τ bs.length ex dr) i=some (q,x)∧q∧av=x.lr (nameOut bs.length ex)∧((j<bs.length∧i=j∧i∉ex∧i∈HB τ bs.length ex dr)∨(bs.length≤j∧ex[j-bs.length]?=some i)):=by
     intro j av hj hz
     by_cases hjk:j<bs.length
     ·rw [ZC2 (by omega)] at hj
      obtain⟨i,x,q,h1,h2,h3,h4⟩:=alc j av hj
      rw [jL _ _ _ hjk] at h1
      simp only [ZA6,Option.some.injEq] at h1
      subst h1
      unfold agz at h2
      cases hm:ix (ex++dr) j with
      |true=>rw [hm] at h2;cases h2;exact absurd (by rw [h4];rfl) hz
      |false=>
       rw [hm] at h2
       have hnm:∀l,l=ex∨l=dr→j∉l:=fun l hl cm=>by
        have:j∈ex++dr:=by
         rcases hl with rfl |rfl
         ·exact List.mem_append_left _ cm
         ·exact List.mem_append_right _ cm
        rw [fx.2 this] at hm;cases hm
       have hx0:x≠.zz:=fun e=>hz (by rw [h4,e];rfl)
       obtain⟨_,_,_,_,_,hl⟩:=zt hh nX h2 h3 hx0
       refine⟨j,x,q,h2,h3,h4,.inl ⟨hjk,rfl,hnm ex (.inl rfl),?_⟩⟩
       refine List.mem_append_left _ (ZF4.2 ⟨fX.2 ⟨by omega,by omega⟩,?_⟩)
       have:ix dr j=false:=by
        cases hm2:ix dr j with
        |false=>rfl
        |true=>exact absurd (fx.1 hm2) (hnm dr (.inr rfl))
       rw [tG.2 hl,this];rfl
     ·rw [ZC6 (by omega),ad5] at hj
      obtain⟨i,x,q,h1,h2,h3,h4⟩:=alb _ av hj
      exact⟨i,x,q,h2,h3,h4,.inr ⟨by omega,h1⟩⟩
    refine⟨v,hv,_,os1++os2,sC T β τ W w (HB τ bs.length ex dr),β',ajc,AV.ng (fun i hi=>(hg i (hrb i hi)).1) c6,⟨fun i hi=>?_,by rw [AV.nZ];exact QM hs⟩,?_,?_⟩
    ·obtain⟨j,hj,rfl⟩:=AV.gj hi
     exact (hg j (hrb j hj)).2
    ·exact {
      typed:=af9 hh.typed
      aiO:=ab0 hh.oR
      new:=fun b hb=>by
       have h1:(T b).map BK.un=T0 b:=hh.old b hb
       unfold sC
       split
       ·rename_i n hT
        rw [if_neg (fun h=>by have:=h.1;omega)]
        rw [hT] at h1;exact h1
       ·exact h1
      frame:=fun b hb fy hq=>hh.frame b hb (fun hm=>by
       obtain⟨i,hi,e⟩:=ahJ b hm
       exact fy i hi e) hq
      gb:=hh.gb
      os:=hh.os
      tape:=hh.tape
      output:=hh.output }
    ·refine {
      len:=by rw [hlen];omega
      same:=fun i hi=>if_pos hi
      at_:=fun j av hj hz=>?_
      inj:=fun j j' av av' hj hz CR hz' e=>?_ }
     ·obtain⟨i,x,q,hx,hq,rfl,sA⟩:=uD j av hj hz
      obtain⟨cs,e,h1,h2,⟨h3,af1⟩,hl⟩:=zt hh nX hx hq (E2 hz)
      have eβ:β' j=β i:=by
       rcases sA with ⟨h4,rfl,_⟩ |⟨h4,h5⟩
       ·exact hβin _ h4 hl
       ·have:=hβex _ _ h5
        rwa [show bs.length+(j-bs.length)=j by omega] at this
      have yE:i∈HB τ bs.length ex dr:=by
       rcases sA with ⟨_,_,_,h⟩ |⟨_,h⟩
       ·exact h
       ·exact List.mem_append_right _ (ZB6 h)
      obtain⟨⟨n,hn⟩,_⟩:=hh.apart i hl
      rw [eβ]
      refine⟨⟨n,T6 hn yE hl⟩,fun hk=>?_,⟨cs,e,h1,AV.FN (fun i hi=>(hg i (h3 i hi)).1) h2⟩,fun y hy=>?_,by rw [AV.nZ];exact af1⟩
      ·rcases sA with ⟨h4,_⟩ |⟨_,h5⟩
       ·omega
       ·exact ak5 i (ZB6 h5)
      ·obtain⟨y',hy',rfl⟩:=AV.gj hy
       exact (hg y' (h3 y' hy')).2
     ·obtain⟨i,x,q,hx,hq,rfl,sA⟩:=uD j av hj hz
      obtain⟨i',x',q',hx',hq',rfl,XC⟩:=uD j' av' CR hz'
      obtain⟨_,_,_,_,_,hl⟩:=zt hh nX hx hq (E2 hz)
      obtain⟨_,_,_,_,_,hl'⟩:=zt hh nX hx' hq' (E2 hz')
      have eβ:∀(j i:Nat),live τ i→((j<bs.length∧i=j∧i∉ex∧i∈HB τ bs.length ex dr)∨(bs.length≤j∧ex[j-bs.length]?=some i))→β' j=β i:=by
       intro j i hl sA
       rcases sA with ⟨h4,rfl,_⟩ |⟨h4,h5⟩
       ·exact hβin _ h4 hl
       ·have:=hβex _ _ h5
        rwa [show bs.length+(j-bs.length)=j by omega] at this
      rw [eβ j i hl sA,eβ j' i' hl' XC] at e
      have eii:=hh.inj i i' hl hl' e
      subst eii
      rcases sA with ⟨h1,h2,h3,_⟩ |⟨h1,h2⟩
      ·rcases XC with ⟨_,h5,_⟩ |⟨_,h5⟩
       ·omega
       ·exact absurd (ZB6 h5) h3
      ·rcases XC with ⟨_,_,h5,_⟩ |⟨h4,h5⟩
       ·exact absurd (ZB6 h2) h5
       ·have:=tq hnd _ _ _ h2 h5
        omega
  ·cases hX
theorem TC.tm {P:Program}{N:Nat}{S:Sm}{sh:TypeId→Option (Bool×Nat)}{f:FuncId}{fn:Func}{cd:Code}{args bs:List AV}{mv:Bool}{post:AV→List AV→Prop}(hm:P.follows .mixedOrders=true) (hS:UI P N S) (hsh:∀t x,sh t=some x→Sh P t=some x)
  (hf:P.funcs[f]?=some fn) (hb:fn.body=some cd) (hN:fn.ntmps=N) (hlen:args.length≤N)
  (h:vc P N S cd (entry args bs) (endQ sh fn.results.toList bs.length mv post)):TC P f mv args bs post:=by
 intro W T β0 vs hT hnf c6 hbx qj
 refine calls_of_wp hf hb ?_
 have hvl:=GV c6
 let c:Ctx:=⟨W,T,(cD 0 bs.length).map β0⟩
 have hlb:∀i,live (entry args bs) i→i<bs.length:=fun i hi=>by
  obtain⟨av,hav⟩:=Option.ne_none_iff_exists'.1 (kA hi)
  rcases jz hav with ⟨j,e,_⟩ |⟨j,e,hj⟩
  ·cases e
  ·cases e;exact (ZB9.1 hj).1
 have ahO:Holds N c T β0 (entry args bs) { tmps:=vs.toArray++Array.replicate (fn.ntmps-vs.toArray.size) undef,defers:=[] } W:= {
  defs:=rfl
  size:=by simp;omega
  D7:=by show ((cD 0 bs.length).map β0).length≤1000;rw [ZG2,kF];exact qj.D7
  iH:=fun i av hi=>by
   rcases jz hi with ⟨j,e,hj⟩ |⟨j,e,_⟩
   ·cases e
    obtain⟨v,hv,hr⟩:=N3 c6 hj
    refine⟨v,?_,hr⟩
    have CS:i<vs.length:=(ZB9.1 hv).1
    rw [Array.getElem?_append_left (by simpa using CS)]
    simpa using hv
   ·cases e
  boxes:=fun i av hi hz=>by
   rcases jz hi with ⟨j,e,_⟩ |⟨j,e,hj⟩
   ·cases e
   ·cases e;exact (qj.at_ i av hj).2.2.1
  apart:=fun i hi=>by
   have bU:=hlb i hi
   obtain⟨_,h1,_⟩:=qj.at_ i _ (ZB1 bU)
   have cm:β0 i∈(cD 0 bs.length).map β0:=List.mem_map.2 ⟨i,fX.2 ⟨by omega,by omega⟩,rfl⟩
   exact⟨h1,fun _=>cm,fun h=>absurd qj.D7 (by omega),.inr cm⟩
  handed:=fun i b hb hi=>by
   have bU:=hlb i hi
   have hb':((cD 0 bs.length).map β0)[i]?=some b:=hb
   rw [List.getElem?_map,jL _ _ _ bU] at hb'
   simpa using hb'
  inj:=fun i j hi hj e=>qj.inj i j (hlb i hi) (hlb j hj) e
  named:=fun r av hr i hi=>by
   rcases jz hr with ⟨j,rfl,hj⟩ |⟨j,rfl,hj⟩
   ·exact wX (hbx av (ZB6 hj) i hi)
   ·exact wX ((qj.at_ j av hj).2.2.2 i hi)
  typed:=hT
  old:=fun b hb=>by
   show (T b).map BK.un=T b
   cases hk:T b with
   |none=>rfl
   |some k=>
    cases k with
    |fz ek n cs=>exact absurd hk (hnf.no b ek n cs)
    |_=>rfl
  frame:=fun _ _ _ _=>rfl
  gb:=ZB5 _
  os:=rfl
  tape:=rfl
  output:=rfl
  oR:=hnf.oR }
 refine Code.wp_mono ?_ (gn hm hS cd _ _ h c _ W ⟨T,_,ahO⟩)
 rintro e a w ⟨τ,hr,hq⟩
 have hd:a.defers=[]:=by obtain⟨_,_,hh⟩:=hr;exact hh.defs
 cases e with
 |normal=>
  obtain⟨v,hv,r,os,T',β',h1⟩:=tP (args:=args) hsh hnf qj.D7 hr hq
  exact⟨hd,v,hv,v,r,os,T',β',rfl,h1⟩
 |ret=>
  obtain⟨v,hv,r,os,T',β',h1⟩:=tP (args:=args) hsh hnf qj.D7 hr hq
  exact⟨hd,v,hv,v,r,os,T',β',rfl,h1⟩
 |_=>exact hq.elim
end GL
namespace GL
inductive V1 where
 |no
 |go (v:AV)
 |mV (p:Prop) (v:AV)
def V1.rs (d:Nat):V1→Rs
 |.no=>.no
 |.go v=>.go [(.s d,v)]
 |.mV p v=>.mV p [(.s d,v)]
def V1.vB:V1→AV→Prop
 |.no,_=>False
 |.go v,r=>r=v
 |.mV p v,r=>p∧r=v
def ev (τ:St):Operand→Option AV
 |.tmp t=>τ (.s t)
 |.const v=>some (.s (.v v))
 |.func f=>some (.fn f [])
 |.global g=>some (.s (.v (.pointer (some ⟨g,0,none⟩))))
def bY (x:Operand) (k:AV→Q Rs):Q Rs:=
 match x with
 |.tmp t=>.ask (.s t) fun
  |some v=>k v
  |none=>.ret .no
 |.const v=>k (.s (.v v))
 |.func f=>k (.fn f [])
 |.global g=>k (.s (.v (.pointer (some ⟨g,0,none⟩))))
theorem c8 (τ:St) (x:Operand) (k:AV→Q Rs):(bY x k).run τ=match ev τ x with
  |some v=>(k v).run τ
  |none=>.no:=by
 cases x with
 |tmp t=>
  simp only [bY,Q.run,ev]
  cases τ (.s t)<;>rfl
 |_=>rfl
section
variable {P:Program}{N:Nat}{τ:St}
theorem eO {c:Ctx}{T:bb}{β:Nat→Nat}{a:Act}{w:World}(h:Holds N c T β τ a w) {x:Operand}{av:AV}(hx:ev τ x=some av):av.rel T β (a.eval x):=by
 cases x with
 |tmp t=>
  obtain⟨v,hv,hr⟩:=h.iH t av hx
  have:a.eval (.tmp t)=v:=by
   show a.tmps.getD t undef=v
   rw [ZE8,hv];rfl
  rw [this];exact hr
 |const v=>cases hx;rfl
 |func f=>cases hx;exact⟨#[],rfl,rfl⟩
 |global g=>cases hx;rfl
theorem gX {c:Ctx}{T:bb}{β:Nat→Nat}{a:Act}{w:World}(h:Holds N c T β τ a w) {x:Operand}{av:AV}(hx:ev τ x=some av):∀i∈av.boxes,τ (.b i)≠none:=by
 cases x with
 |tmp t=>exact h.named (.s t) av hx
 |const v=>cases hx;intro i hi;simp [AV.boxes,A0.boxes,SV.boxes] at hi
 |func f=>cases hx;intro i hi;simp [AV.boxes,jF] at hi
 |global g=>cases hx;intro i hi;simp [AV.boxes,A0.boxes,SV.boxes] at hi
def fu (P:Program) (N:Nat) (o:Oper) (q:Q Rs):Prop:=
 ∀c τ a w,Rel N c τ a w→(q.run τ).pre→∀(K:Act→World→Prop) (Q':Exit→Act→World→Prop),
  (∀u a' w',(q.run τ).out u→Rel N c (τ.ap u) a' w'→K a' w')→o.wp P a w K Q'
theorem V1.put {c:Ctx}{T:bb}{β:Nat→Nat}{a:Act}{w w':World}{r:V1}{d:Nat}(hh:Holds N c T β τ a w') (hd:d<N) (hp:(r.rs d).pre) {o:Oper}(ho:o.dst=some d) {K:Act→World→Prop}{Q':Exit→Act→World→Prop}
  (h:∀v,r.vB v→(∀i∈v.boxes,τ (.b i)≠none)∧∃val,(execOp a.eval o).run P w= .ok (.value val) w'∧v.rel T β val)
  (hK:∀u a' w',(r.rs d).out u→Rel N c (τ.ap u) a' w'→K a' w'):o.wp P a w K Q':=by
 have key:∀v,r.vB v→(r.rs d).out [(.s d,v)]→o.wp P a w K Q':=by
  intro v hv ho'
  obtain⟨h1,val,h2,h3⟩:=h v hv
  unfold Oper.wp
  rw [h2]
  show K (a.put o.dst val) w'
  rw [ho]
  exact hK _ _ _ ho' ⟨T,β,hh.put hd h3 h1⟩
 cases r with
 |no=>exact hp.elim
 |go v=>exact key v rfl rfl
 |mV p v=>exact key v ⟨hp,rfl⟩ rfl
theorem fu.um {o:Oper}{d:Nat}{x:Operand}{f:AV→V1}(ho:o.dst=some d) (hd:d<N)
  (h:∀c T β τ a w,Holds N c T β τ a w→∀v,v.rel T β (a.eval x)→∀r,(f v).vB r→(∀i∈r.boxes,i∈v.boxes)∧∃val,(execOp a.eval o).run P w= .ok (.value val) w∧r.rel T β val):
  fu P N o (bY x fun v=>.ret ((f v).rs d)):=by
 intro c τ a w hr hp K Q' hK
 obtain⟨T,β,hh⟩:=hr
 rw [c8] at hp hK
 cases hx:ev τ x with
 |none=>rw [hx] at hp;exact hp.elim
 |some v=>
  rw [hx] at hp hK
  refine V1.put hh hd hp ho (fun r hr=>?_) hK
  obtain⟨h1,h2⟩:=h c T β τ a w hh v (eO hh hx) r hr
  exact⟨fun i hi=>gX hh hx i (h1 i hi),h2⟩
theorem fu.DO {o:Oper}{d:Nat}{x y:Operand}{f:AV→AV→V1}(ho:o.dst=some d) (hd:d<N)
  (h:∀c T β τ a w,Holds N c T β τ a w→∀v u,v.rel T β (a.eval x)→u.rel T β (a.eval y)→∀r,(f v u).vB r→(∀i∈r.boxes,i∈v.boxes∨i∈u.boxes)∧∃val,(execOp a.eval o).run P w= .ok (.value val) w∧r.rel T β val):
  fu P N o (bY x fun v=>bY y fun u=>.ret ((f v u).rs d)):=by
 intro c τ a w hr hp K Q' hK
 obtain⟨T,β,hh⟩:=hr
 rw [c8] at hp hK
 cases hx:ev τ x with
 |none=>rw [hx] at hp;exact hp.elim
 |some v=>
  rw [hx] at hp hK
  simp only [c8] at hp hK
  cases hy:ev τ y with
  |none=>rw [hy] at hp;exact hp.elim
  |some u=>
   rw [hy] at hp hK
   refine V1.put hh hd hp ho (fun r hr=>?_) hK
   obtain⟨h1,h2⟩:=h c T β τ a w hh v u (eO hh hx) (eO hh hy) r hr
   refine⟨fun i hi=>?_,h2⟩
   rcases h1 i hi with h |h
   ·exact gX hh hx i h
   ·exact gX hh hy i h
theorem fu.aiJ {o:Oper}{d:Nat}{x y z:Operand}{f:AV→AV→AV→V1}(ho:o.dst=some d) (hd:d<N)
  (h:∀c T β τ a w,Holds N c T β τ a w→∀v u s,v.rel T β (a.eval x)→u.rel T β (a.eval y)→s.rel T β (a.eval z)→∀r,(f v u s).vB r→(∀i∈r.boxes,i∈v.boxes∨i∈u.boxes∨i∈s.boxes)∧∃val,(execOp a.eval o).run P w= .ok (.value val) w∧r.rel T β val):
  fu P N o (bY x fun v=>bY y fun u=>bY z fun s=>.ret ((f v u s).rs d)):=by
 intro c τ a w hr hp K Q' hK
 obtain⟨T,β,hh⟩:=hr
 rw [c8] at hp hK
 cases hx:ev τ x with
 |none=>rw [hx] at hp;exact hp.elim
 |some v=>
  rw [hx] at hp hK
  simp only [c8] at hp hK
  cases hy:ev τ y with
  |none=>rw [hy] at hp;exact hp.elim
  |some u=>
   rw [hy] at hp hK
   simp only [c8] at hp hK
   cases hz:ev τ z with
   |none=>rw [hz] at hp;exact hp.elim
   |some s=>
    rw [hz] at hp hK
    refine V1.put hh hd hp ho (fun r hr=>?_) hK
    obtain⟨h1,h2⟩:=h c T β τ a w hh v u s (eO hh hx) (eO hh hy) (eO hh hz) r hr
    refine⟨fun i hi=>?_,h2⟩
    rcases h1 i hi with h |h |h
    ·exact gX hh hx i h
    ·exact gX hh hy i h
    ·exact gX hh hz i h
variable {d:Nat}{x y z:Operand}{t t' ty:TypeId}{pos:String}{af:Array Edge}{g:Option (Nat×Bool)}
theorem nob (v:Value) (l:List Nat):∀i∈(AV.s (.v v)).boxes,i∈l:=fun i hi=>by simp [AV.boxes,A0.boxes,SV.boxes] at hi
theorem adm (v:Bool) (l:List Nat):∀i∈(AV.s (.q v)).boxes,i∈l:=fun i hi=>by simp [AV.boxes,A0.boxes,SV.boxes] at hi
theorem adn (v:Value) (l m:List Nat):∀i∈(AV.s (.v v)).boxes,i∈l∨i∈m:=fun i hi=>by simp [AV.boxes,A0.boxes,SV.boxes] at hi
theorem Y8 (v:Bool) (l m:List Nat):∀i∈(AV.s (.q v)).boxes,i∈l∨i∈m:=fun i hi=>by simp [AV.boxes,A0.boxes,SV.boxes] at hi
theorem ah3 (hd:d<N):fu P N ⟨some d,.move x,ty,pos,af,g⟩ (bY x fun v=>.ret ((V1.go v).rs d)):=
 fu.um rfl hd fun c T β τ a w hh v hv r hr=>by
  cases hr;exact⟨fun i hi=>hi,a.eval x,rfl,hv⟩
theorem afi (hd:d<N):fu P N ⟨some d,.assign x,ty,pos,af,g⟩ (bY x fun v=>.ret ((V1.go v).rs d)):=
 fu.um rfl hd fun c T β τ a w hh v hv r hr=>by
  cases hr;exact⟨fun i hi=>hi,a.eval x,rfl,hv⟩
def asB:AV→Option Bool
 |.o (.s (.q b))=>some b
 |.o (.s (.v (.bool b)))=>some b
 |_=>none
theorem AG {T:bb}{β:Nat→Nat}{v:AV}{b:Bool}(h:asB v=some b) {y:Value}(hr:v.rel T β y):y= .bool b:=by
 unfold asB at h
 split at h
 ·cases h;exact hr
 ·cases h;exact hr
 ·cases h
def acI (c x y:AV):V1:=
 match c with
 |.o (.s (.v (.bool true)))=>.go x
 |.o (.s (.v (.bool false)))=>.go y
 |.o (.s (.q b))=>match asB x,asB y with
  |some p,some q=>.go (.q (bif b then p else q))
  |_,_=>.no
 |_=>.no
theorem ah2 (hd:d<N):fu P N ⟨some d,.pick z x y,ty,pos,af,g⟩ (bY z fun v=>bY x fun u=>bY y fun s=>.ret ((acI v u s).rs d)):=
 fu.aiJ rfl hd fun c T β τ a w hh v u s hv hu hs r hr=>by
  unfold acI at hr
  split at hr
  ·cases hr
   have e:a.eval z= .bool true:=hv
   exact⟨fun i hi=>.inr (.inl hi),a.eval x,by simp [execOp,asBool,e],hu⟩
  ·cases hr
   have e:a.eval z= .bool false:=hv
   exact⟨fun i hi=>.inr (.inr hi),a.eval y,by simp [execOp,asBool,e],hs⟩
  ·rename_i b
   split at hr
   ·rename_i p q h1 h2
    cases hr
    have e:a.eval z= .bool b:=hv
    have e2:=AG h1 hu
    have e3:=AG h2 hs
    refine⟨fun i hi=>by simp [AV.boxes,A0.boxes,SV.boxes] at hi,.bool (bif b then p else q),?_,rfl⟩
    cases b<;>simp [execOp,asBool,e,e2,e3]
   ·exact hr.elim
  ·exact hr.elim
def ahr:AV→V1
 |.o (.s (.bp i o))=>.go (.s (.bp i o))
 |.o (.s (.xp i sz k j))=>.go (.s (.xp i sz k j))
 |.o (.s (.ep ek j))=>.go (.s (.ep ek j))
 |.o (.s (.vp ek x j))=>.go (.s (.vp ek x j))
 |.o (.s (.vs l j))=>.go (.s (.vs l j))
 |_=>.no
theorem ajO (hd:d<N):fu P N ⟨some d,.nilCheck x,ty,pos,af,g⟩ (bY x fun v=>.ret ((ahr v).rs d)):=
 fu.um rfl hd fun c T β τ a w hh v hv r hr=>by
  unfold ahr at hr
  split at hr
  ·rename_i i o
   cases hr
   have e:a.eval x= .pointer (some ⟨β i,o,none⟩):=hv
   exact⟨fun i hi=>hi,_,by simp [execOp,e],rfl⟩
  ·rename_i i sz k j
   cases hr
   obtain⟨e,hj⟩:=hv
   exact⟨fun i hi=>hi,_,by simp [execOp,e],rfl,hj⟩
  ·rename_i ek j
   cases hr
   obtain⟨b,o,n,e,h2⟩:=hv
   exact⟨fun i hi=>hi,_,by simp [execOp,e],b,o,n,rfl,h2⟩
  ·rename_i ek rec j
   cases hr
   obtain⟨b,o,cs,e,h2⟩:=hv
   exact⟨fun i hi=>hi,_,by simp [execOp,e],b,o,cs,rfl,h2⟩
  ·rename_i l j
   cases hr
   obtain⟨b,cs,e,h2⟩:=hv
   exact⟨fun i hi=>hi,_,by simp [execOp,e],b,cs,rfl,h2⟩
  ·exact hr.elim
abbrev gJ:Int:= -9223372036854775808
abbrev imax:Int:=9223372036854775807
theorem oM {n:Int}(h1:gJ≤n) (h2:n≤imax):IntKind.i64.wrap n=n:=IntWalk.i64_in n ⟨h1,h2⟩
theorem wrap_u8 {n:Int}(h1:0≤n) (h2:n≤255):IntKind.u8.wrap n=n:=by
 simp [IntKind.wrap,IntKind.signed,IntKind.bits]
 omega
def iop (op:BinOp) (x y:Int):V1:=
 match op with
 |.add=>.mV (gJ≤x+y∧x+y≤imax) (.int (x+y))
 |.sub=>.mV (gJ≤x-y∧x-y≤imax) (.int (x-y))
 |.mul=>.mV (gJ≤x*y∧x*y≤imax) (.int (x*y))
 |.quo=>.mV (0≤x∧0<y∧x≤imax) (.int (x / y))
 |.rem=>.mV (0≤x∧0<y) (.int (x % y))
 |.eql=>.go (.q (decide (x=y)))
 |.neq=>.go (.q (decide (x≠y)))
 |.lss=>.go (.q (decide (x<y)))
 |.leq=>.go (.q (decide (x≤y)))
 |.gtr=>.go (.q (decide (x>y)))
 |.geq=>.go (.q (decide (x≥y)))
 |.xor=>.mV (0≤x∧0≤y∧x≤imax∧y≤imax) (.int ((x.toNat ^^^ y.toNat:Nat):Int))
 |_=>.no
def uop (op:BinOp) (x y:Int):V1:=
 match op with
 |.add=>.mV (0≤x+y∧x+y≤255) (.byte (x+y))
 |.sub=>.mV (0≤x-y∧x-y≤255) (.byte (x-y))
 |.mul=>.mV (0≤x*y∧x*y≤255) (.byte (x*y))
 |.eql=>.go (.q (decide (x=y)))
 |.neq=>.go (.q (decide (x≠y)))
 |.lss=>.go (.q (decide (x<y)))
 |.leq=>.go (.q (decide (x≤y)))
 |.gtr=>.go (.q (decide (x>y)))
 |.geq=>.go (.q (decide (x≥y)))
 |_=>.no
def sop (op:BinOp) (x y:ByteArray):V1:=
 match op with
 |.add=>.mV (((x.size+y.size:Nat):Int)≤imax) (.str (x++y))
 |.eql=>.go (.q (decide (x=y)))
 |.neq=>.go (.q (decide (x≠y)))
 |.lss=>.go (.q (Op.bytesLess x.toList y.toList))
 |.gtr=>.go (.q (!(Op.bytesLess x.toList y.toList||x.toList==y.toList)))
 |.geq=>.go (.q (!(Op.bytesLess x.toList y.toList)))
 |.leq=>.go (.q (Op.bytesLess x.toList y.toList||x.toList==y.toList))
 |_=>.no
def eqC:SV→SV→Option Bool
 |.v (.int .i64 m),.v (.int .i64 n)=>some (decide (m=n))
 |.v (.string m),.v (.string n)=>some (decide (m=n))
 |_,_=>none
def eqL:List SV→List SV→Option Bool
 |[],[]=>some true
 |[x],[y]=>eqC x y
 |x::l,y::m=>match eqC x y,eqL l m with
  |some p,some q=>some (p&&q)
  |_,_=>none
 |_,_=>none
def afd (op:BinOp) (x y:AV):V1:=
 match x,y with
 |.o (.s (.v (.int .i64 m))),.o (.s (.v (.int .i64 n)))=>iop op m n
 |.o (.s (.v (.int .u8 m))),.o (.s (.v (.int .u8 n)))=>uop op m n
 |.o (.s (.v (.string m))),.o (.s (.v (.string n)))=>sop op m n
 |_,_=>.no
theorem ab3 {a b:ByteArray}:a.toList=b.toList↔a=b:=by
 rw [ByteArray.toList_eq,ByteArray.toList_eq]
 constructor
 ·intro h
  cases a;cases b
  congr 1
  exact Array.ext' h
 ·intro h;rw [h]
theorem bytes_beq (a b:ByteArray):(a.toList==b.toList)=decide (a=b):=by
 rw [Bool.eq_iff_iff]
 simp [ab3]
end
end GL
end Go.Proofs.YtclcgjhhehbdeaaGreatDoor
