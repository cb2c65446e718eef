/- Part 3 of the proof of a drawn law. -/
import Derived.Laws.Concat
import Derived.Laws.Strings
import Derived.Laws.StructEq
import Derived.WalkLawsBesides
import Derived.Test.YtnkbdhldiinfdaaGreatDoorPab
set_option maxHeartbeats 20000000
set_option maxRecDepth 100000
set_option linter.all false
namespace Go.Proofs.YtnkbdhldiinfdaaGreatDoor
namespace GL
def r9 (T:bb) (β:Nat→Nat):List AV→List Value→Prop
 |[],[]=>True
 |x::l,y::r=>x.rel T β y∧r9 T β l r
 |_,_=>False
theorem G0 {T:bb}{β:Nat→Nat}:∀{l:List AV}{cs:List Value},r9 T β l cs→l.length=cs.length
 |[],[],_=>rfl
 |_::_,[],h=>h.elim
 |[],_::_,h=>h.elim
 |_::l,_::cs,h=>by simp [G0 h.2]
theorem N9 {T:bb}{β:Nat→Nat}:∀{l:List AV}{cs:List Value},r9 T β l cs→∀{i:Nat}{x:AV},l[i]?=some x→∃v,cs[i]?=some v∧x.rel T β v
 |[],[],_,i,x,hx=>by simp at hx
 |_::_,[],h,_,_,_=>h.elim
 |[],_::_,h,_,_,_=>h.elim
 |y::l,v::cs,h,i,x,hx=>by
  cases i with
  |zero=>simp at hx;subst hx;exact⟨v,by simp,h.1⟩
  |succ i=>simpa using N9 h.2 (by simpa using hx)
structure UQ (T:bb):Prop where
 no:∀b ek n cs,T b≠some (.fz ek n cs)
 oV:YF T
structure aaA (W:World) (T:bb) (β:Nat→Nat) (bs:List AV):Prop where
 EB:bs.length≤1000
 at_:∀i av,bs[i]?=some av→av≠.zz∧(∃n,T (β i)=some (.bx n))∧(∃cs e,W.heap[β i]?=some (.cells cs e (0,0))∧av.rU T β cs)∧∀j∈av.boxes,j<bs.length
 inj:∀i j,i<bs.length→j<bs.length→β i=β j→i=j
structure KO (W:World) (k:Nat) (mv:Bool) (β:Nat→Nat) (T':bb) (β':Nat→Nat) (w':World) (os:List AV):Prop where
 len:k≤os.length
 same:∀i,i<k→β' i=β i
 at_:∀i av,os[i]?=some av→av≠.zz→(∃n,T' (β' i)=some (.bx n))∧(k≤i→W.heap.size≤β' i∨(mv=true∧∃j,j<k∧β' i=β j))∧(∃cs e,w'.heap[β' i]?=some (.cells cs e (0,0))∧av.rU T' β' cs)∧(∀j∈av.boxes,j<os.length)∧av.od=true
 inj:∀i j av av',os[i]?=some av→av≠.zz→os[j]?=some av'→av'≠.zz→β' i=β' j→i=j
structure aaB (W:World) (T:bb) (β:Nat→Nat) (k:Nat) (T':bb) (w':World):Prop where
 typed:WT T' w'
 aiW:UQ T'
 new:∀b,b<W.heap.size→T' b=T b
 frame:∀b,b<W.heap.size→(∀i,i<k→b≠β i)→quiet (T b)→w'.heap[b]?=W.heap[b]?
 gd:W.heap.size≤w'.heap.size
 os:w'.os=W.os
 tape:w'.tape=W.tape
 output:w'.output=W.output
def TC (P:Program) (f:FuncId) (mv:Bool) (args bs:List AV) (post:AV→List AV→Prop):Prop:=
 ∀(W:World) (T:bb) (β:Nat→Nat) (vs:List Value),WT T W→UQ T→r9 T β args vs→(∀av∈args,∀i∈av.boxes,i<bs.length)→aaA W T β bs→
  Calls P f vs.toArray W λe w'=>∃v r os T' β',e= .returned v∧post r os∧r.rel T' β' v∧((∀i∈r.boxes,i<os.length)∧r.od=true)∧aaB W T β bs.length T' w'∧KO W bs.length mv β T' β' w' os
theorem TC.mono {P:Program}{f:FuncId}{mv:Bool}{args bs:List AV}{post zv:AV→List AV→Prop}(h:TC P f mv args bs post) (hp:∀r os,post r os→zv r os):TC P f mv args bs zv:=by
 intro W T β vs h1 h2 h3 h4 h5
 exact (h W T β vs h1 h2 h3 h4 h5).mono λe w' ⟨v,r,os,T',β',e1,e2,e3⟩=>⟨v,r,os,T',β',e1,hp _ _ e2,e3⟩
def UA:Nat→List AV→AO
 |_,[]=>[]
 |i,av::l=>(.s i,av)::UA (i+1) l
def ED:Nat→List AV→AO
 |_,[]=>[]
 |i,av::l=>(.b i,av)::ED (i+1) l
def DX:St:=λ_=>none
def entry (args bs:List AV):St:=DX.ap (UA 0 args++ED 0 bs)
theorem M9 {av:AV}{r:fJ}:∀{l:List AV}{i:Nat},(r,av)∈UA i l→∃j,r= .s (i+j)∧l[j]?=some av
 |[],_,h=>by cases h
 |x::l,i,h=>by
  rcases ZB8.1 h with h |h
  ·cases h;exact⟨0,rfl,by simp⟩
  ·obtain⟨j,hj,hl⟩:=M9 h
   exact⟨j+1,by rw [hj];congr 1;omega,by simpa using hl⟩
theorem NA {av:AV}{r:fJ}:∀{l:List AV}{i:Nat},(r,av)∈ED i l→∃j,r= .b (i+j)∧l[j]?=some av
 |[],_,h=>by cases h
 |x::l,i,h=>by
  rcases ZB8.1 h with h |h
  ·cases h;exact⟨0,rfl,by simp⟩
  ·obtain⟨j,hj,hl⟩:=NA h
   exact⟨j+1,by rw [hj];congr 1;omega,by simpa using hl⟩
theorem NB:∀{l:List AV}{i j:Nat}{av:AV},l[j]?=some av→(.b (i+j),av)∈ED i l
 |[],_,j,av,h=>by simp at h
 |x::l,i,0,av,h=>by simp at h;subst h;simp [ED]
 |x::l,i,j+1,av,h=>by
  have:=NB (i:=i+1) (j:=j) (l:=l) (av:=av) (by simpa using h)
  simp only [ED,ZB8]
  right
  have e:i+1+j=i+(j+1):=by omega
  rwa [e] at this
theorem jB {args bs:List AV}{r:fJ}{av:AV}(h:entry args bs r=some av):(∃j,r= .s j∧args[j]?=some av)∨∃j,r= .b j∧bs[j]?=some av:=by
 unfold entry at h
 rcases St.AN (τ:=DX) (u:=UA 0 args++ED 0 bs) (r:=r) with ⟨v,hv,hm⟩ |⟨hv,_⟩
 ·rw [h] at hv;cases hv
  rcases ZB4.1 hm with hm |hm
  ·obtain⟨j,hj,hl⟩:=M9 hm;exact .inl ⟨j,by simpa using hj,hl⟩
  ·obtain⟨j,hj,hl⟩:=NA hm;exact .inr ⟨j,by simpa using hj,hl⟩
 ·rw [h] at hv;cases hv
theorem xa {args bs:List AV}{i:Nat}(h:i<bs.length):entry args bs (.b i)≠none:=by
 intro hn
 unfold entry at hn
 rcases St.AN (τ:=DX) (u:=UA 0 args++ED 0 bs) (r:=.b i) with ⟨v,hv,_⟩ |⟨_,uy⟩
 ·rw [hn] at hv;cases hv
 ·refine uy (.b i,bs[i]) ?_ rfl
  refine List.mem_append_right _ ?_
  have:=NB (l:=bs) (i:=0) (j:=i) (ZB1 h)
  simpa using this
def cD:Nat→Nat→List Nat
 |_,0=>[]
 |i,n+1=>i::cD (i+1) n
theorem fY {j:Nat}:∀{n i:Nat},j∈cD i n↔i≤j∧j<i+n
 |0,i=>by simp [cD]<;>omega
 |n+1,i=>by simp only [cD,ZB8,fY (n:=n)];omega
theorem kI:∀(n i:Nat),(cD i n).length=n
 |0,_=>rfl
 |n+1,i=>by simp [cD,kI n]
theorem jO:∀(n i j:Nat),j<n→(cD i n)[j]?=some (i+j)
 |0,_,_,h=>by omega
 |n+1,i,0,_=>by simp [cD]
 |n+1,i,j+1,h=>by
  simp only [cD,List.getElem?_cons_succ]
  rw [jO n (i+1) j (by omega)]
  congr 1;omega
def isLive (τ:St) (i:Nat):Bool:=match τ (.b i) with
 |none=>false
 |some .zz=>false
 |some _=>true
theorem tK {τ:St}{i:Nat}:isLive τ i=true↔live τ i:=by
 unfold isLive live
 cases τ (.b i) with
 |none=>simp
 |some av=>cases av<;>simp
def idxOf:List Nat→Nat→Nat
 |[],_=>0
 |x::l,i=>bif Nat.beq x i then 0 else idxOf l i+1
theorem sC:∀{l:List Nat}{i:Nat},i∈l→l[idxOf l i]?=some i∧idxOf l i<l.length
 |[],_,h=>by cases h
 |x::l,i,h=>by
  simp only [idxOf]
  cases hb:Nat.beq x i with
  |true=>
   have:x=i:=by simpa using hb
   subst this;simp
  |false=>
   have fA:x≠i:=by intro e;subst e;simp at hb
   have hm:i∈l:=by
    rcases ZB8.1 h with e |h
    ·exact absurd e.symm fA
    ·exact h
   have h:=sC hm
   exact⟨by simpa using h.1,by simpa using h.2⟩
def acZ (τ:St) (own:List Nat) (i:Nat):Option (Prop×AV):=
 match τ (.b i) with
 |some (.o (.a l))=>match xQ τ own l with
  |some (p,m)=>some (p,.o (.a m))
  |none=>none
 |some (.rs ek l)=>some (True,.rs ek l)
 |_=>some (True,.zz)
def agH (τ:St) (own gone:List Nat) (i:Nat):Option (Prop×AV):=bif iz gone i then some (True,.zz) else acZ τ own i
def ac0 (V:Nat→Option (Prop×AV)) (g:Nat→Nat):List Nat→Option (Prop×List AV)
 |[]=>some (True,[])
 |i::l=>match V i,ac0 V g l with
  |some (p,x),some (q,m)=>some (p∧q,x.ly g::m)
  |_,_=>none
def nodupB:List Nat→Bool
 |[]=>true
 |i::l=> !(iz l i)&&nodupB l
def HG (τ:St) (k:Nat) (ex dr:List Nat):List Nat:=(cD 0 k).filter (λi=>isLive τ i&& !(iz dr i))++ex
def nameOut (k:Nat) (ex:List Nat) (i:Nat):Nat:=bif iz ex i then k+idxOf ex i else i
def agh (τ:St) (k:Nat) (mv:Bool) (i:Nat):Bool:=isLive τ i&&(mv||(Nat.ble 1000 i&&(Nat.blt i 1000000000||(cD 0 k).all (isLive τ))))
def ahi (sh:TypeId→Option (Bool×Nat)) (τ:St) (rs:List ResultVar) (k:Nat) (mv:Bool) (ex dr:List Nat):Option (Prop×AV×List AV):=
 match afC sh τ rs with
 |none=>none
 |some r0=>match xR τ (HG τ k ex dr) r0,ac0 (agH τ (HG τ k ex dr) (ex++dr)) (nameOut k ex) (cD 0 k),ac0 (acZ τ (HG τ k ex dr)) (nameOut k ex) ex with
  |some (p,r),some (q,os),some (q',os')=>bif (ex.all (agh τ k mv))&&(nodupB ex&&Nat.ble k 1000) then some ((p∧q)∧q',r.ly (nameOut k ex),os++os') else none
  |_,_,_=>none
def endQ (sh:TypeId→Option (Bool×Nat)) (rs:List ResultVar) (k:Nat) (mv:Bool) (post:AV→List AV→Prop):o6:=λe τ=>
 match e with
 |.normal |.ret=>∃ex dr p r os,ahi sh τ rs k mv ex dr=some (p,r,os)∧p∧post r os
 |_=>False
theorem tA:∀{l:List Nat},nodupB l=true→∀(i j:Nat) (x:Nat),l[i]?=some x→l[j]?=some x→i=j
 |[],_,i,j,x,h,_=>by simp at h
 |y::l,h,i,j,x,h1,h2=>by
  simp only [nodupB,ZA9,ZF8] at h
  have hn:y∉l:=λhm=>by rw [fy.2 hm] at h;exact absurd h.1 (by simp)
  cases i with
  |zero=>
   cases j with
   |zero=>rfl
   |succ j=>
    simp at h1 h2;subst h1
    exact absurd (ZB6 h2) hn
  |succ i=>
   cases j with
   |zero=>
    simp at h1 h2;subst h2
    exact absurd (ZB6 h1) hn
   |succ j=>
    simp at h1 h2
    rw [tA h.2 i j x h1 h2]
section
variable {N:Nat}{c:Ctx}{T:bb}{β:Nat→Nat}{τ:St}{a:Act}{w:World}{own:List Nat}
theorem zy (hh:Holds N c T β τ a w) (oa:∀i∈own,τ (.b i)≠none→live τ i) {i:Nat}{p:Prop}{x:AV}(h:acZ τ own i=some (p,x)) (hp:p) (hz:x≠.zz):
  ∃cs e,w.heap[β i]?=some (.cells cs e (0,0))∧x.rU (sG T β τ c.W w own) β cs∧((∀j∈x.boxes,j∈own)∧x.od=true)∧live τ i:=by
 unfold acZ at h
 split at h
 ·rename_i l hb
  split at h
  ·rename_i p1 m hs
   cases h
   obtain⟨cs,e,h1,h2⟩:=hh.boxes i _ hb (by intro e;cases e)
   have:=xP hh oa hs hp (λj hj=>hh.named (.b i) _ hb j hj) h2
   exact⟨cs,e,h1,this.1,⟨this.2,uV hs⟩,eD hb (by intro e;cases e)⟩
  ·cases h
 ·rename_i ek l hb
  cases h
  obtain⟨cs,e,h1,h2⟩:=hh.boxes i _ hb (by intro e;cases e)
  exact⟨cs,e,h1,h2,⟨by simp [AV.boxes],rfl⟩,eD hb (by intro e;cases e)⟩
 ·cases h;exact absurd rfl hz
theorem OL {V:Nat→Option (Prop×AV)}{g:Nat→Nat}:∀{l:List Nat}{p:Prop}{os:List AV},ac0 V g l=some (p,os)→p→os.length=l.length∧∀(j:Nat) (av:AV),os[j]?=some av→∃(i:Nat) (x:AV) (q:Prop),l[j]?=some i∧V i=some (q,x)∧q∧av=x.ly g
 |[],p,os,h,_=>by cases h;exact⟨rfl,by simp⟩
 |i::l,p,os,h,hp=>by
  simp only [ac0] at h
  split at h
  ·rename_i p1 x q1 m h1 h2
   cases h
   obtain⟨hl,xD⟩:=OL h2 hp.2
   refine⟨by simp [hl],λj av hj=>?_⟩
   cases j with
   |zero=>simp at hj;exact⟨i,x,p1,by simp,h1,hp.1,hj.symm⟩
   |succ j=>simpa using xD j av (by simpa using hj)
  ·cases h
theorem E7 {g:Nat→Nat}{x:AV}(h:x.ly g≠.zz):x≠.zz:=λe=>h (by subst e;rfl)
theorem agi {W:World}(h:WT T w):WT (sG T β τ W w own) w:=by
 intro b k hb
 unfold sG at hb
 split at hb
 ·rename_i n hT
  have hn:=h b _ hT
  split at hb
  ·split at hb
   ·rename_i cs e fr hc;cases hb;exact hc
   ·cases hb;exact hn
  ·cases hb;exact hn
 ·obtain⟨k',hk',rfl⟩:=Option.map_eq_some_iff.1 hb
  have hk:=h b _ hk'
  cases k' with
  |ty ek n=>exact hk
  |ro cs e fr=>exact hk
  |ln cs e fr=>exact hk
  |fz ek n cs=>obtain⟨h1,e,fr,l,h2⟩:=hk;exact⟨h1,cs,e,fr,l,h2⟩
  |bx n=>exact hk
theorem ab7 {W:World}(hg:YF T):UQ (sG T β τ W w own):=by
 refine⟨?_,λg hm=>by obtain⟨cs,e,fr,h1,h2⟩:=hg g hm;exact⟨cs,e,fr,aai h1,h2⟩⟩
 intro b ek n cs hb
 unfold sG at hb
 split at hb
 ·split at hb
  ·split at hb<;>cases hb
  ·cases hb
 ·obtain⟨k',_,hk⟩:=Option.map_eq_some_iff.1 hb
  cases k'<;>cases hk
end
theorem tT {P:Program}{N:Nat}{sh:TypeId→Option (Bool×Nat)}(hsh:∀t x,sh t=some x→Sh P t=some x) {fn:Func}{args bs:List AV}{mv:Bool}{post:AV→List AV→Prop}{W:World}{T0:bb}{β0:Nat→Nat}(hnf:UQ T0) (ald:bs.length≤1000)
  {τ:St} {a:Act} {w:World} (hr:Rel N ⟨W,T0,(cD 0 bs.length).map β0⟩ τ a w) (h:∃ex dr p r os,ahi sh τ fn.results.toList bs.length mv ex dr=some (p,r,os)∧p∧post r os):
  ∃v,(results fn a.tmps).run P w= .ok v w∧∃r os T' β',post r os∧r.rel T' β' v∧((∀i∈r.boxes,i<os.length)∧r.od=true)∧aaB W T0 β0 bs.length T' w∧KO W bs.length mv β0 T' β' w os:=by
 obtain⟨T,β,hh⟩:=hr
 obtain⟨ex,dr,p,r,os,hX,hp,ajk⟩:=h
 unfold ahi at hX
 split at hX
 ·cases hX
 ·rename_i r0 hr0
  split at hX
  ·rename_i p1 r1 q1 os1 q2 os2 hs ho1 ho2
   cases hc:(ex.all (agh τ bs.length mv))&&(nodupB ex&&Nat.ble bs.length 1000) with
   |false=>rw [hc] at hX;cases hX
   |true=>
    rw [hc] at hX;cases hX
    simp only [ZA9] at hc
    obtain⟨hex,hnd,_⟩:=hc
    have agT:∀i,i<bs.length→live τ i→β i=β0 i:=λi hi hl=>hh.handed i (β0 i) (by
     show ((cD 0 bs.length).map β0)[i]?=_
     rw [List.getElem?_map,jO _ _ _ hi];simp) hl
    have ahS:∀b,b∈(cD 0 bs.length).map β0→∃j,j<bs.length∧b=β0 j:=λb hm=>by
     obtain⟨j,hj,e⟩:=List.mem_map.1 hm
     exact⟨j,by have:=fY.1 hj;omega,e.symm⟩
    have ajv:∀i∈ex,live τ i:=by
     intro i hi
     have:=ZC9.1 hex i hi
     unfold agh at this
     simp only [ZA9] at this
     exact tK.1 this.1
    have ale:∀i∈ex,W.heap.size≤β i∨(mv=true∧∃j,j<bs.length∧β i=β0 j):=by
     intro i hi
     have hl:=ajv i hi
     have:=ZC9.1 hex i hi
     unfold agh at this
     simp only [ZA9,Bool.or_eq_true] at this
     obtain⟨_,g1,g2,g3⟩:=hh.apart i hl
     rcases this.2 with hm |⟨h1,h2⟩
     ·rcases g3 with g3 |g3
      ·exact .inl g3
      ·exact .inr ⟨hm,ahS _ g3⟩
     ·have h1':1000≤i:=zqNlb h1
      rcases h2 with h2 |h2
      ·exact .inl (g2 h1' (zqNlb h2))
      ·rcases g3 with g3 |g3
       ·exact .inl g3
       ·exfalso
        obtain⟨j,hj,e⟩:=ahS _ g3
        have hlj:=tK.1 (ZC9.1 h2 j (fY.2 ⟨by omega,by omega⟩))
        rw [←agT j hj hlj] at e
        have:=hh.inj i j hl hlj e
        omega
    obtain⟨v,hv,hvr⟩:=acJ hsh hh hr0
    have agS:∀i∈HG τ bs.length ex dr,(i∈ex∨(i∉ex∧i<bs.length))∧live τ i:=by
     intro i hi
     by_cases hm:i∈ex
     ·exact⟨.inl hm,ajv i hm⟩
     ·rcases ZB4.1 hi with hi |hi
      ·have h1:=ZF4.1 hi
       simp only [ZA9] at h1
       exact⟨.inr ⟨hm,by have:=fY.1 h1.1;omega⟩,tK.1 h1.2.1⟩
      ·exact absurd hi hm
    have oa:∀i∈HG τ bs.length ex dr,τ (.b i)≠none→live τ i:=λi hi _=>(agS i hi).2
    have akY:∀i∈r0.boxes,τ (.b i)≠none:=by
     have k1:∀{x:ResultVar} {y:A0},VM sh τ x=some y→∀i∈y.boxes,τ (.b i)≠none:=by
      intro x y hy i hi
      cases x with
      |tmp t=>
       simp only [VM] at hy
       split at hy
       ·rename_i z hz;cases hy;exact hh.named (.s t) _ hz i hi
       ·cases hy
      |cell ad ty=>
       simp only [VM] at hy
       split at hy
       ·rename_i b _
        split at hy
        ·rename_i l hl
         split at hy
         ·rename_i n _
          cases hq:Nat.beq n l.length with
          |false=>rw [hq] at hy;cases hy
          |true=>rw [hq] at hy;cases hy;exact hh.named (.b b) _ hl i hi
         ·split at hy
          ·cases hy
           exact hh.named (.b b) _ hl i (by simpa [AV.boxes,A0.boxes,cc] using hi)
          ·cases hy
         ·cases hy
        ·cases hy
       ·cases hy
     have k2:∀{l:List ResultVar} {ys:List A0},N7 sh τ l=some ys→∀i∈eS ys,τ (.b i)≠none:=by
      intro l
      induction l with
      |nil=>intro ys h i hi;simp only [N7] at h;cases h;simp [eS] at hi
      |cons x l ih=>
       intro ys h i hi
       simp only [N7] at h
       split at h
       ·rename_i y ys' h1 h2
        cases h
        simp only [eS,ZB4] at hi
        rcases hi with hi |hi
        ·exact k1 h1 i hi
        ·exact ih h2 i hi
       ·cases h
     unfold afC at hr0
     split at hr0
     ·rename_i x hx
      cases hr0
      intro i hi
      exact k2 hx i (by simp only [eS,ZE5];exact hi)
     ·rename_i ys _ hx;cases hr0;exact k2 hx
     ·cases hr0
    obtain⟨c6,hrb⟩:=U4 hh oa hs hp.1.1 akY hvr
    obtain⟨aed,alm⟩:=OL ho1 hp.1.2
    obtain⟨ajp,alk⟩:=OL ho2 hp.2
    rw [kI] at aed
    have hlen:(os1++os2).length=bs.length+ex.length:=by rw [ZA0,aed,ajp]
    let β':Nat→Nat:=λj=>if j<bs.length then β0 j else match ex[j-bs.length]? with
     |some i=>β i
     |none=>0
    have hβex:∀j i,ex[j]?=some i→β' (bs.length+j)=β i:=λj i hj=>by
     show (if bs.length+j<bs.length then _ else _)=_
     rw [if_neg (by omega),ZG4,hj]
    have hβin:∀j,j<bs.length→live τ j→β' j=β j:=λj hj hl=>by
     show (if j<bs.length then _ else _)=_
     rw [if_pos hj]
     exact (agT j hj hl).symm
    have hg:∀i∈HG τ bs.length ex dr,β' (nameOut bs.length ex i)=β i∧nameOut bs.length ex i<(os1++os2).length:=λi hi=>by
     unfold nameOut
     obtain⟨h1,h2⟩:=agS i hi
     rcases h1 with h1 |⟨h1,h3⟩
     ·rw [fy.2 h1]
      have h4:=sC h1
      exact⟨hβex _ _ h4.1,by rw [hlen];show bs.length+_<_;omega⟩
     ·have:iz ex i=false:=by
       cases hm:iz ex i with
       |false=>rfl
       |true=>exact absurd (fy.1 hm) h1
      rw [this]
      exact⟨hβin i h3 h2,by rw [hlen];show i<_;omega⟩
    have uH:∀j av,(os1++os2)[j]?=some av→av≠.zz→∃(i:Nat) (x:AV) (q:Prop),acZ τ (HG τ bs.length ex dr) i=some (q,x)∧q∧av=x.ly (nameOut bs.length ex)∧((j<bs.length∧i=j∧i∉ex∧i∈HG τ bs.length ex dr)∨(bs.length≤j∧ex[j-bs.length]?=some i)):=by
     intro j av hj hz
     by_cases hjk:j<bs.length
     ·rw [ZC2 (by omega)] at hj
      obtain⟨i,x,q,h1,h2,h3,h4⟩:=alm j av hj
      rw [jO _ _ _ hjk] at h1
      simp only [ZA6,Option.some.injEq] at h1
      subst h1
      unfold agH at h2
      cases hm:iz (ex++dr) j with
      |true=>rw [hm] at h2;cases h2;exact absurd (by rw [h4];rfl) hz
      |false=>
       rw [hm] at h2
       have hnm:∀l,l=ex∨l=dr→j∉l:=λl hl cm=>by
        have:j∈ex++dr:=by
         rcases hl with rfl |rfl
         ·exact List.mem_append_left _ cm
         ·exact List.mem_append_right _ cm
        rw [fy.2 this] at hm;cases hm
       have hx0:x≠.zz:=λe=>hz (by rw [h4,e];rfl)
       obtain⟨_,_,_,_,_,hl⟩:=zy hh oa h2 h3 hx0
       refine⟨j,x,q,h2,h3,h4,.inl ⟨hjk,ζ,hnm ex (.inl rfl),?_⟩⟩
       refine List.mem_append_left _ (ZF4.2 ⟨fY.2 ⟨by omega,by omega⟩,?_⟩)
       have:iz dr j=false:=by
        cases hm2:iz dr j with
        |false=>rfl
        |true=>exact absurd (fy.1 hm2) (hnm dr (.inr rfl))
       rw [tK.2 hl,this];rfl
     ·rw [ZC6 (by omega),aed] at hj
      obtain⟨i,x,q,h1,h2,h3,h4⟩:=alk _ av hj
      exact⟨i,x,q,h2,h3,h4,.inr ⟨by omega,h1⟩⟩
    refine⟨v,hv,_,os1++os2,sG T β τ W w (HG τ bs.length ex dr),β',ajk,AV.np (λi hi=>(hg i (hrb i hi)).1) c6,⟨λi hi=>?_,by rw [AV.oc];exact QS hs⟩,?_,?_⟩
    ·obtain⟨j,hj,rfl⟩:=AV.gl hi
     exact (hg j (hrb j hj)).2
    ·exact {
      typed:=agi hh.typed
      aiW:=ab7 hh.oV
      new:=λb hb=>by
       have h1:(T b).map BK.un=T0 b:=hh.old b hb
       unfold sG
       split
       ·rename_i n hT
        rw [if_neg (λh=>by have:=h.1;omega)]
        rw [hT] at h1;exact h1
       ·exact h1
      frame:=λb hb fA hq=>hh.frame b hb (λhm=>by
       obtain⟨i,hi,e⟩:=ahS b hm
       exact fA i hi e) hq
      gd:=hh.gd
      os:=hh.os
      tape:=hh.tape
      output:=hh.output }
    ·refine {
      len:=by rw [hlen];omega
      same:=λi hi=>if_pos hi
      at_:=λj av hj hz=>?_
      inj:=λj j' av av' hj hz CW hz' e=>?_ }
     ·obtain⟨i,x,q,hx,hq,rfl,sE⟩:=uH j av hj hz
      obtain⟨cs,e,h1,h2,⟨h3,af9⟩,hl⟩:=zy hh oa hx hq (E7 hz)
      have eβ:β' j=β i:=by
       rcases sE with ⟨h4,rfl,_⟩ |⟨h4,h5⟩
       ·exact hβin _ h4 hl
       ·have:=hβex _ _ h5
        rwa [show bs.length+(j-bs.length)=j by omega] at this
      have yJ:i∈HG τ bs.length ex dr:=by
       rcases sE with ⟨_,_,_,h⟩ |⟨_,h⟩
       ·exact h
       ·exact List.mem_append_right _ (ZB6 h)
      obtain⟨⟨n,hn⟩,_⟩:=hh.apart i hl
      rw [eβ]
      refine⟨⟨n,UD hn yJ hl⟩,λhk=>?_,⟨cs,e,h1,AV.FT (λi hi=>(hg i (h3 i hi)).1) h2⟩,λy hy=>?_,by rw [AV.oc];exact af9⟩
      ·rcases sE with ⟨h4,_⟩ |⟨_,h5⟩
       ·omega
       ·exact ale i (ZB6 h5)
      ·obtain⟨y',hy',rfl⟩:=AV.gl hy
       exact (hg y' (h3 y' hy')).2
     ·obtain⟨i,x,q,hx,hq,rfl,sE⟩:=uH j av hj hz
      obtain⟨i',x',q',hx',hq',rfl,XI⟩:=uH j' av' CW hz'
      obtain⟨_,_,_,_,_,hl⟩:=zy hh oa hx hq (E7 hz)
      obtain⟨_,_,_,_,_,hl'⟩:=zy hh oa hx' hq' (E7 hz')
      have eβ:∀(j i:Nat),live τ i→((j<bs.length∧i=j∧i∉ex∧i∈HG τ bs.length ex dr)∨(bs.length≤j∧ex[j-bs.length]?=some i))→β' j=β i:=by
       intro j i hl sE
       rcases sE with ⟨h4,rfl,_⟩ |⟨h4,h5⟩
       ·exact hβin _ h4 hl
       ·have:=hβex _ _ h5
        rwa [show bs.length+(j-bs.length)=j by omega] at this
      rw [eβ j i hl sE,eβ j' i' hl' XI] at e
      have eii:=hh.inj i i' hl hl' e
      subst eii
      rcases sE with ⟨h1,h2,h3,_⟩ |⟨h1,h2⟩
      ·rcases XI with ⟨_,h5,_⟩ |⟨_,h5⟩
       ·omega
       ·exact absurd (ZB6 h5) h3
      ·rcases XI with ⟨_,_,h5,_⟩ |⟨h4,h5⟩
       ·exact absurd (ZB6 h2) h5
       ·have:=tA hnd _ _ _ h2 h5
        omega
  ·cases hX
theorem TC.tv {P:Program}{N:Nat}{S:Sm}{sh:TypeId→Option (Bool×Nat)}{f:FuncId}{fn:Func}{cd:Code}{args bs:List AV}{mv:Bool}{post:AV→List AV→Prop}(hm:P.follows .mixedOrders=true) (hS:UP P N S) (hsh:∀t x,sh t=some x→Sh P t=some x)
  (hf:P.funcs[f]?=some fn) (hb:fn.body=some cd) (hN:fn.ntmps=N) (hlen:args.length≤N)
  (h:vc P N S cd (entry args bs) (endQ sh fn.results.toList bs.length mv post)):TC P f mv args bs post:=by
 intro W T β0 vs hT hnf c6 hbx qo
 refine calls_of_wp hf hb ?_
 have hvl:=G0 c6
 let c:Ctx:=⟨W,T,(cD 0 bs.length).map β0⟩
 have hlb:∀i,live (entry args bs) i→i<bs.length:=λi hi=>by
  obtain⟨av,hav⟩:=Option.ne_none_iff_exists'.1 (kD hi)
  rcases jB hav with ⟨j,e,_⟩ |⟨j,e,hj⟩
  ·cases e
  ·cases e;exact (ZC0.1 hj).1
 have ahX:Holds N c T β0 (entry args bs) { tmps:=vs.toArray++Array.replicate (fn.ntmps-vs.toArray.size) undef,defers:=[] } W:= {
  defs:=rfl
  size:=by simp;omega
  EB:=by show ((cD 0 bs.length).map β0).length≤1000;rw [ZG5,kI];exact qo.EB
  iJ:=λi av hi=>by
   rcases jB hi with ⟨j,e,hj⟩ |⟨j,e,_⟩
   ·cases e
    obtain⟨v,hv,hr⟩:=N9 c6 hj
    refine⟨v,?_,hr⟩
    have CX:i<vs.length:=(ZC0.1 hv).1
    rw [Array.getElem?_append_left (by simpa using CX)]
    simpa using hv
   ·cases e
  boxes:=λi av hi hz=>by
   rcases jB hi with ⟨j,e,_⟩ |⟨j,e,hj⟩
   ·cases e
   ·cases e;exact (qo.at_ i av hj).2.2.1
  apart:=λi hi=>by
   have bU:=hlb i hi
   obtain⟨_,h1,_⟩:=qo.at_ i _ (ZB1 bU)
   have cm:β0 i∈(cD 0 bs.length).map β0:=List.mem_map.2 ⟨i,fY.2 ⟨by omega,by omega⟩,rfl⟩
   exact⟨h1,λ_=>cm,λh=>absurd qo.EB (by omega),.inr cm⟩
  handed:=λi b hb hi=>by
   have bU:=hlb i hi
   have hb':((cD 0 bs.length).map β0)[i]?=some b:=hb
   rw [List.getElem?_map,jO _ _ _ bU] at hb'
   simpa using hb'
  inj:=λi j hi hj e=>qo.inj i j (hlb i hi) (hlb j hj) e
  named:=λr av hr i hi=>by
   rcases jB hr with ⟨j,rfl,hj⟩ |⟨j,rfl,hj⟩
   ·exact xa (hbx av (ZB6 hj) i hi)
   ·exact xa ((qo.at_ j av hj).2.2.2 i hi)
  typed:=hT
  old:=λb hb=>by
   show (T b).map BK.un=T b
   cases hk:T b with
   |none=>rfl
   |some k=>
    cases k with
    |fz ek n cs=>exact absurd hk (hnf.no b ek n cs)
    |_=>rfl
  frame:=λ_ _ _ _=>rfl
  gd:=ZB5 _
  os:=rfl
  tape:=rfl
  output:=rfl
  oV:=hnf.oV }
 refine Code.wp_mono ?_ (gp hm hS cd _ _ h c _ W ⟨T,_,ahX⟩)
 rintro e a w ⟨τ,hr,hq⟩
 have hd:a.defers=[]:=by obtain⟨_,_,hh⟩:=hr;exact hh.defs
 cases e with
 |normal=>
  obtain⟨v,hv,r,os,T',β',h1⟩:=tT (args:=args) hsh hnf qo.EB hr hq
  exact⟨hd,v,hv,v,r,os,T',β',rfl,h1⟩
 |ret=>
  obtain⟨v,hv,r,os,T',β',h1⟩:=tT (args:=args) hsh hnf qo.EB hr hq
  exact⟨hd,v,hv,v,r,os,T',β',rfl,h1⟩
 |_=>exact hq.elim
end GL
namespace GL
inductive V1 where
 |no
 |go (v:AV)
 |mZ (p:Prop) (v:AV)
def V1.rs (d:Nat):V1→Rs
 |.no=>.no
 |.go v=>.go [(.s d,v)]
 |.mZ p v=>.mZ p [(.s d,v)]
def V1.vF:V1→AV→Prop
 |.no,_=>False
 |.go v,r=>r=v
 |.mZ p v,r=>p∧r=v
def ev (τ:St):Operand→Option AV
 |.tmp t=>τ (.s t)
 |.const v=>some (.s (.v v))
 |.func f=>some (.fn f [])
 |.global g=>some (.s (.v (.pointer (some ⟨g,0,none⟩))))
def bY (x:Operand) (k:AV→Q Rs):Q Rs:=
 match x with
 |.tmp t=>.ask (.s t) fun
  |some v=>k v
  |none=>.ret .no
 |.const v=>k (.s (.v v))
 |.func f=>k (.fn f [])
 |.global g=>k (.s (.v (.pointer (some ⟨g,0,none⟩))))
theorem c8 (τ:St) (x:Operand) (k:AV→Q Rs):(bY x k).run τ=match ev τ x with
  |some v=>(k v).run τ
  |none=>.no:=by
 cases x with
 |tmp t=>
  simp only [bY,Q.run,ev]
  cases τ (.s t)<;>rfl
 |_=>rfl
section
variable {P:Program}{N:Nat}{τ:St}
theorem eP {c:Ctx}{T:bb}{β:Nat→Nat}{a:Act}{w:World}(h:Holds N c T β τ a w) {x:Operand}{av:AV}(hx:ev τ x=some av):av.rel T β (a.eval x):=by
 cases x with
 |tmp t=>
  obtain⟨v,hv,hr⟩:=h.iJ t av hx
  have:a.eval (.tmp t)=v:=by
   show a.tmps.getD t undef=v
   rw [ZE8,hv];rfl
  rw [this];exact hr
 |const v=>cases hx;rfl
 |func f=>cases hx;exact⟨#[],rfl,rfl⟩
 |global g=>cases hx;rfl
theorem gY {c:Ctx}{T:bb}{β:Nat→Nat}{a:Act}{w:World}(h:Holds N c T β τ a w) {x:Operand}{av:AV}(hx:ev τ x=some av):∀i∈av.boxes,τ (.b i)≠none:=by
 cases x with
 |tmp t=>exact h.named (.s t) av hx
 |const v=>cases hx;intro i hi;simp [AV.boxes,A0.boxes,SV.boxes] at hi
 |func f=>cases hx;intro i hi;simp [AV.boxes,jH] at hi
 |global g=>cases hx;intro i hi;simp [AV.boxes,A0.boxes,SV.boxes] at hi
def fv (P:Program) (N:Nat) (o:Oper) (q:Q Rs):Prop:=
 ∀c τ a w,Rel N c τ a w→(q.run τ).pre→∀(K:Act→World→Prop) (Q':Exit→Act→World→Prop),
  (∀u a' w',(q.run τ).out u→Rel N c (τ.ap u) a' w'→K a' w')→o.wp P a w K Q'
theorem V1.put {c:Ctx}{T:bb}{β:Nat→Nat}{a:Act}{w w':World}{r:V1}{d:Nat}(hh:Holds N c T β τ a w') (hd:d<N) (hp:(r.rs d).pre) {o:Oper}(ho:o.dst=some d) {K:Act→World→Prop}{Q':Exit→Act→World→Prop}
  (h:∀v,r.vF v→(∀i∈v.boxes,τ (.b i)≠none)∧∃val,(execOp a.eval o).run P w= .ok (.value val) w'∧v.rel T β val)
  (hK:∀u a' w',(r.rs d).out u→Rel N c (τ.ap u) a' w'→K a' w'):o.wp P a w K Q':=by
 have key:∀v,r.vF v→(r.rs d).out [(.s d,v)]→o.wp P a w K Q':=by
  intro v hv ho'
  obtain⟨h1,val,h2,h3⟩:=h v hv
  unfold Oper.wp
  rw [h2]
  show K (a.put o.dst val) w'
  rw [ho]
  exact hK _ _ _ ho' ⟨T,β,hh.put hd h3 h1⟩
 cases r with
 |no=>exact hp.elim
 |go v=>exact key v rfl rfl
 |mZ p v=>exact key v ⟨hp,rfl⟩ rfl
theorem fv.uu {o:Oper}{d:Nat}{x:Operand}{f:AV→V1}(ho:o.dst=some d) (hd:d<N)
  (h:∀c T β τ a w,Holds N c T β τ a w→∀v,v.rel T β (a.eval x)→∀r,(f v).vF r→(∀i∈r.boxes,i∈v.boxes)∧∃val,(execOp a.eval o).run P w= .ok (.value val) w∧r.rel T β val):
  fv P N o (bY x λv=>.ret ((f v).rs d)):=by
 intro c τ a w hr hp K Q' hK
 obtain⟨T,β,hh⟩:=hr
 rw [c8] at hp hK
 cases hx:ev τ x with
 |none=>rw [hx] at hp;exact hp.elim
 |some v=>
  rw [hx] at hp hK
  refine V1.put hh hd hp ho (λr hr=>?_) hK
  obtain⟨h1,h2⟩:=h c T β τ a w hh v (eP hh hx) r hr
  exact⟨λi hi=>gY hh hx i (h1 i hi),h2⟩
theorem fv.DS {o:Oper}{d:Nat}{x y:Operand}{f:AV→AV→V1}(ho:o.dst=some d) (hd:d<N)
  (h:∀c T β τ a w,Holds N c T β τ a w→∀v u,v.rel T β (a.eval x)→u.rel T β (a.eval y)→∀r,(f v u).vF r→(∀i∈r.boxes,i∈v.boxes∨i∈u.boxes)∧∃val,(execOp a.eval o).run P w= .ok (.value val) w∧r.rel T β val):
  fv P N o (bY x λv=>bY y λu=>.ret ((f v u).rs d)):=by
 intro c τ a w hr hp K Q' hK
 obtain⟨T,β,hh⟩:=hr
 rw [c8] at hp hK
 cases hx:ev τ x with
 |none=>rw [hx] at hp;exact hp.elim
 |some v=>
  rw [hx] at hp hK
  simp only [c8] at hp hK
  cases hy:ev τ y with
  |none=>rw [hy] at hp;exact hp.elim
  |some u=>
   rw [hy] at hp hK
   refine V1.put hh hd hp ho (λr hr=>?_) hK
   obtain⟨h1,h2⟩:=h c T β τ a w hh v u (eP hh hx) (eP hh hy) r hr
   refine⟨λi hi=>?_,h2⟩
   rcases h1 i hi with h |h
   ·exact gY hh hx i h
   ·exact gY hh hy i h
theorem fv.aiR {o:Oper}{d:Nat}{x y z:Operand}{f:AV→AV→AV→V1}(ho:o.dst=some d) (hd:d<N)
  (h:∀c T β τ a w,Holds N c T β τ a w→∀v u s,v.rel T β (a.eval x)→u.rel T β (a.eval y)→s.rel T β (a.eval z)→∀r,(f v u s).vF r→(∀i∈r.boxes,i∈v.boxes∨i∈u.boxes∨i∈s.boxes)∧∃val,(execOp a.eval o).run P w= .ok (.value val) w∧r.rel T β val):
  fv P N o (bY x λv=>bY y λu=>bY z λs=>.ret ((f v u s).rs d)):=by
 intro c τ a w hr hp K Q' hK
 obtain⟨T,β,hh⟩:=hr
 rw [c8] at hp hK
 cases hx:ev τ x with
 |none=>rw [hx] at hp;exact hp.elim
 |some v=>
  rw [hx] at hp hK
  simp only [c8] at hp hK
  cases hy:ev τ y with
  |none=>rw [hy] at hp;exact hp.elim
  |some u=>
   rw [hy] at hp hK
   simp only [c8] at hp hK
   cases hz:ev τ z with
   |none=>rw [hz] at hp;exact hp.elim
   |some s=>
    rw [hz] at hp hK
    refine V1.put hh hd hp ho (λr hr=>?_) hK
    obtain⟨h1,h2⟩:=h c T β τ a w hh v u s (eP hh hx) (eP hh hy) (eP hh hz) r hr
    refine⟨λi hi=>?_,h2⟩
    rcases h1 i hi with h |h |h
    ·exact gY hh hx i h
    ·exact gY hh hy i h
    ·exact gY hh hz i h
variable {d:Nat}{x y z:Operand}{t t' ty:TypeId}{pos:String}{af:Array Edge}{g:Option (Nat×Bool)}
theorem nob (v:Value) (l:List Nat):∀i∈(AV.s (.v v)).boxes,i∈l:=λi hi=>by simp [AV.boxes,A0.boxes,SV.boxes] at hi
theorem adu (v:Bool) (l:List Nat):∀i∈(AV.s (.q v)).boxes,i∈l:=λi hi=>by simp [AV.boxes,A0.boxes,SV.boxes] at hi
theorem adv (v:Value) (l m:List Nat):∀i∈(AV.s (.v v)).boxes,i∈l∨i∈m:=λi hi=>by simp [AV.boxes,A0.boxes,SV.boxes] at hi
theorem ZF (v:Bool) (l m:List Nat):∀i∈(AV.s (.q v)).boxes,i∈l∨i∈m:=λi hi=>by simp [AV.boxes,A0.boxes,SV.boxes] at hi
theorem aic (hd:d<N):fv P N ⟨some d,.move x,ty,pos,af,g⟩ (bY x λv=>.ret ((V1.go v).rs d)):=
 fv.uu rfl hd λc T β τ a w hh v hv r hr=>by
  cases hr;exact⟨λi hi=>hi,a.eval x,rfl,hv⟩
theorem afq (hd:d<N):fv P N ⟨some d,.assign x,ty,pos,af,g⟩ (bY x λv=>.ret ((V1.go v).rs d)):=
 fv.uu rfl hd λc T β τ a w hh v hv r hr=>by
  cases hr;exact⟨λi hi=>hi,a.eval x,rfl,hv⟩
def asB:AV→Option Bool
 |.o (.s (.q b))=>some b
 |.o (.s (.v (.bool b)))=>some b
 |_=>none
theorem AL {T:bb}{β:Nat→Nat}{v:AV}{b:Bool}(h:asB v=some b) {y:Value}(hr:v.rel T β y):y= .bool b:=by
 unfold asB at h
 split at h
 ·cases h;exact hr
 ·cases h;exact hr
 ·cases h
def acQ (c x y:AV):V1:=
 match c with
 |.o (.s (.v (.bool true)))=>.go x
 |.o (.s (.v (.bool false)))=>.go y
 |.o (.s (.q b))=>match asB x,asB y with
  |some p,some q=>.go (.q (bif b then p else q))
  |_,_=>.no
 |_=>.no
theorem aib (hd:d<N):fv P N ⟨some d,.pick z x y,ty,pos,af,g⟩ (bY z λv=>bY x λu=>bY y λs=>.ret ((acQ v u s).rs d)):=
 fv.aiR rfl hd λc T β τ a w hh v u s hv hu hs r hr=>by
  unfold acQ at hr
  split at hr
  ·cases hr
   have e:a.eval z= .bool true:=hv
   exact⟨λi hi=>.inr (.inl hi),a.eval x,by simp [execOp,asBool,e],hu⟩
  ·cases hr
   have e:a.eval z= .bool false:=hv
   exact⟨λi hi=>.inr (.inr hi),a.eval y,by simp [execOp,asBool,e],hs⟩
  ·rename_i b
   split at hr
   ·rename_i p q h1 h2
    cases hr
    have e:a.eval z= .bool b:=hv
    have e2:=AL h1 hu
    have e3:=AL h2 hs
    refine⟨λi hi=>by simp [AV.boxes,A0.boxes,SV.boxes] at hi,.bool (bif b then p else q),?_,ζ⟩
    cases b<;>simp [execOp,asBool,e,e2,e3]
   ·exact hr.elim
  ·exact hr.elim
def ahA:AV→V1
 |.o (.s (.bp i o))=>.go (.s (.bp i o))
 |.o (.s (.xp i sz k j))=>.go (.s (.xp i sz k j))
 |.o (.s (.ep ek j))=>.go (.s (.ep ek j))
 |.o (.s (.vp ek x j))=>.go (.s (.vp ek x j))
 |.o (.s (.vs l j))=>.go (.s (.vs l j))
 |_=>.no
theorem ajW (hd:d<N):fv P N ⟨some d,.nilCheck x,ty,pos,af,g⟩ (bY x λv=>.ret ((ahA v).rs d)):=
 fv.uu rfl hd λc T β τ a w hh v hv r hr=>by
  unfold ahA at hr
  split at hr
  ·rename_i i o
   cases hr
   have e:a.eval x= .pointer (some ⟨β i,o,none⟩):=hv
   exact⟨λi hi=>hi,_,by simp [execOp,e],rfl⟩
  ·rename_i i sz k j
   cases hr
   obtain⟨e,hj⟩:=hv
   exact⟨λi hi=>hi,_,by simp [execOp,e],rfl,hj⟩
  ·rename_i ek j
   cases hr
   obtain⟨b,o,n,e,h2⟩:=hv
   exact⟨λi hi=>hi,_,by simp [execOp,e],b,o,n,rfl,h2⟩
  ·rename_i ek rec j
   cases hr
   obtain⟨b,o,cs,e,h2⟩:=hv
   exact⟨λi hi=>hi,_,by simp [execOp,e],b,o,cs,rfl,h2⟩
  ·rename_i l j
   cases hr
   obtain⟨b,cs,e,h2⟩:=hv
   exact⟨λi hi=>hi,_,by simp [execOp,e],b,cs,rfl,h2⟩
  ·exact hr.elim
abbrev gK:Int:= -9223372036854775808
abbrev imax:Int:=9223372036854775807
theorem oQ {n:Int}(h1:gK≤n) (h2:n≤imax):IntKind.i64.wrap n=n:=IntWalk.i64_in n ⟨h1,h2⟩
theorem wrap_u8 {n:Int}(h1:0≤n) (h2:n≤255):IntKind.u8.wrap n=n:=by
 simp [IntKind.wrap,IntKind.signed,IntKind.bits]
 omega
def iop (op:BinOp) (x y:Int):V1:=
 match op with
 |.add=>.mZ (gK≤x+y∧x+y≤imax) (.int (x+y))
 |.sub=>.mZ (gK≤x-y∧x-y≤imax) (.int (x-y))
 |.mul=>.mZ (gK≤x*y∧x*y≤imax) (.int (x*y))
 |.quo=>.mZ (0≤x∧0<y∧x≤imax) (.int (x / y))
 |.rem=>.mZ (0≤x∧0<y) (.int (x % y))
 |.eql=>.go (.q (decide (x=y)))
 |.neq=>.go (.q (decide (x≠y)))
 |.lss=>.go (.q (decide (x<y)))
 |.leq=>.go (.q (decide (x≤y)))
 |.gtr=>.go (.q (decide (x>y)))
 |.geq=>.go (.q (decide (x≥y)))
 |.xor=>.mZ (0≤x∧0≤y∧x≤imax∧y≤imax) (.int ((x.toNat ^^^ y.toNat:Nat):Int))
 |_=>.no
def uop (op:BinOp) (x y:Int):V1:=
 match op with
 |.add=>.mZ (0≤x+y∧x+y≤255) (.byte (x+y))
 |.sub=>.mZ (0≤x-y∧x-y≤255) (.byte (x-y))
 |.mul=>.mZ (0≤x*y∧x*y≤255) (.byte (x*y))
 |.eql=>.go (.q (decide (x=y)))
 |.neq=>.go (.q (decide (x≠y)))
 |.lss=>.go (.q (decide (x<y)))
 |.leq=>.go (.q (decide (x≤y)))
 |.gtr=>.go (.q (decide (x>y)))
 |.geq=>.go (.q (decide (x≥y)))
 |_=>.no
def sop (op:BinOp) (x y:ByteArray):V1:=
 match op with
 |.add=>.mZ (((x.size+y.size:Nat):Int)≤imax) (.str (x++y))
 |.eql=>.go (.q (decide (x=y)))
 |.neq=>.go (.q (decide (x≠y)))
 |.lss=>.go (.q (Op.bytesLess x.toList y.toList))
 |.gtr=>.go (.q (!(Op.bytesLess x.toList y.toList||x.toList==y.toList)))
 |.geq=>.go (.q (!(Op.bytesLess x.toList y.toList)))
 |.leq=>.go (.q (Op.bytesLess x.toList y.toList||x.toList==y.toList))
 |_=>.no
def eqC:SV→SV→Option Bool
 |.v (.int .i64 m),.v (.int .i64 n)=>some (decide (m=n))
 |.v (.string m),.v (.string n)=>some (decide (m=n))
 |_,_=>none
def eqL:List SV→List SV→Option Bool
 |[],[]=>some true
 |[x],[y]=>eqC x y
 |x::l,y::m=>match eqC x y,eqL l m with
  |some p,some q=>some (p&&q)
  |_,_=>none
 |_,_=>none
def afl (op:BinOp) (x y:AV):V1:=
 match x,y with
 |.o (.s (.v (.int .i64 m))),.o (.s (.v (.int .i64 n)))=>iop op m n
 |.o (.s (.v (.int .u8 m))),.o (.s (.v (.int .u8 n)))=>uop op m n
 |.o (.s (.v (.string m))),.o (.s (.v (.string n)))=>sop op m n
 |_,_=>.no
theorem aca {a b:ByteArray}:a.toList=b.toList↔a=b:=by
 rw [ByteArray.toList_eq,ByteArray.toList_eq]
 constructor
 ·intro h
  cases a;cases b
  congr 1
  exact Array.ext' h
 ·intro h;rw [h]
theorem bytes_beq (a b:ByteArray):(a.toList==b.toList)=decide (a=b):=by
 rw [Bool.eq_iff_iff]
 simp [aca]
end
end GL
namespace GL
section
variable {P:Program}{N:Nat}{τ:St}
variable {d:Nat}{x y z:Operand}{t t' ty:TypeId}{pos:String}{af:Array Edge}{g:Option (Nat×Bool)}
theorem DW {m:Int}(h0:0≤m) (h1:m≤imax):(BitVec.ofInt 64 m).toNat=m.toNat:=by
 rw [BitVec.toNat_ofInt]
 congr 1
 exact Int.emod_eq_of_lt h0 (by simp only [imax] at h1;omega)
theorem abQ {op:BinOp}{m n:Int}{r:AV}(hr:(iop op m n).vF r) (w:World) (t:TypeId):∃v,r= .s v∧(∃u,v= .v u∨∃b,v= .q b∧u= .bool b)∧∃val,(binOp op t (.int .i64 m) (.int .i64 n)).run P w= .ok val w∧∀T β,v.rel T β val:=by
 cases op<;>simp only [iop] at hr<;>(try (exact hr.elim))
 case add=>
  obtain⟨hp,rfl⟩:=hr
  refine⟨_,ζ,⟨_,.inl rfl⟩,.int .i64 (m+n),?_,λ_ _=>rfl⟩
  have:=oQ hp.1 hp.2
  simp [binOp,Op.intArith,this]
 case sub=>
  obtain⟨hp,rfl⟩:=hr
  refine⟨_,ζ,⟨_,.inl rfl⟩,.int .i64 (m-n),?_,λ_ _=>rfl⟩
  have:=oQ hp.1 hp.2
  simp [binOp,Op.intArith,this]
 case mul=>
  obtain⟨hp,rfl⟩:=hr
  refine⟨_,ζ,⟨_,.inl rfl⟩,.int .i64 (m*n),?_,λ_ _=>rfl⟩
  have:=oQ hp.1 hp.2
  simp [binOp,Op.intArith,this]
 case quo=>
  obtain⟨⟨h1,h2,h3⟩,rfl⟩:=hr
  refine⟨_,ζ,⟨_,.inl rfl⟩,.int .i64 (m / n),?_,λ_ _=>rfl⟩
  have hd0:0≤m / n:=Int.ediv_nonneg h1 (by omega)
  have hd1:m / n≤m:=Int.ediv_le_self n h1
  have:=oQ (n:=m / n) (by simp only [gK];omega) (by omega)
  have ht:m.tdiv n=m / n:=Int.tdiv_eq_ediv_of_nonneg h1
  have hn:¬n=0:=by omega
  simp [binOp,Op.intDiv,hn,ht,this]
 case rem=>
  obtain⟨⟨h1,h2⟩,rfl⟩:=hr
  refine⟨_,ζ,⟨_,.inl rfl⟩,.int .i64 (m % n),?_,λ_ _=>rfl⟩
  have ht:m.tmod n=m % n:=Int.tmod_eq_emod_of_nonneg h1
  have hn:¬n=0:=by omega
  simp [binOp,Op.intDiv,hn,ht]
 case xor=>
  obtain⟨⟨h1,h2,h3,h4⟩,rfl⟩:=hr
  refine⟨_,ζ,⟨_,.inl rfl⟩,.int .i64 ((m.toNat ^^^ n.toNat:Nat):Int),?_,λ_ _=>rfl⟩
  have hx:m.toNat ^^^ n.toNat<2 ^ 63:=Nat.xor_lt_two_pow (by simp only [imax] at h3;omega) (by simp only [imax] at h4;omega)
  have hw:IntKind.i64.wrap ((m.toNat ^^^ n.toNat:Nat):Int)=((m.toNat ^^^ n.toNat:Nat):Int):=oQ (by simp only [gK];omega) (by simp only [imax];omega)
  have hb:(BitVec.ofInt 64 m ^^^ BitVec.ofInt 64 n).toNat=m.toNat ^^^ n.toNat:=by rw [BitVec.toNat_xor,DW h1 h3,DW h2 h4]
  simp only [binOp,Op.intBits]
  simp only [ne_eq,not_true_eq_false,if_false,Sem.run_pure]
  have hb':(BitVec.ofInt IntKind.i64.bits m ^^^ BitVec.ofInt IntKind.i64.bits n).toNat=m.toNat ^^^ n.toNat:=hb
  rw [hb',hw]
 all_goals
  cases hr
  refine⟨_,ζ,⟨_,.inr ⟨_,ζ,ζ⟩⟩,_,?_,λ_ _=>rfl⟩
  simp [binOp,Op.intCmp]
  try rfl
theorem aaE {op:BinOp}{m n:Int}{r:AV}(hr:(uop op m n).vF r) (w:World) (t:TypeId):∃v,r= .s v∧(∃u,v= .v u∨∃b,v= .q b∧u= .bool b)∧∃val,(binOp op t (.int .u8 m) (.int .u8 n)).run P w= .ok val w∧∀T β,v.rel T β val:=by
 cases op<;>simp only [uop] at hr<;>(try (exact hr.elim))
 case add=>
  obtain⟨hp,rfl⟩:=hr
  refine⟨_,ζ,⟨_,.inl rfl⟩,.int .u8 (m+n),?_,λ_ _=>rfl⟩
  have:=wrap_u8 hp.1 hp.2
  simp [binOp,Op.intArith,this]
 case sub=>
  obtain⟨hp,rfl⟩:=hr
  refine⟨_,ζ,⟨_,.inl rfl⟩,.int .u8 (m-n),?_,λ_ _=>rfl⟩
  have:=wrap_u8 hp.1 hp.2
  simp [binOp,Op.intArith,this]
 case mul=>
  obtain⟨hp,rfl⟩:=hr
  refine⟨_,ζ,⟨_,.inl rfl⟩,.int .u8 (m*n),?_,λ_ _=>rfl⟩
  have:=wrap_u8 hp.1 hp.2
  simp [binOp,Op.intArith,this]
 all_goals
  cases hr
  refine⟨_,ζ,⟨_,.inr ⟨_,ζ,ζ⟩⟩,_,?_,λ_ _=>rfl⟩
  simp [binOp,Op.intCmp]
  try rfl
theorem aaI {op:BinOp}{m n:ByteArray}{r:AV}(hr:(sop op m n).vF r) (w:World) (t:TypeId):∃v,r= .s v∧(∃u,v= .v u∨∃b,v= .q b∧u= .bool b)∧∃val,(binOp op t (.string m) (.string n)).run P w= .ok val w∧∀T β,v.rel T β val:=by
 cases op<;>simp only [sop] at hr<;>(try (exact hr.elim))
 case add=>
  obtain⟨hp,rfl⟩:=hr
  refine⟨_,ζ,⟨_,.inl rfl⟩,.string (m++n),?_,λ_ _=>rfl⟩
  have:=run_string_add_sum (P:=P) (w:=w) m n (by have h:=hp;simp only [imax] at h;omega)
  simp [binOp,this]
 case eql=>
  cases hr
  refine⟨_,ζ,⟨_,.inr ⟨_,ζ,ζ⟩⟩,_,?_,λ_ _=>rfl⟩
  simp [binOp,Op.stringOp,bytes_beq]
 case neq=>
  cases hr
  refine⟨_,ζ,⟨_,.inr ⟨_,ζ,ζ⟩⟩,_,?_,λ_ _=>rfl⟩
  simp only [binOp,Op.stringOp,bytes_beq]
  simp
 all_goals
  cases hr
  refine⟨_,ζ,⟨_,.inr ⟨_,ζ,ζ⟩⟩,_,?_,λ_ _=>rfl⟩
  simp [binOp,Op.stringOp]
  try rfl
theorem EL {op:BinOp}{c:Ctx}{T:bb}{β:Nat→Nat}{a:Act}{w:World}(hh:Holds N c T β τ a w) (v u:AV) (hv:v.rel T β (a.eval x)) (hu:u.rel T β (a.eval y)) (r:AV) (hr:(afl op v u).vF r):
  (∀i∈r.boxes,i∈v.boxes∨i∈u.boxes)∧∃val,(execOp a.eval ⟨some d,.binOp op t x y t',ty,pos,af,g⟩).run P w= .ok (.value val) w∧r.rel T β val:=by
  have fin:∀(v1 v2:Value),a.eval x=v1→a.eval y=v2→(eqGuard op t x y v1 v2).run P w= .ok () w→(∃v',r= .s v'∧(∃u,v'= .v u∨∃b,v'= .q b∧u= .bool b)∧∃val,(binOp op t v1 v2).run P w= .ok val w∧∀T β,v'.rel T β val)→
    (∀i∈r.boxes,i∈v.boxes∨i∈u.boxes)∧∃val,(execOp a.eval ⟨some d,.binOp op t x y t',ty,pos,af,g⟩).run P w= .ok (.value val) w∧r.rel T β val:=by
   rintro v1 v2 e1 e2 hg ⟨v',rfl,hu,val,fk,c6⟩
   refine⟨λi hi=>?_,val,?_,c6 T β⟩
   ·obtain⟨u,rfl |⟨b,rfl,_⟩⟩:=hu<;>simp [AV.boxes,A0.boxes,SV.boxes] at hi
   ·simp [execOp,e1,e2,hg,fk]
  unfold afl at hr
  split at hr
  ·exact fin _ _ hv hu (by cases op<;>simp [eqGuard]) (abQ hr w t)
  ·exact fin _ _ hv hu (by cases op<;>simp [eqGuard]) (aaE hr w t)
  ·exact fin _ _ hv hu (by cases op<;>simp [eqGuard]) (aaI hr w t)
  ·exact hr.elim
theorem aj3 {op:BinOp}(hd:d<N):fv P N ⟨some d,.binOp op t x y t',ty,pos,af,g⟩ (bY x λv=>bY y λu=>.ret ((afl op v u).rs d)):=
 fv.DS rfl hd λc T β τ a w hh v u hv hu r hr=>EL hh v u hv hu r hr
def ah7 (wr:Bool) (op:BinOp) (x y:AV):V1:=
 match wr with
 |false=>afl op x y
 |true=>match op,x,y with
  |.add,.o (.s (.v (.int .i64 m))),.o (.s (.v (.int .i64 n)))=>.go (.int (IntKind.i64.wrap (m+n)))
  |.sub,.o (.s (.v (.int .i64 m))),.o (.s (.v (.int .i64 n)))=>.go (.int (IntKind.i64.wrap (m-n)))
  |_,_,_=>afl op x y
theorem ail {wr:Bool}{op:BinOp}(hd:d<N):fv P N ⟨some d,.binOp op t x y t',ty,pos,af,g⟩ (bY x λv=>bY y λu=>.ret ((ah7 wr op v u).rs d)):=by
 cases wr with
 |false=>exact aj3 hd
 |true=>
  refine fv.DS rfl hd λc T β τ a w hh v u hv hu r hr=>?_
  unfold ah7 at hr
  simp only at hr
  split at hr
  ·cases hr
   refine⟨adv _ _ _,.int .i64 _,?_,ζ⟩
   have e1:a.eval x=_:=hv
   have e2:a.eval y=_:=hu
   simp [execOp,e1,e2,eqGuard,binOp,Op.intArith]
  ·cases hr
   refine⟨adv _ _ _,.int .i64 _,?_,ζ⟩
   have e1:a.eval x=_:=hv
   have e2:a.eval y=_:=hu
   simp [execOp,e1,e2,eqGuard,binOp,Op.intArith]
  ·exact EL hh v u hv hu r hr
def ah8 (op:BinOp) (x y:AV):V1:=
 match asB x,asB y with
 |some m,some n=>match op with
  |.eql=>.go (.q (m==n))
  |.neq=>.go (.q (m !=n))
  |_=>.no
 |_,_=>.no
theorem aj4 {op:BinOp}(ht:P.underlying t=some .bool) (hd:d<N):fv P N ⟨some d,.binOp op t x y t',ty,pos,af,g⟩ (bY x λv=>bY y λu=>.ret ((ah8 op v u).rs d)):=
 fv.DS rfl hd λc T β τ a w hh v u hv hu r hr=>by
  unfold ah8 at hr
  split at hr
  ·rename_i m n h1 h2
   have e1:=AL h1 hv
   have e2:=AL h2 hu
   split at hr
   ·cases hr
    refine⟨ZF _ _ _,.bool (m==n),?_,ζ⟩
    have:=run_eql_bool (P:=P) w t m n ht
    simp [execOp,e1,e2,eqGuard,this]
   ·cases hr
    refine⟨ZF _ _ _,.bool (m !=n),?_,ζ⟩
    have:=run_neq_bool (P:=P) w t m n ht
    simp [execOp,e1,e2,eqGuard,this]
    cases m<;>cases n<;>rfl
   ·exact hr.elim
  ·exact hr.elim
def FldsI (P:Program) (I:TypeId→Nat→Prop):List (String×TypeId×Nat)→Nat→Nat→Prop
 |[],k,n=>k=n
 | f :: fs, k, n => f.1 ≠ "_" ∧ f.2.2 = k ∧ ((P.underlying f.2.1 = some (.int .i64) ∧ Sh P f.2.1 = some (false, 1) ∧ FldsI P I fs (k + 1) n) ∨ ∃ m, Sh P f.2.1 = some (true, m) ∧ I f.2.1 m ∧ FldsI P I fs (k + m) n)
def IntsD (P:Program):Nat→TypeId→Nat→Prop
 |0,_,_=>False
 |d+1,t,n=>P.underlying t=some (.struct (P.fieldsOf t))∧P.stoodInHeld t=false∧∃L,(P.fieldsOf t).toList.map (λf=>(f.name,f.type,f.offset))=L∧FldsI P (IntsD P d) L 0 n
theorem T7 {xs:Array Value}{l:List Int}(hx:xs.toList=l.map (Value.int .i64)) (k m:Nat):(xs.extract k (k+m)).toList=((l.drop k).take m).map (Value.int .i64):=by
 rw [Array.toList_extract,hx,List.extract_eq_take_drop,List.map_take,List.map_drop,ZG4]
theorem YV {P:Program}:∀{d:Nat}{t:TypeId}{n:Nat},IntsD P d t n→∀(w:World) (xs ys:Array Value) (l m:List Int),xs.toList=l.map (Value.int .i64)→ys.toList=m.map (Value.int .i64)→l.length=n→m.length=n→∀dd,d<dd→
  (Op.equalIn dd t (.agg xs) (.agg ys)).run P w= .ok (decide (l=m)) w
 |d+1,t,n,⟨hu,hh,L,hL,hF⟩,w,xs,ys,l,m,hx,hy,hl,hm,dd,hd=>by
  obtain⟨e,rfl⟩:∃e,dd=e+2:=⟨dd-2,by omega⟩
  rw [run_equalIn_struct (P:=P) w (e+1) t xs ys hu hh]
  have key:∀(fs:List Field) (L:List (String×TypeId×Nat)) (k:Nat),fs.map (λf=>(f.name,f.type,f.offset))=L→FldsI P (IntsD P d) L k n→k≤n→(Op.eqFields (e+1) xs ys fs).run P w= .ok (decide (l.drop k=m.drop k)) w:=by
   intro fs
   induction fs with
   |nil=>
    intro L k hL hF hk
    cases hL
    have hk':k=n:=hF
    rw [List.drop_of_length_le (by omega),List.drop_of_length_le (by omega)]
    simp [Op.eqFields]
   |cons f fs ih=>
    intro L k hL hF hk
    cases hL
    obtain⟨h1,h2,hF⟩:=hF
    have h1 : f.name ≠ "_" := h1
    have h2:f.offset=k:=h2
    rcases hF with ⟨h3,h4,hF⟩ |⟨j,h4,h3,hF⟩
    ·have hkn:k+1≤n:=by
      rcases Nat.lt_or_ge n (k+1) with h |h
      ·exact absurd (ih _ (k+1) rfl hF) (λ_=>by
        have:∀(L:List (String×TypeId×Nat)) (k:Nat),FldsI P (IntsD P d) L k n→k≤n:=by
         intro L
         induction L with
         |nil=>intro k h;exact ZA8 h
         |cons g L ih=>
          intro k h
          rcases h.2.2 with h |⟨j,_,_,h⟩
          ·have:=ih _ h.2.2;omega
          ·have:=ih _ h;omega
        have:=this _ _ hF;omega)
      ·exact h
     have hkl:k<l.length:=by omega
     have hkm:k<m.length:=by omega
     have p1:(part f.type xs f.offset).run P w= .ok (.int .i64 l[k]) w:=by
      have:xs[f.offset]?=some (.int .i64 l[k]):=by
       rw [h2,←Array.getElem?_toList,hx];simp [hkl]
      simp [part,(jJ h4 w).1,this]
     have p2:(part f.type ys f.offset).run P w= .ok (.int .i64 m[k]) w:=by
      have:ys[f.offset]?=some (.int .i64 m[k]):=by
       rw [h2,←Array.getElem?_toList,hy];simp [hkm]
      simp [part,(jJ h4 w).1,this]
     have p3:=run_equalIn_int (P:=P) w e f.type .i64 .i64 l[k] m[k] h3
     have p4:=ih _ (k+1) rfl hF hkn
     have e1:l.drop k=l[k]::l.drop (k+1):=List.drop_eq_getElem_cons hkl
     have e2:m.drop k=m[k]::m.drop (k+1):=List.drop_eq_getElem_cons hkm
     have hg:decide (l.drop k=m.drop k)=((l[k]==m[k])&&decide (l.drop (k+1)=m.drop (k+1))):=by
      rw [Bool.eq_iff_iff]
      simp only [decide_eq_true_eq,ZA9,beq_iff_eq]
      rw [e1,e2]
      exact List.cons_eq_cons
     rw [hg]
     simp only [Op.eqFields,h1,ne_eq,not_false_eq_true,if_true,Sem.run_bind,p1,p2,p3,Result.andThen_ok]
     cases l[k]==m[k] with
     |true=>simp [p4]
     |false=>simp
    ·have hkn:k+j≤n:=by
      have:∀(L:List (String×TypeId×Nat)) (k:Nat),FldsI P (IntsD P d) L k n→k≤n:=by
       intro L
       induction L with
       |nil=>intro k h;exact ZA8 h
       |cons g L ih=>
        intro k h
        rcases h.2.2 with h |⟨j,_,_,h⟩
        ·have:=ih _ h.2.2;omega
        ·have:=ih _ h;omega
      exact this _ _ hF
     have p1:(part f.type xs f.offset).run P w= .ok (.agg (xs.extract k (k+j))) w:=by
      simp [part,(jJ h4 w).1,(jJ h4 w).2,h2]
     have p2:(part f.type ys f.offset).run P w= .ok (.agg (ys.extract k (k+j))) w:=by
      simp [part,(jJ h4 w).1,(jJ h4 w).2,h2]
     have p3:=YV h3 w _ _ _ _ (T7 hx k j) (T7 hy k j) (by rw [ZB9,ZC8];omega) (by rw [ZB9,ZC8];omega) (e+1) (by omega)
     have p4:=ih _ (k+j) rfl hF hkn
     have hg:decide (l.drop k=m.drop k)=(decide ((l.drop k).take j=(m.drop k).take j)&&decide (l.drop (k+j)=m.drop (k+j))):=by
      rw [Bool.eq_iff_iff]
      simp only [decide_eq_true_eq,ZA9]
      constructor
      ·intro h
       rw [←ZF9,←ZF9,h];exact⟨rfl,rfl⟩
      ·rintro⟨h,h'⟩
       rw [←ZG1 j (l.drop k),←ZG1 j (m.drop k),h,ZF9,ZF9,h']
     rw [hg]
     simp only [Op.eqFields,h1,ne_eq,not_false_eq_true,if_true,Sem.run_bind,p1,p2,p3,Result.andThen_ok]
     cases decide ((l.drop k).take j=(m.drop k).take j) with
     |true=>simp [p4]
     |false=>simp
  have:=key (P.fieldsOf t).toList L 0 hL hF (ZA7 _)
  simpa using this
structure aj7 (P:Program) (t:TypeId) (n:Nat):Prop where
 ints:∃d,d≤100∧IntsD P d t n
 guard:P.eqGuardType P.depth t=false
def ru:List SV→Bool
 |[]=>true
 |.v (.int .i64 _)::l=>ru l
 |_::_=>false
theorem y9:∀{l:List SV},ru l=true→∀x∈l,∃n,x= .v (.int .i64 n)
 |[],_,x,h=>by cases h
 |y::l,h,x,hx=>by
  unfold ru at h
  split at h
  ·rename_i heq;cases heq
  ·rename_i n l' heq
   cases heq
   rcases ZB8.1 hx with rfl |hx
   ·exact⟨n,rfl⟩
   ·exact y9 h x hx
  ·cases h
theorem T9 {T:bb}{β:Nat→Nat}:∀{l m:List SV}{xs ys:List Value}{b:Bool},eqL l m=some b→ru l=true→dN T β l xs→dN T β m ys→
  ∃p q:List Int,xs=p.map (Value.int .i64)∧ys=q.map (Value.int .i64)∧p.length=l.length∧q.length=l.length∧b=decide (p=q)
 |[],[],[],[],b,h,_,_,_=>by cases h;exact⟨[],[],rfl,rfl,rfl,rfl,by simp⟩
 |[],[],_::_,_,_,_,_,h,_=>h.elim
 |[],[],[],_::_,_,_,_,_,h=>h.elim
 |[],_::_,_,_,_,h,_,_,_=>by cases h
 |[x],[],_,_,_,h,_,_,_=>by cases h
 |x::x'::l,[],_,_,_,h,_,_,_=>by cases h
 |x::l,y::m,[],_,_,_,_,h,_=>h.elim
 |x::l,y::m,_::_,[],_,_,_,_,h=>h.elim
 |[x],[y],[v],[u],b,h,ha,h1,h2=>by
  obtain⟨n,rfl⟩:=y9 ha x (by simp)
  have h':eqC (.v (.int .i64 n)) y=some b:=h
  unfold eqC at h'
  split at h'
  ·rename_i k k' e1
   cases e1;cases h'
   have e1:v= .int .i64 n:=h1.1
   have e2:u= .int .i64 k':=h2.1
   exact⟨[n],[k'],by simp [e1],by simp [e2],rfl,rfl,by simp⟩
  ·rename_i e1;cases e1
  ·cases h'
 |[x],[y],_::_::_,_,_,_,_,h,_=>h.2.elim
 |[x],[y],[_],_::_::_,_,_,_,_,h=>h.2.elim
 |[x],y::y'::m,_,_,b,h,_,_,_=>by
  simp only [eqL] at h
  split at h
  ·rename_i _ q _ hq;cases hq
  ·cases h
 |x::x'::l,[y],_,_,b,h,_,_,_=>by
  simp only [eqL] at h
  split at h
  ·rename_i _ q _ hq;cases l<;>cases hq
  ·cases h
 |x::x'::l,y::y'::m,v::xs,u::ys,b,h,ha,h1,h2=>by
  obtain⟨n,rfl⟩:=y9 ha x (by simp)
  simp only [eqL] at h
  split at h
  ·rename_i p0 q0 hp hq
   cases h
   have ha':ru (x'::l)=true:=by simpa [ru] using ha
   obtain⟨p,q,e1,e2,l1,l2,e3⟩:=T9 hq ha' h1.2 h2.2
   unfold eqC at hp
   split at hp
   ·rename_i k k' e4
    cases e4;cases hp
    have f1:v= .int .i64 n:=h1.1
    have f2:u= .int .i64 k':=h2.1
    refine⟨n::p,k'::q,by simp [f1,e1],by simp [f2,e2],by simp [l1],by simp [l2],?_⟩
    rw [e3]
    by_cases hx:n=k'<;>by_cases hy:p=q<;>simp [hx,hy]
   ·rename_i e4;cases e4
   ·cases hp
  ·cases h
def ahh (n:Nat) (op:BinOp) (x y:AV):V1:=
 match x,y with
 |.o (.a l),.o (.a m)=>bif ru l&&Nat.beq l.length n then (match eqL l m with
  |some b=>(match op with
   |.eql=>.go (.q b)
   |.neq=>.go (.q (!b))
   |_=>.no)
  |none=>.no) else .no
 |_,_=>.no
theorem ajU {n:Nat}{op:BinOp}(hI:aj7 P t n) (hd:d<N):fv P N ⟨some d,.binOp op t x y t',ty,pos,af,g⟩ (bY x λv=>bY y λu=>.ret ((ahh n op v u).rs d)):=
 fv.DS rfl hd λc T β τ a w hh v u hv hu r hr=>by
  unfold ahh at hr
  split at hr
  ·rename_i l m
   cases hb:ru l&&Nat.beq l.length n with
   |false=>rw [hb] at hr;exact hr.elim
   |true=>
    rw [hb] at hr
    simp only [ZA9] at hb
    have hl:l.length=n:=by simpa using hb.2
    simp only [cond_true] at hr
    split at hr
    ·rename_i b he
     obtain⟨xs,e1,h1⟩:=hv
     obtain⟨ys,e2,h2⟩:=hu
     obtain⟨p,q,f1,f2,l1,l2,rfl⟩:=T9 he hb.1 h1 h2
     have hg:=run_eqGuard_agg (P:=P) w op t x y xs ys hI.guard
     obtain⟨dp,hdp,hD⟩:=hI.ints
     have hq:=YV hD w xs ys p q f1 f2 (by omega) (by omega) 10000 (by omega)
     split at hr
     ·cases hr
      refine⟨ZF _ _ _,.bool (decide (p=q)),?_,ζ⟩
      have:=run_eql_struct (P:=P) w t xs ys
      rw [hq] at this
      simp [execOp,e1,e2,hg,this]
     ·cases hr
      refine⟨ZF _ _ _,.bool (!decide (p=q)),?_,ζ⟩
      have:=run_neq_struct (P:=P) w t xs ys
      rw [hq] at this
      simp [execOp,e1,e2,hg,this]
     ·exact hr.elim
    ·exact hr.elim
  ·exact hr.elim
def ahy (x:AV):V1:=
 match asB x with
 |some b=>.go (.q (!b))
 |none=>.no
theorem ajV (hd:d<N):fv P N ⟨some d,.unOp .not t x,ty,pos,af,g⟩ (bY x λv=>.ret ((ahy v).rs d)):=
 fv.uu rfl hd λc T β τ a w hh v hv r hr=>by
  unfold ahy at hr
  split at hr
  ·rename_i b hb
   cases hr
   have e:=AL hb hv
   exact⟨adu _ _,.bool (!b),by simp [execOp,e,Op.unary],rfl⟩
  ·exact hr.elim
def ahD:AV→V1
 |.o (.s (.v (.int .i64 n)))=>.mZ (gK<n∧n≤imax) (.int (-n))
 |_=>.no
theorem ajX (hd:d<N):fv P N ⟨some d,.unOp .neg t x,ty,pos,af,g⟩ (bY x λv=>.ret ((ahD v).rs d)):=
 fv.uu rfl hd λc T β τ a w hh v hv r hr=>by
  unfold ahD at hr
  split at hr
  ·rename_i n
   obtain⟨h1,rfl⟩:=hr
   have e:a.eval x= .int .i64 n:=hv
   refine⟨nob _ _,.int .i64 (-n),?_,ζ⟩
   have:=oQ (n:= -n) (by have:=h1.2;simp only [gK,imax] at this ⊢;omega) (by have:=h1.1;simp only [gK,imax] at this ⊢;omega)
   simp [execOp,e,Op.unary,Op.intArith,this]
  ·exact hr.elim
