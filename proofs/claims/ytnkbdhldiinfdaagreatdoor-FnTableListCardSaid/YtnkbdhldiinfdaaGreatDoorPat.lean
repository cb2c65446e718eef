/- Part 20 of the proof of a drawn law. -/
import Derived.Test.YtnkbdhldiinfdaaGreatDoorPap
import Derived.Test.YtnkbdhldiinfdaaGreatDoorPar
set_option maxHeartbeats 20000000
set_option maxRecDepth 100000
set_option linter.all false
namespace Go.Proofs.YtnkbdhldiinfdaaGreatDoor
namespace GL
abbrev fp:=ay×bf×Bool
abbrev oG (b:(Nat×Nat×Nat×Int×Nat×Int×Nat×Bool×Int×Int×Int×Int×Int×Int×Int×Bool)×List ByteArray×List Int×List Int×List Pt×List Pt):fp:=((b.2.1,b.2.2.1,b.2.2.2.1,b.1.2.2.2.1,b.2.2.2.2.1,b.1.2.2.2.2.2.1,b.2.2.2.2.2,b.1.2.2.2.2.2.2.2.1),(b.1.2.2.2.2.2.2.2.2.1,b.1.2.2.2.2.2.2.2.2.2.1,b.1.2.2.2.2.2.2.2.2.2.2.1,b.1.2.2.2.2.2.2.2.2.2.2.2.1,b.1.2.2.2.2.2.2.2.2.2.2.2.2.1,b.1.2.2.2.2.2.2.2.2.2.2.2.2.2.1,b.1.2.2.2.2.2.2.2.2.2.2.2.2.2.2.1),b.1.2.2.2.2.2.2.2.2.2.2.2.2.2.2.2)
abbrev fsW (b:(Nat×Nat×Nat×Int×Nat×Int×Nat×Bool×Int×Int×Int×Int×Int×Int×Int×Bool)×List ByteArray×List Int×List Int×List Pt×List Pt):Prop:=whole b.1.1 b.1.2.1 b.1.2.2.1 b.1.2.2.2.2.1 b.1.2.2.2.2.2.2.1 b.2.1 b.2.2.1 b.2.2.2.1 b.2.2.2.2.1 b.2.2.2.2.2
abbrev a6 (F:fp) (id:Int):fu:=(cK F.1 F.2.1 id).1
def mY (F:fp) (id:Int) (n:fu):fp:=bif F.2.2 then F else ((aY F.1 F.2.1 id (aC n)).1,(aY F.1 F.2.1 id (aC n)).2.1,!(aY F.1 F.2.1 id (aC n)).2.2)
theorem PS {F:fp}{id:Int}{n:fu}(h:F.2.2=true):mY F id n=F:=by unfold mY;rw [h];rfl
theorem PR {F:fp}{id:Int}{n:fu}(h:F.2.2=false):mY F id n=((aY F.1 F.2.1 id (aC n)).1,(aY F.1 F.2.1 id (aC n)).2.1,!(aY F.1 F.2.1 id (aC n)).2.2):=by unfold mY;rw [h];rfl
abbrev z1 (F:fp) (id:Int) (text:ByteArray):ay×bf×Bool:=dG F.1 (cT (a6 F id)) text
def ch (F:fp) (id:Int) (l:List eU):fp:=bif F.2.2 then F else mY ((z1 F id (eh l)).1,F.2.1,!(z1 F id (eh l)).2.2) id (kb (a6 F id) (eh l).size (z1 F id (eh l)).2.1)
theorem JJ {F:fp}{id:Int}{l:List eU}(h:F.2.2=true):ch F id l=F:=by unfold ch;rw [h];rfl
theorem JI {F:fp}{id:Int}{l:List eU}(h:F.2.2=false):ch F id l=mY ((z1 F id (eh l)).1,F.2.1,!(z1 F id (eh l)).2.2) id (kb (a6 F id) (eh l).size (z1 F id (eh l)).2.1):=by unfold ch;rw [h];rfl
def plE (F:fp) (a:Int):Int×Int:=bif decide (a<0) then (0,2) else bif decide ((a6 F a).1≠2) then (0,4) else (a,0)
abbrev nZ (path:ByteArray):List ByteArray:=(bC path).take (((bC path).length:Int)-1).toNat
def dR (F:fp) (path:ByteArray):Int×Int:=bif decide (((bC path).length:Int)=0) then (0,3) else plE F (uM F.1 F.2.1 (nZ path))
def bB (F:fp) (path:ByteArray):Int:=uM F.1 F.2.1 (bC path)
def dw (F:fp) (path:ByteArray):Int×Int:=bif decide ((dR F path).2>0) then (0,(dR F path).2) else bif decide (bB F path≥0) then (0,3) else ((dR F path).1,0)
theorem aer (s:ay) (t:bf):∀{l:List ByteArray}{k:Int},-1≤k→k≤15→-1≤EZ s t l k∧EZ s t l k≤15
 |[],k,h0,h1=>⟨h0,h1⟩
 |x::l,k,h0,h1=>by
  cases h: !(bJ s (cK s t k).1).2 with
  |true=>rw [Z0 h];omega
  |false=>cases h2:decide (lu (bJ s (cK s t k).1).1 x<0) with
   |true=>rw [ZZ h2];omega
   |false=>
    rw [MP h h2]
    have h3:=aA h2
    have h4:=y8 (l:=(bJ s (cK s t k).1).1) (name:=x) (by omega)
    have h5:=(FO s (cK s t k).1).2 _ (bR (ek:=aK) (l:=(bJ s (cK s t k).1).1) (k:=(lu (bJ s (cK s t k).1).1 x).toNat) (by omega))
    exact aer s t (by omega) (by omega)
theorem aeq (s:ay) (t:bf) (l:List ByteArray): -1≤uM s t l∧uM s t l≤15:=aer s t (by omega) (by omega)
theorem ZY (s:ay) (t:bf) {x:ByteArray}:∀{l:List ByteArray}{k:Int},0≤EZ s t (l++[x]) k→0≤k→0≤EZ s t l k∧(bJ s (cK s t (EZ s t l k)).1).2=true∧0≤lu (bJ s (cK s t (EZ s t l k)).1).1 x∧EZ s t (l++[x]) k=(nth aK (bJ s (cK s t (EZ s t l k)).1).1 (lu (bJ s (cK s t (EZ s t l k)).1).1 x).toNat).2
 |[],k,h,hk=>by
  have h:0≤EZ s t [x] k:=h
  cases h1: !(bJ s (cK s t k).1).2 with
  |true=>rw [Z0 h1] at h;exact absurd h (by decide)
  |false=>cases h2:decide (lu (bJ s (cK s t k).1).1 x<0) with
   |true=>rw [ZZ h2] at h;exact absurd h (by decide)
   |false=>
    have h3:=aA h2
    exact⟨hk,cL h1,by show 0≤lu (bJ s (cK s t k).1).1 x;omega,MP h1 h2⟩
 |y::l,k,h,hk=>by
  have h:0≤EZ s t (y::(l++[x])) k:=h
  cases h1: !(bJ s (cK s t k).1).2 with
  |true=>rw [Z0 h1] at h;exact absurd h (by decide)
  |false=>cases h2:decide (lu (bJ s (cK s t k).1).1 y<0) with
   |true=>rw [ZZ h2] at h;exact absurd h (by decide)
   |false=>
    have h3:=aA h2
    have h4:=y8 (l:=(bJ s (cK s t k).1).1) (name:=y) (by omega)
    have h5:=(FO s (cK s t k).1).2 _ (bR (ek:=aK) (l:=(bJ s (cK s t k).1).1) (k:=(lu (bJ s (cK s t k).1).1 y).toNat) (by omega))
    rw [MP h1 h2] at h
    rw [MP h1 h2,ZG7,MP h1 h2]
    exact ZY s t h (by omega)
structure cY (F:fp) (n:Nat):Prop where
 wg:F.1.wg n
 ok:F.2.1.ok
 fs:F.2.2=false→FS F.1 F.2.1
theorem cY.mono {F:fp}{n m:Nat}(h:cY F n) (hm:n≤m):cY F m:=⟨h.wg.mono hm,h.ok,h.fs⟩
theorem cY.HR {F:fp}{n:Nat}{id:Int}{nd:fu}(hw:F.1.wg n) (cG:F.2.1.ok) (h0:0≤id) (h1:id≤15) (hf:F.2.2=false→(aY F.1 F.2.1 id (aC nd)).2.2=true→FS (aY F.1 F.2.1 id (aC nd)).1 (aY F.1 F.2.1 id (aC nd)).2.1):cY (mY F id nd) (n+6):=by
 cases hfu:F.2.2 with
 |true=>rw [PS hfu];exact⟨hw.mono (by omega),cG,λh=>by rw [hfu] at h;cases h⟩
 |false=>
  rw [PR hfu]
  have h2:=nq (k:=id) (text:=aC nd) hw cG h0 h1
  exact⟨h2.1,h2.2.1,λh=>hf hfu (cL h)⟩
theorem FS.a6 {s:ay}{t:bf}{b:Bool}(h:FS s t) (i:Nat):GL.a6 (s,t,b) i=nodeAt s t i:=by
 show (GL.cK s t i).1=_
 rw [h.cK (by omega)];rfl
theorem cY.write {F:fp}{n i:Nat}{l:List eU}(h:cY F n) (hi:i<16):cY (ch F i l) (n+123)∧(F.2.2=false→(ch F i l).2.2=false→∀k,k<16→k≠i→getM (ch F i l).1 (ch F i l).2.1 k=getM F.1 F.2.1 k):=by
 obtain⟨s,t,b⟩:=F
 cases b with
 |true=>rw [JJ rfl];exact⟨h.mono (by omega),λh=>by cases h⟩
 |false=>
  have uL:=h.fs rfl
  rw [JI rfl]
  have hb:=UJ (text:=eh l) h.wg (pe s t i)
  cases hz:(z1 (s,t,false) i (eh l)).2.2 with
  |false=>
   refine⟨(cY.HR (F:=((z1 (s,t,false) i (eh l)).1,t,true)) (n:=n+117) hb.1 h.ok (by omega) (by omega) λh=>by cases h).mono (by omega),λ_ h2=>?_⟩
   rw [PS rfl] at h2;cases h2
  |true=>
   have key:=λhz2=>uL.write (i:=i) (text:=eh l) hi (by rw [←uL.a6 (b:=false) i];exact hz) hz2
   rw [←uL.a6 (b:=false) i] at key
   refine⟨(cY.HR (F:=((z1 (s,t,false) i (eh l)).1,t,false)) (n:=n+117) hb.1 h.ok (by omega) (by omega) λ_ hz2=>(key hz2).1).mono (by omega),λ_ h2=>?_⟩
   rw [Bool.not_true,PR rfl] at h2 ⊢
   exact (key (cL h2)).2.1
theorem TU {l:List ByteArray}:∀{f k:Nat},0≤frF f l k→((k:Int)≤frF f l k∧frF f l k<((k+f:Nat):Int))∧(frF f l k≥(l.length:Int)∨nth ab l (frF f l k).toNat=⟨#[]⟩)
 |0,k,h=>absurd (show (0:Int)≤-1 from h) (by decide)
 |f+1,k,h=>by
  cases h1:decide ((k:Int)≥(l.length:Int)) with
  |true=>rw [agZ h1];exact⟨⟨ZC1 _,by omega⟩,.inl (aJ h1)⟩
  |false=>cases h2:decide (nth ab l k=⟨#[]⟩) with
   |true=>rw [agY h2];exact⟨⟨ZC1 _,by omega⟩,.inr (by rw [ZA5];exact aJ h2)⟩
   |false=>
    rw [agX h1 h2] at h ⊢
    have:=TU (l:=l) (f:=f) (k:=k+1) h
    exact⟨⟨by omega,by omega⟩,this.2⟩
theorem TT {s:ay}{t:bf}(h:Tree s t t.d) (h0:0≤xo s t):xo s t<16∧getM s t (xo s t).toNat=⟨#[]⟩:=by
 have h1:=TU (l:=bo s t) (f:=16) (k:=0) h0
 refine⟨by have:=h1.1.2;unfold xo;omega,?_⟩
 by_cases hm:(xo s t).toNat<t.many.toNat
 ·rw [←xO h.ok hm]
  rcases h1.2 with h2 |h2
  ·rw [fq h.ok] at h2
   exact absurd hm (by unfold xo at *;omega)
  ·exact h2
 ·exact mW h (by have:=h.m0;omega)
theorem cY.make {F:fp}{n:Nat}{kind:Int}(h:cY F n) (hf:F.2.2=false) (h0:0≤xo F.1 F.2.1):cY (mY F (xo F.1 F.2.1) (kind,1,0,ny)) (n+6):=by
 have uL:=h.fs hf
 obtain⟨h1,h2⟩:=TT uL.fi.tree h0
 refine cY.HR h.wg h.ok h0 (by omega) λ_ hz=>?_
 obtain⟨i,hi⟩:∃i:Nat,xo F.1 F.2.1=i:=⟨(xo F.1 F.2.1).toNat,by omega⟩
 rw [hi] at hz h2 ⊢
 rw [ZA5] at h2
 exact (uL.make (by omega) h2 hz).1
theorem cY.adG {F:fp}{n i:Nat}{nd:fu}{l:Int}(h:cY F n) (hi:i<16) (hi0:0<i) (hn:F.2.2=false→nd=nodeAt F.1 F.2.1 i):cY (mY F i (nd.1,l,nd.2.2)) (n+6):=by
 refine cY.HR h.wg h.ok (by omega) (by omega) λhf hz=>?_
 rw [hn hf] at hz ⊢
 exact ((h.fs hf).adG hi hi0 hz).1
theorem cY.drop {F:fp}{n i:Nat}(h:cY F n) (hf:F.2.2=false) (hi:i<16) (hi0:0<i):NC F.1 (cT (cK F.1 F.2.1 i).1)=true∧((cq F.1 F.2.1 i).2.2=true→FS (cq F.1 F.2.1 i).1 (cq F.1 F.2.1 i).2.1):=by
 have uL:=h.fs hf
 refine⟨?_,λhz=>(uL.drop hi hi0 hz).1⟩
 have hn:(cK F.1 F.2.1 i).1=nodeAt F.1 F.2.1 i:=by rw [uL.cK (by omega)];rfl
 rw [hn]
 exact (UN (uL.at hi).1.rz).1
theorem XV {s:ay}{t:bf}{k:Int}{n:Nat}(hs:s.wg n) (ht:t.ok) (h0:0≤k) (h1:k≤15):(cq s t k).1.wg (n+67)∧(cq s t k).2.1.ok:=by
 have hna:=aaz (s:=s) (pe s t k).rd.ok
 have ke:=C0 (l:=allM s (cT (cK s t k).1)) hs.wf
 have hu:(xH s t k).wg (n+40):=⟨ke.1,by have:=ke.2.1;have:=hna.2;have:=hs.g;show (dx _ s).gone.length≤_;omega,by have:=ke.2.2;have:=hna.2;have:=hs.d;show (dx _ s).dead.length≤_;omega,by show (dx _ s).cg≤_;rw [yL];have:=hs.t;omega⟩
 have hp:=nq (k:=k) (text:=⟨#[]⟩) hu ht h0 h1
 have hl:=IC (s:=s) ht k
 rw [rn]
 cases !(aY (xH s t k) t k ⟨#[]⟩).2.2 with
 |true=>exact⟨hp.1.mono (by omega),hp.2.1⟩
 |false=>
  have hc:=FR (many:=mx s t k) hp.1 hp.2.1 hl.1 (ZE0 hl.2 ht.m1)
  exact⟨hc.1,hc.2.1⟩
theorem OK {text:ByteArray}:∀{f:Nat}{k:Int}{s:ay}{t:bf}{n:Nat},s.wg n→t.ok→0≤k→k+f≤16→(qP f k s t text).1.wg (n+6*f)∧(qP f k s t text).2.1.ok
 |0,k,s,t,n,hs,ht,_,_=>⟨hs,ht⟩
 |f+1,k,s,t,n,hs,ht,h0,h1=>by
  have hp:=nq (k:=k) (text:=eJ text k) hs ht h0 (by omega)
  cases hz:(aY s t k (eJ text k)).2.2 with
  |false=>rw [VU hz];exact⟨hp.1.mono (by omega),ht⟩
  |true=>
   rw [VT hz]
   have:=OK (text:=text) (f:=f) (k:=k+1) hp.1 hp.2.1 (by omega) (by omega)
   exact⟨this.1.mono (by omega),this.2⟩
theorem kx.p13 {s:ay}{t:bf}{E:Nat→Bool}{O:Nat→Nat}{text:ByteArray}:∀{f:Nat}{k:Int}{u:ay}{t2:bf},kx s t E O u t2→0≤k→k+f≤16→(qP f k u t2 text).2.2=true→kx s t E O (qP f k u t2 text).1 (qP f k u t2 text).2.1
 |0,k,u,t2,h,_,_,_=>h
 |f+1,k,u,t2,h,h0,h1,hz=>by
  cases hx:(aY u t2 k (eJ text k)).2.2 with
  |false=>rw [VU hx] at hz;cases hz
  |true=>
   rw [VT hx] at hz ⊢
   exact kx.p13 (h.put h0 (by omega) hx).1 (by omega) (by omega) hz
theorem acm {a:Int}{m:Nat}(h0:0≤a) (h1:a+m≤192) (h2:1≤m):0≤a / 12∧a / 12+(((a+m-1) / 12+1-a / 12).toNat:Int)≤16:=by omega
theorem ag8 {s:ay}{nd:fu}{a:Int}{text:ByteArray}{n:Nat}(hs:s.wg n) (ht:(cT nd).ok) (h0:0≤a) (h1:a+text.size≤192):(nB s nd a text).1.wg (n+96)∧(cT (nB s nd a text).2.1).ok:=by
 cases h:decide (text=⟨#[]⟩) with
 |true=>rw [NS h];exact⟨hs.mono (by omega),ht⟩
 |false=>
  have h2:=size_pos (aA h)
  have hb:=acm h0 h1 h2
  rw [NR h]
  have:=OK (text:=UT s nd a text) (f:=((a+text.size-1) / 12+1-a / 12).toNat) hs ht hb.1 hb.2
  exact⟨this.1.mono (by omega),this.2⟩
theorem kx.iU {s u:ay}{t:bf}{E:Nat→Bool}{O:Nat→Nat}{nd:fu}{a:Int}{text:ByteArray}(h:kx s t E O u (cT nd)) (h0:0≤a) (h1:a+text.size≤192) (hz:(nB u nd a text).2.2=true):kx s t E O (nB u nd a text).1 (cT (nB u nd a text).2.1):=by
 cases hd:decide (text=⟨#[]⟩) with
 |true=>rw [NS hd];exact h
 |false=>
  have hb:=acm h0 h1 (size_pos (aA hd))
  rw [NR hd] at hz ⊢
  exact h.p13 hb.1 hb.2 hz
theorem ah4 {s:ay}{nd:fu}{size:Int}{n:Nat}(hs:s.wg n) (uy:cy nd=true) (hn1:nd.1=1) (h0:0≤size) (h1:size≤192):(jb s nd size).1.wg (n+96)∧(cT (jb s nd size).2.1).ok:=by
 have cG:=nW uy
 obtain⟨hm,xB,EW⟩:=node1 uy hn1
 have hpm:bh size 12=(size+12-1) / 12:=rfl
 have hpn:bh nd.2.2.1 12=(nd.2.2.1+12-1) / 12:=rfl
 unfold jb
 cases hd:decide (size≥nd.2.2.1) with
 |true=>
  have hd:=aJ hd
  cases hq:decide (bh size 12=(cT nd).many) with
  |true=>exact⟨hs.mono (by omega),cG⟩
  |false=>
   have hq:=aA hq
   have hp:=nq (k:=bh size 12-1) (text:=⟨#[]⟩) hs cG (by omega) (by omega)
   exact⟨hp.1.mono (by omega),hp.2.1⟩
 |false=>
  have hc:=FR (many:=bh size 12) hs cG (by omega) (by omega)
  show (J8 _ nd _ size _).1.wg _∧(cT (J8 _ nd _ size _).2.1).ok
  unfold J8
  cases !(cF s (cT nd) (bh size 12)).2.2 with
  |true=>exact⟨hc.1.mono (by omega),cG⟩
  |false=>
   cases hz:decide (bh size 12=0) with
   |true=>exact⟨hc.1.mono (by omega),hc.2.1⟩
   |false=>
    have hz:=aA hz
    have:=OK (text:=(jd s nd).extract 0 size.toNat) (f:=(bh size 12-1+1-(bh size 12-1)).toNat) (k:=bh size 12-1) hc.1 hc.2.1 (by omega) (by omega)
    exact⟨this.1.mono (by omega),this.2⟩
theorem kx.c13 {s u:ay}{t:bf}{E:Nat→Bool}{O:Nat→Nat}{nd:fu}{size:Int}(h:kx s t E O u (cT nd)) (uy:cy nd=true) (hn1:nd.1=1) (h0:0≤size) (h1:size≤192) (hz:(jb u nd size).2.2=true):kx s t E O (jb u nd size).1 (cT (jb u nd size).2.1):=by
 obtain⟨hm,xB,EW⟩:=node1 uy hn1
 have hpm:bh size 12=(size+12-1) / 12:=rfl
 have hpn:bh nd.2.2.1 12=(nd.2.2.1+12-1) / 12:=rfl
 unfold jb at hz ⊢
 cases hd:decide (size≥nd.2.2.1) with
 |true=>
  rw [hd] at hz
  have hd:=aJ hd
  cases hq:decide (bh size 12=(cT nd).many) with
  |true=>exact h
  |false=>
   rw [hq] at hz
   have hq:=aA hq
   exact (h.put (by omega) (by omega) hz).1
 |false=>
  rw [hd] at hz
  have hz:(J8 (cF u (cT nd) (bh size 12)) nd (jd u nd) size (bh size 12)).2.2=true:=hz
  show kx s t E O (J8 (cF u (cT nd) (bh size 12)) nd (jd u nd) size (bh size 12)).1 (cT (J8 (cF u (cT nd) (bh size 12)) nd (jd u nd) size (bh size 12)).2.1)
  unfold J8 at hz ⊢
  cases hc:(cF u (cT nd) (bh size 12)).2.2 with
  |false=>rw [hc] at hz;cases hz
  |true=>
   rw [hc] at hz
   have hB:=(h.cut (by omega) (by omega) hc).1
   cases hq:decide (bh size 12=0) with
   |true=>exact hB
   |false=>
    rw [hq] at hz
    have hq:=aA hq
    exact kx.p13 (f:=(bh size 12-1+1-(bh size 12-1)).toNat) hB (by omega) (by omega) hz
theorem cY.change {F:fp}{n i:Nat}{r:ay×fu×Bool}(h:cY F n) (hf:F.2.2=false) (hi:i<16) (hi0:0<i) (hw:r.1.wg (n+96)) (hB:r.2.2=true→kx F.1 F.2.1 (rQ E0 i) O0 r.1 (cT r.2.1)):cY (mY (r.1,F.2.1,!r.2.2) i r.2.1) (n+102):=by
 refine cY.HR (F:=(r.1,F.2.1,!r.2.2)) hw h.ok (by omega) (by omega) λhb hz=>?_
 exact ((h.fs hf).back hi (hB (cL hb)) (λe=>absurd e (by omega)) hz).1
end GL
namespace GL
structure KN (l:List eU):Prop where
 len:l.length≤13
 sz:∀e∈l,e.1.size≤1000
 id:∀e∈l,0≤e.2∧e.2≤999999999
theorem KN.p {l:List eU}(h:KN l):ach l:=⟨by have:=h.len;omega,λe he=>by have:=h.sz e he;omega,h.id⟩
theorem EE:∀{l:List eU}{out:ByteArray},(∀e∈l,e.1.size≤1000∧0≤e.2∧e.2≤999999999)→(l.foldl rm out).size≤out.size+1100*l.length
 |[],out,_=>ZB5 _
 |e::l,out,h=>by
  have h1:=EE (l:=l) (out:=rm out e) λx hx=>h x (by simp [hx])
  have h2:=h e (by simp)
  have h3:(bX e.2).size≤12:=db (ZE0 h2.2.2 (by omega))
  have h4:(rm out e).size=out.size+e.1.size+1+(bX e.2).size+1:=by
   show (out++e.1++⟨#[61]⟩++bX e.2++⟨#[59]⟩).size=_
   simp only [ZB2]
   rw [show (⟨#[61]⟩:ByteArray).size=1 from rfl,show (⟨#[59]⟩:ByteArray).size=1 from rfl]
  rw [List.foldl_cons,ZA1];omega
theorem KN.size {l:List eU}(h:KN l):(eh l).size≤1000000:=by
 have h1:=EE (l:=l) (out:=⟨#[]⟩) λe he=>⟨h.sz e he,h.id e he⟩
 have h2:=h.len
 rw [show (⟨#[]⟩:ByteArray).size=0 from rfl] at h1
 show (l.foldl rm ⟨#[]⟩).size≤_;omega
structure P6 (l:List eU):Prop where
 len:l.length≤12
 sz:∀e∈l,e.1.size≤1000
 id:∀e∈l,0≤e.2∧e.2≤999999999
theorem P6.w {l:List eU}(h:P6 l):KN l:=⟨by have:=h.len;omega,h.sz,h.id⟩
theorem qv (s:ay) (n:fu):P6 (bJ s n).1:=by
 have h:=FO s n
 refine⟨h.1,λe he=>?_,λe he=>?_⟩
 ·have:=DZ (h.2 e he).1;omega
 ·have:=(h.2 e he).2;omega
theorem P6.less {l:List eU}(h:P6 l) (i:Nat):P6 (ew l i):=by
 have hm:∀e∈ew l i,e∈l:=λe he=>by
  rcases ZB4.1 he with h1 |h1
  ·exact ZE6 h1
  ·exact ZF2 h1
 refine⟨?_,λe he=>h.sz e (hm e he),λe he=>h.id e (hm e he)⟩
 show (l.take i++l.drop (i+1)).length≤12
 rw [ZA0,ZB9,ZC8]
 have:=h.len;omega
theorem acg {e x:eU}{d:Bool}(h:E2 e x d=true):d=false:=by
 cases d with
 |false=>rfl
 |true=>cases h
theorem KJ {e:eU}:∀{l out:List eU}{d:Bool},(wi e (xr l e d out)).length=out.length+l.length+(bif d then 0 else 1)
 |[],out,true=>rfl
 |[],out,false=>by show (out++[e]).length=_;rw [ZA0];rfl
 |x::l,out,d=>by
  cases h:E2 e x d with
  |true=>
   rw [YE h,KJ (l:=l) (out:=out++[e]++[x]) (d:=true),acg h,ZA0,ZA0]
   show out.length+1+1+l.length+0=out.length+(l.length+1)+1;omega
  |false=>
   rw [P3 h,KJ (l:=l) (out:=out++[x]) (d:=d),ZA0]
   show out.length+1+l.length+_=out.length+(l.length+1)+_;omega
theorem KI {e:eU}:∀{l out:List eU}{d:Bool},∀y∈wi e (xr l e d out),y∈out∨y∈l∨y=e
 |[],out,true=>λy hy=>.inl hy
 |[],out,false=>λy hy=>by
  have hy:y∈out++[e]:=hy
  rcases ZB4.1 hy with h |h
  ·exact .inl h
  ·exact .inr (.inr (ZC7.1 h))
 |x::l,out,d=>λy hy=>by
  cases h:E2 e x d with
  |true=>
   rw [YE h] at hy
   rcases KI y hy with h1 |h1 |h1
   ·rcases ZB4.1 h1 with h2 |h2
    ·rcases ZB4.1 h2 with h3 |h3
     ·exact .inl h3
     ·exact .inr (.inr (ZC7.1 h3))
    ·exact .inr (.inl (by rw [ZC7.1 h2];simp))
   ·exact .inr (.inl (by simp [h1]))
   ·exact .inr (.inr h1)
  |false=>
   rw [P3 h] at hy
   rcases KI y hy with h1 |h1 |h1
   ·rcases ZB4.1 h1 with h2 |h2
    ·exact .inl h2
    ·exact .inr (.inl (by rw [ZC7.1 h2];simp))
   ·exact .inr (.inl (by simp [h1]))
   ·exact .inr (.inr h1)
theorem P6.add {l:List eU}(h:P6 l) {e:eU}(h1:e.1.size≤1000) (h2:0≤e.2∧e.2≤999999999):KN (qR l e):=by
 have hm:∀y∈qR l e,y∈l∨y=e:=λy hy=>(KI y hy).elim (λh=>absurd h ZF6) λh=>h
 refine⟨?_,λy hy=>?_,λy hy=>?_⟩
 ·show (wi e (xr l e false [])).length≤13
  rw [KJ]
  show 0+l.length+1≤13
  have:=h.len;omega
 ·rcases hm y hy with h3 |h3
  ·exact h.sz y h3
  ·rw [h3];exact h1
 ·rcases hm y hy with h3 |h3
  ·exact h.id y h3
  ·rw [h3];exact h2
theorem C7:(cP ⟨#[]⟩).1=[]:=by rfl
theorem UC {s:ay}{n:fu}(h:(bJ s n).1≠[]):n.1=2∧0<n.2.2.1:=by
 cases h1: !(cy n) with
 |true=>rw [aeN h1] at h;exact absurd rfl h
 |false=>cases h2:decide (n.1≠2) with
  |true=>rw [aeM h2] at h;exact absurd rfl h
  |false=>cases h3: !(qJ s (cT n)) with
   |true=>rw [aeL h3] at h;exact absurd rfl h
   |false=>cases h4: !(c7 s (cT n)).2 with
    |true=>rw [aeK h4] at h;exact absurd rfl h
    |false=>cases h5:decide (((c7 s (cT n)).1.size:Int)≠n.2.2.1) with
     |true=>rw [aeJ h5] at h;exact absurd rfl h
     |false=>
      rw [aeI h1 h2 h3 h4 h5] at h
      have h2:=aA h2
      have h5:=aA h5
      refine⟨by omega,?_⟩
      have:(c7 s (cT n)).1≠⟨#[]⟩:=λe=>by rw [e,C7] at h;exact h rfl
      have:=size_pos this
      omega
theorem abX {F:fp}{path:ByteArray}(h:decide ((dw F path).2>0)=false):decide ((dR F path).2>0)=false∧dw F path=((dR F path).1,0):=by
 unfold dw at h ⊢
 cases hp:decide ((dR F path).2>0) with
 |true=>
  rw [hp] at h
  have h:decide ((dR F path).2>0)=false:=h
  rw [hp] at h;cases h
 |false=>cases hs:decide (bB F path≥0) with
  |true=>rw [hp,hs] at h;cases h
  |false=>exact⟨rfl,rfl⟩
theorem OE {F:fp}{path:ByteArray}(h:decide ((dR F path).2>0)=false):1≤(bC path).length∧dR F path=(uM F.1 F.2.1 (nZ path),0)∧0≤uM F.1 F.2.1 (nZ path)∧uM F.1 F.2.1 (nZ path)≤15∧(a6 F (uM F.1 F.2.1 (nZ path))).1=2:=by
 unfold dR at h ⊢
 cases h1:decide (((bC path).length:Int)=0) with
 |true=>rw [h1] at h;cases h
 |false=>
  rw [h1] at h
  have h:decide ((plE F (uM F.1 F.2.1 (nZ path))).2>0)=false:=h
  show _∧plE F (uM F.1 F.2.1 (nZ path))=_∧_
  unfold plE at h ⊢
  cases h2:decide (uM F.1 F.2.1 (nZ path)<0) with
  |true=>rw [h2] at h;cases h
  |false=>cases h3:decide ((a6 F (uM F.1 F.2.1 (nZ path))).1≠2) with
   |true=>rw [h2,h3] at h;cases h
   |false=>
    have h1:=aA h1
    have h2:=aA h2
    have h3:=aA h3
    exact⟨by omega,rfl,by omega,(aeq _ _ _).2,by omega⟩
abbrev dK (path:ByteArray):ByteArray:=nth ab (bC path) ((bC path).length-1)
theorem KD {path:ByteArray}(h:1≤(bC path).length):(dK path).size≤path.size:=CG _ (bR (ek:=ab) (by omega))
theorem DY {path:ByteArray}(h:1≤(bC path).length):bC path=nZ path++[dK path]:=by
 have e:(((bC path).length:Int)-1).toNat=(bC path).length-1:=by omega
 show _=(bC path).take (((bC path).length:Int)-1).toNat++_
 rw [e]
 conv=>lhs;rw [←ZG1 ((bC path).length-1) (bC path),bW (ek:=ab) (show (bC path).length-1<(bC path).length by omega),ZB3 (by omega)]
theorem pD {F:fp}{path:ByteArray}(h:0<bB F path):decide ((dR F path).2>0)=false∧0≤lu (bJ F.1 (a6 F (dR F path).1)).1 (dK path)∧bB F path=(nth aK (bJ F.1 (a6 F (dR F path).1)).1 (lu (bJ F.1 (a6 F (dR F path).1)).1 (dK path)).toNat).2:=by
 have hn:1≤(bC path).length:=by
  rcases Nat.eq_zero_or_pos (bC path).length with e |e
  ·have e2:bC path=[]:=List.eq_nil_of_length_eq_zero e
   have:bB F path=0:=by unfold bB;rw [e2];rfl
   omega
  ·exact e
 have hg:0≤EZ F.1 F.2.1 (nZ path++[dK path]) 0:=by rw [←DY hn];exact Int.le_of_lt h
 obtain⟨g1,g2,g3,g4⟩:=ZY F.1 F.2.1 hg (ZC1 _)
 have hk:(a6 F (uM F.1 F.2.1 (nZ path))).1=2:=(UC (s:=F.1) (n:=a6 F (uM F.1 F.2.1 (nZ path))) (λe=>by
  have h1:=y8 (l:=(bJ F.1 (a6 F (uM F.1 F.2.1 (nZ path)))).1) (name:=dK path) g3
  rw [e] at h1
  have:=h1.1
  have g3:0≤lu (bJ F.1 (a6 F (uM F.1 F.2.1 (nZ path)))).1 (dK path):=g3
  rw [e] at g3
  have:lu ([]:List eU) (dK path)<0:=this
  omega)).1
 have hp:dR F path=(uM F.1 F.2.1 (nZ path),0):=by
  unfold dR plE
  rw [show decide (((bC path).length:Int)=0)=false from decide_eq_false (by omega),show decide (uM F.1 F.2.1 (nZ path)<0)=false from decide_eq_false (by show¬EZ F.1 F.2.1 (nZ path) 0<0;omega),show decide ((a6 F (uM F.1 F.2.1 (nZ path))).1≠2)=false from decide_eq_false (by omega)];rfl
 rw [hp]
 refine⟨ζ,g3,?_⟩
 show EZ F.1 F.2.1 (bC path) 0=_
 rw [DY hn];exact g4
theorem zi (F:fp) (path:ByteArray): -1≤bB F path∧bB F path≤15:=aeq _ _ _
theorem cY.sU {F:fp}{n:Nat}{i:Int}{l:List eU}(h:cY F n) (h0:0≤i) (h1:i≤15):cY (ch F i l) (n+123)∧(F.2.2=false→(ch F i l).2.2=false→∀k:Nat,k<16→(k:Int)≠i→getM (ch F i l).1 (ch F i l).2.1 k=getM F.1 F.2.1 k):=by
 obtain⟨j,rfl⟩:∃j:Nat,i=j:=⟨i.toNat,by omega⟩
 have:=h.write (i:=j) (l:=l) (by omega)
 exact⟨this.1,λa b k hk fA=>this.2 a b k hk (by omega)⟩
theorem cY.adE {F:fp}{n:Nat}{i:Int}{nd:fu}{l:Int}(h:cY F n) (h0:0<i) (h1:i≤15) (hn:F.2.2=false→nd=a6 F i):cY (mY F i (nd.1,l,nd.2.2)) (n+6):=by
 obtain⟨j,rfl⟩:∃j:Nat,i=j:=⟨i.toNat,by omega⟩
 refine h.adG (by omega) (by omega) λhf=>?_
 rw [hn hf];exact (h.fs hf).a6 j
theorem cY.free {F:fp}{n:Nat}(h:cY F n) (hf:F.2.2=false) (h0:0≤xo F.1 F.2.1):xo F.1 F.2.1≤15:=by
 have:=(TT (h.fs hf).fi.tree h0).1;omega
theorem MS {F:fp}{path:ByteArray}(h:decide ((dw F path).2>0)=false):1≤(bC path).length∧0≤(dw F path).1∧(dw F path).1≤15:=by
 obtain⟨h1,h2⟩:=abX h
 obtain⟨p1,p2,p3,p4,_⟩:=OE h1
 rw [h2,p2];exact⟨p1,p3,p4⟩
theorem cY.node {F:fp}{n:Nat}{id:Int}(h:cY F n) (hf:F.2.2=false) (h0:0≤id) (h1:id≤15):cy (a6 F id)=true∨a6 F id=nz:=by
 obtain⟨j,rfl⟩:∃j:Nat,id=j:=⟨id.toNat,by omega⟩
 have h2:=((h.fs hf).at (i:=j) (by omega)).2
 rw [show a6 F (j:Int)=nodeAt F.1 F.2.1 j from (h.fs hf).a6 (b:=F.2.2) j];exact h2
theorem cY.file {F:fp}{n:Nat}{id:Int}(h:cY F n) (hf:F.2.2=false) (h0:0≤id) (h1:id≤15) (hk:(a6 F id).1=1):0<id∧cy (a6 F id)=true:=by
 refine⟨?_,?_⟩
 ·rcases Int.lt_or_eq_of_le h0 with e |e
  ·exact e
  ·have h2:(nodeAt F.1 F.2.1 0).1=2:=(h.fs hf).root
   have h3:a6 F ((0:Nat):Int)=nodeAt F.1 F.2.1 0:=(h.fs hf).a6 (b:=F.2.2) 0
   rw [←h3] at h2
   rw [←e] at hk
   have hk:(a6 F ((0:Nat):Int)).1=1:=hk
   omega
 ·rcases h.node hf h0 h1 with e |e
  ·exact e
  ·rw [e] at hk;exact absurd (show (0:Int)=1 from hk) (by decide)
theorem cY.adF {F:fp}{n:Nat}{id:Int}(h:cY F n) (hf:F.2.2=false) (h0:0≤id) (h1:id≤15):0≤(a6 F id).2.1∧(a6 F id).2.1≤9:=by
 rcases h.node hf h0 h1 with e |e
 ·have:=(lh e).2.1;omega
 ·rw [e];exact⟨by decide,by decide⟩
theorem cY.iU {F:fp}{n:Nat}{id a:Int}{text:ByteArray}(h:cY F n) (hf:F.2.2=false) (h0:0≤id) (h1:id≤15) (hk:(a6 F id).1=1) (ha:0≤a) (ha1:a+text.size≤192):(nB F.1 (a6 F id) a text).1.wg (n+96)∧cY (mY ((nB F.1 (a6 F id) a text).1,F.2.1,!(nB F.1 (a6 F id) a text).2.2) id (nB F.1 (a6 F id) a text).2.1) (n+102):=by
 have hp:=(h.file hf h0 h1 hk).1
 obtain⟨j,rfl⟩:∃j:Nat,id=j:=⟨id.toNat,by omega⟩
 have e:a6 F (j:Int)=nodeAt F.1 F.2.1 j:=(h.fs hf).a6 (b:=F.2.2) j
 have hw:=(ag8 (nd:=a6 F j) h.wg (pe F.1 F.2.1 j) ha ha1).1
 refine⟨hw,h.change hf (by omega) (by omega) hw λhz=>?_⟩
 have hB:=(h.fs hf).take (i:=j) (by omega)
 rw [←e] at hB
 exact hB.iU ha ha1 hz
theorem cY.c13 {F:fp}{n:Nat}{id a:Int}(h:cY F n) (hf:F.2.2=false) (h0:0≤id) (h1:id≤15) (hk:(a6 F id).1=1) (ha:0≤a) (ha1:a≤192):(jb F.1 (a6 F id) a).1.wg (n+96)∧cY (mY ((jb F.1 (a6 F id) a).1,F.2.1,!(jb F.1 (a6 F id) a).2.2) id (jb F.1 (a6 F id) a).2.1) (n+102):=by
 have hp:=h.file hf h0 h1 hk
 obtain⟨j,rfl⟩:∃j:Nat,id=j:=⟨id.toNat,by omega⟩
 have e:a6 F (j:Int)=nodeAt F.1 F.2.1 j:=(h.fs hf).a6 (b:=F.2.2) j
 have hw:=(ah4 (nd:=a6 F j) h.wg hp.2 hk ha ha1).1
 refine⟨hw,h.change hf (by omega) (by have:=hp.1;omega) hw λhz=>?_⟩
 have hB:=(h.fs hf).take (i:=j) (by omega)
 rw [←e] at hB
 exact hB.c13 hp.2 hk ha ha1 hz
theorem cY.aaC {F:fp}{n:Nat}{i id:Int}{l:List eU}(h:cY F n) (hf:F.2.2=false) (h0:0≤i) (h1:i≤15) (k0:0≤id) (k1:id≤15) (fA:id≠i) (hz:(ch F i l).2.2=false):a6 F id=a6 (ch F i l) id:=by
 obtain⟨j,rfl⟩:∃j:Nat,id=j:=⟨id.toNat,by omega⟩
 have hw:=h.sU (l:=l) h0 h1
 have e1:a6 F (j:Int)=nodeAt F.1 F.2.1 j:=(h.fs hf).a6 (b:=F.2.2) j
 have e2:a6 (ch F i l) (j:Int)=nodeAt (ch F i l).1 (ch F i l).2.1 j:=(hw.1.fs hz).a6 (b:=(ch F i l).2.2) j
 rw [e1,e2]
 show (bz (getM _ _ j)).1=(bz (getM _ _ j)).1
 rw [hw.2 hf hz j (by omega) fA]
theorem aao {F:fp}{path:ByteArray}(h:0<bB F path) (hb:(a6 F (bB F path)).1=2→¬0<(a6 F (bB F path)).2.2.1):bB F path≠(dR F path).1:=λe=>by
 have h1:=(pD h).2.1
 have h2:=UC (s:=F.1) (n:=a6 F (dR F path).1) (λe2=>by
  have h3:=(y8 h1).1
  rw [e2] at h3 h1
  have:lu ([]:List eU) (dK path)<0:=h3
  omega)
 rw [←e] at h2
 exact hb h2.1 h2.2
theorem cY.ajJ {F:fp}{n:Nat}{id:Int}(h:cY F n) (h0:0<id) (h1:id≤15) (hf:F.2.2=false):NC F.1 (cT (a6 F id))=true∧cY ((cq F.1 F.2.1 id).1,(cq F.1 F.2.1 id).2.1,!(cq F.1 F.2.1 id).2.2) (n+67):=by
 have hd:=XV h.wg h.ok (Int.le_of_lt h0) h1
 obtain⟨j,rfl⟩:∃j:Nat,id=j:=⟨id.toNat,by omega⟩
 have h2:=h.drop (i:=j) hf (by omega) (by omega)
 exact⟨h2.1,hd.1,hd.2,λhz=>h2.2 (cL hz)⟩
end GL
namespace GL
def Kept (O:Nat→Nat) (s u:ay):Prop:=Acc u O∧Kp O s u∧dQ s u
theorem Kept.refl {O:Nat→Nat}{s:ay}(h:Acc s O):Kept O s s:=⟨h,Kp.refl _ _,dQ.refl _⟩
theorem Kept.trans {O:Nat→Nat}{a b c:ay}(h:Kept O a b) (h2:Kept O b c):Kept O a c:=⟨h2.1,h.2.1.trans h2.2.1,h.2.2.trans h2.2.2⟩
structure TA (s:ay) (t:bf):Prop where
 tree:Tree s t t.d
 acc:∃X:Nat→Nat,Acc s (λr=>X r+bn (di s t) r)
theorem FS.ta {s:ay}{t:bf}(h:FS s t):TA s t:=
 ⟨h.fi.tree,_,h.fi.acc.mono (O':=λr=>0+bn (di s t) r) λr=>by show 0+bn (di s t) r≤0+bn (di s t) r+gG s t E0 r;omega⟩
theorem TA.next {s:ay}{t:bf}(h:TA s t) (ht:s.cg<1000000):TA (ij s) t:=by
 obtain⟨X,ha⟩:=h.acc
 obtain⟨h1,h2,h3,_⟩:=yw ha ht
 have h4:=xg h.tree (by rw [h3];omega) h2 λr=>Nat.le_add_left _ _
 exact⟨h4.1,X,h1.mono λr=>by rw [show di (ij s) t=di s t from h4.2.1];exact ZB5 _⟩
theorem TA.put {s:ay}{t:bf}{k:Int}{text:ByteArray}(h:TA s t) (hk0:0≤k) (hk:k≤15) (hz:(aY s t k text).2.2=true):TA (aY s t k text).1 (aY s t k text).2.1:=by
 obtain⟨X,ha⟩:=h.acc
 obtain⟨d,hP⟩:=BS ha h.tree hk0 hk hz
 refine⟨hP.tree.at,X,hP.acc.mono λr=>?_⟩
 rw [F4 hP.tree];exact ZB5 _
theorem TA.gk {s:ay}{t:bf}{n:Nat}(h:TA s t) (hw:s.wg n) (hn:n≤900000):s.gk:=by
 obtain⟨X,ha⟩:=h.acc
 exact⟨ha.wf.n,ZB0 hw.g (by omega),λp hp=>nT (ha.ok p (by simp [hp])).1,by have:=ha.cg;omega⟩
theorem HT:∀(l:List Pt) (s:ay),(j8 l s).dead=s.dead
 |[],_=>rfl
 |p::l,s=>HT l (gf s p.1.toNat)
theorem SK {s:ay}{n:Nat}{O:Nat→Nat}(h:Acc s O) (hw:s.wg n) (hn:n≤900000):(ij s).wg (n+1):=by
 have ht:s.cg<1000000:=by have:=hw.t;omega
 obtain⟨h1,_,e3,_⟩:=yw h ht
 refine⟨h1.wf,ZA7 _,?_,?_⟩
 ·show (j8 s.gone s).dead.length≤_;rw [HT];have:=hw.d;omega
 ·rw [e3];have:=hw.t;omega
theorem TA.SJ {s:ay}{t:bf}{n:Nat}(h:TA s t) (hw:s.wg n) (hn:n≤900000):TA (ij s) t∧(ij s).wg (n+1):=by
 obtain⟨X,ha⟩:=h.acc
 exact⟨h.next (by have:=hw.t;omega),SK ha hw hn⟩
