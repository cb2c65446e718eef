/- A drawn law returns true for every code (its row lists package variables, tied by the card): part 35. -/
import Derived.Test.YtclcgjhhehbdeaaGreatDoorPbc
import Derived.Test.YtclcgjhhehbdeaaGreatDoorPbf
set_option maxHeartbeats 20000000
set_option maxRecDepth 100000
set_option linter.all false
namespace Go.Proofs.YtclcgjhhehbdeaaGreatDoor
namespace GL
abbrev fo:=ay×bf×Bool
abbrev oC (b:(Nat×Nat×Nat×Int×Nat×Int×Nat×Bool×Int×Int×Int×Int×Int×Int×Int×Bool)×List ByteArray×List Int×List Int×List Pt×List Pt):fo:=((b.2.1,b.2.2.1,b.2.2.2.1,b.1.2.2.2.1,b.2.2.2.2.1,b.1.2.2.2.2.2.1,b.2.2.2.2.2,b.1.2.2.2.2.2.2.2.1),(b.1.2.2.2.2.2.2.2.2.1,b.1.2.2.2.2.2.2.2.2.2.1,b.1.2.2.2.2.2.2.2.2.2.2.1,b.1.2.2.2.2.2.2.2.2.2.2.2.1,b.1.2.2.2.2.2.2.2.2.2.2.2.2.1,b.1.2.2.2.2.2.2.2.2.2.2.2.2.2.1,b.1.2.2.2.2.2.2.2.2.2.2.2.2.2.2.1),b.1.2.2.2.2.2.2.2.2.2.2.2.2.2.2.2)
abbrev fsW (b:(Nat×Nat×Nat×Int×Nat×Int×Nat×Bool×Int×Int×Int×Int×Int×Int×Int×Bool)×List ByteArray×List Int×List Int×List Pt×List Pt):Prop:=whole b.1.1 b.1.2.1 b.1.2.2.1 b.1.2.2.2.2.1 b.1.2.2.2.2.2.2.1 b.2.1 b.2.2.1 b.2.2.2.1 b.2.2.2.2.1 b.2.2.2.2.2
abbrev a6 (F:fo) (id:Int):ft:=(cK F.1 F.2.1 id).1
def mU (F:fo) (id:Int) (n:ft):fo:=bif F.2.2 then F else ((aY F.1 F.2.1 id (aC n)).1,(aY F.1 F.2.1 id (aC n)).2.1,!(aY F.1 F.2.1 id (aC n)).2.2)
theorem PL {F:fo}{id:Int}{n:ft}(h:F.2.2=true):mU F id n=F:=by unfold mU;rw [h];rfl
theorem PK {F:fo}{id:Int}{n:ft}(h:F.2.2=false):mU F id n=((aY F.1 F.2.1 id (aC n)).1,(aY F.1 F.2.1 id (aC n)).2.1,!(aY F.1 F.2.1 id (aC n)).2.2):=by unfold mU;rw [h];rfl
abbrev zV (F:fo) (id:Int) (text:ByteArray):ay×bf×Bool:=dF F.1 (cT (a6 F id)) text
def ch (F:fo) (id:Int) (l:List eS):fo:=bif F.2.2 then F else mU ((zV F id (eg l)).1,F.2.1,!(zV F id (eg l)).2.2) id (j8 (a6 F id) (eg l).size (zV F id (eg l)).2.1)
theorem JD {F:fo}{id:Int}{l:List eS}(h:F.2.2=true):ch F id l=F:=by unfold ch;rw [h];rfl
theorem JC {F:fo}{id:Int}{l:List eS}(h:F.2.2=false):ch F id l=mU ((zV F id (eg l)).1,F.2.1,!(zV F id (eg l)).2.2) id (j8 (a6 F id) (eg l).size (zV F id (eg l)).2.1):=by unfold ch;rw [h];rfl
def plE (F:fo) (a:Int):Int×Int:=bif decide (a<0) then (0,2) else bif decide ((a6 F a).1≠2) then (0,4) else (a,0)
abbrev nV (path:ByteArray):List ByteArray:=(bC path).take (((bC path).length:Int)-1).toNat
def dQ (F:fo) (path:ByteArray):Int×Int:=bif decide (((bC path).length:Int)=0) then (0,3) else plE F (uI F.1 F.2.1 (nV path))
def bB (F:fo) (path:ByteArray):Int:=uI F.1 F.2.1 (bC path)
def dv (F:fo) (path:ByteArray):Int×Int:=bif decide ((dQ F path).2>0) then (0,(dQ F path).2) else bif decide (bB F path≥0) then (0,3) else ((dQ F path).1,0)
theorem aej (s:ay) (t:bf):∀{l:List ByteArray}{k:Int},-1≤k→k≤15→-1≤EU s t l k∧EU s t l k≤15
 |[],k,h0,h1=>⟨h0,h1⟩
 |x::l,k,h0,h1=>by
  cases h: !(bJ s (cK s t k).1).2 with
  |true=>rw [ZT h];omega
  |false=>cases h2:decide (ll (bJ s (cK s t k).1).1 x<0) with
   |true=>rw [ZS h2];omega
   |false=>
    rw [MJ h h2]
    have h3:=aA h2
    have h4:=yY (l:=(bJ s (cK s t k).1).1) (name:=x) (by omega)
    have h5:=(FJ s (cK s t k).1).2 _ (bR (ek:=aK) (l:=(bJ s (cK s t k).1).1) (k:=(ll (bJ s (cK s t k).1).1 x).toNat) (by omega))
    exact aej s t (by omega) (by omega)
theorem aei (s:ay) (t:bf) (l:List ByteArray): -1≤uI s t l∧uI s t l≤15:=aej s t (by omega) (by omega)
theorem ZR (s:ay) (t:bf) {x:ByteArray}:∀{l:List ByteArray}{k:Int},0≤EU s t (l++[x]) k→0≤k→0≤EU s t l k∧(bJ s (cK s t (EU s t l k)).1).2=true∧0≤ll (bJ s (cK s t (EU s t l k)).1).1 x∧EU s t (l++[x]) k=(nth aK (bJ s (cK s t (EU s t l k)).1).1 (ll (bJ s (cK s t (EU s t l k)).1).1 x).toNat).2
 |[],k,h,hk=>by
  have h:0≤EU s t [x] k:=h
  cases h1: !(bJ s (cK s t k).1).2 with
  |true=>rw [ZT h1] at h;exact absurd h (by decide)
  |false=>cases h2:decide (ll (bJ s (cK s t k).1).1 x<0) with
   |true=>rw [ZS h2] at h;exact absurd h (by decide)
   |false=>
    have h3:=aA h2
    exact⟨hk,cL h1,by show 0≤ll (bJ s (cK s t k).1).1 x;omega,MJ h1 h2⟩
 |y::l,k,h,hk=>by
  have h:0≤EU s t (y::(l++[x])) k:=h
  cases h1: !(bJ s (cK s t k).1).2 with
  |true=>rw [ZT h1] at h;exact absurd h (by decide)
  |false=>cases h2:decide (ll (bJ s (cK s t k).1).1 y<0) with
   |true=>rw [ZS h2] at h;exact absurd h (by decide)
   |false=>
    have h3:=aA h2
    have h4:=yY (l:=(bJ s (cK s t k).1).1) (name:=y) (by omega)
    have h5:=(FJ s (cK s t k).1).2 _ (bR (ek:=aK) (l:=(bJ s (cK s t k).1).1) (k:=(ll (bJ s (cK s t k).1).1 y).toNat) (by omega))
    rw [MJ h1 h2] at h
    rw [MJ h1 h2,ZG4,MJ h1 h2]
    exact ZR s t h (by omega)
structure cY (F:fo) (n:Nat):Prop where
 wg:F.1.wg n
 ok:F.2.1.ok
 fs:F.2.2=false→FS F.1 F.2.1
theorem cY.mono {F:fo}{n m:Nat}(h:cY F n) (hm:n≤m):cY F m:=⟨h.wg.mono hm,h.ok,h.fs⟩
theorem cY.HL {F:fo}{n:Nat}{id:Int}{nd:ft}(hw:F.1.wg n) (cG:F.2.1.ok) (h0:0≤id) (h1:id≤15) (hf:F.2.2=false→(aY F.1 F.2.1 id (aC nd)).2.2=true→FS (aY F.1 F.2.1 id (aC nd)).1 (aY F.1 F.2.1 id (aC nd)).2.1):cY (mU F id nd) (n+6):=by
 cases hfu:F.2.2 with
 |true=>rw [PL hfu];exact⟨hw.mono (by omega),cG,fun h=>by rw [hfu] at h;cases h⟩
 |false=>
  rw [PK hfu]
  have h2:=ni (k:=id) (text:=aC nd) hw cG h0 h1
  exact⟨h2.1,h2.2.1,fun h=>hf hfu (cL h)⟩
theorem FS.a6 {s:ay}{t:bf}{b:Bool}(h:FS s t) (i:Nat):GL.a6 (s,t,b) i=nodeAt s t i:=by
 show (GL.cK s t i).1=_
 rw [h.cK (by omega)];rfl
theorem cY.write {F:fo}{n i:Nat}{l:List eS}(h:cY F n) (hi:i<16):cY (ch F i l) (n+123)∧(F.2.2=false→(ch F i l).2.2=false→∀k,k<16→k≠i→getM (ch F i l).1 (ch F i l).2.1 k=getM F.1 F.2.1 k):=by
 obtain⟨s,t,b⟩:=F
 cases b with
 |true=>rw [JD rfl];exact⟨h.mono (by omega),fun h=>by cases h⟩
 |false=>
  have uH:=h.fs rfl
  rw [JC rfl]
  have hb:=UC (text:=eg l) h.wg (o9 s t i)
  cases hz:(zV (s,t,false) i (eg l)).2.2 with
  |false=>
   refine⟨(cY.HL (F:=((zV (s,t,false) i (eg l)).1,t,true)) (n:=n+117) hb.1 h.ok (by omega) (by omega) fun h=>by cases h).mono (by omega),fun _ h2=>?_⟩
   rw [PL rfl] at h2;cases h2
  |true=>
   have key:=fun hz2=>uH.write (i:=i) (text:=eg l) hi (by rw [←uH.a6 (b:=false) i];exact hz) hz2
   rw [←uH.a6 (b:=false) i] at key
   refine⟨(cY.HL (F:=((zV (s,t,false) i (eg l)).1,t,false)) (n:=n+117) hb.1 h.ok (by omega) (by omega) fun _ hz2=>(key hz2).1).mono (by omega),fun _ h2=>?_⟩
   rw [Bool.not_true,PK rfl] at h2 ⊢
   exact (key (cL h2)).2.1
theorem TO {l:List ByteArray}:∀{f k:Nat},0≤frF f l k→((k:Int)≤frF f l k∧frF f l k<((k+f:Nat):Int))∧(frF f l k≥(l.length:Int)∨nth ab l (frF f l k).toNat=⟨#[]⟩)
 |0,k,h=>absurd (show (0:Int)≤-1 from h) (by decide)
 |f+1,k,h=>by
  cases h1:decide ((k:Int)≥(l.length:Int)) with
  |true=>rw [agR h1];exact⟨⟨ZC1 _,by omega⟩,.inl (aJ h1)⟩
  |false=>cases h2:decide (nth ab l k=⟨#[]⟩) with
   |true=>rw [agQ h2];exact⟨⟨ZC1 _,by omega⟩,.inr (by rw [ZA5];exact aJ h2)⟩
   |false=>
    rw [agP h1 h2] at h ⊢
    have:=TO (l:=l) (f:=f) (k:=k+1) h
    exact⟨⟨by omega,by omega⟩,this.2⟩
theorem TN {s:ay}{t:bf}(h:Tree s t t.d) (h0:0≤xk s t):xk s t<16∧getM s t (xk s t).toNat=⟨#[]⟩:=by
 have h1:=TO (l:=bo s t) (f:=16) (k:=0) h0
 refine⟨by have:=h1.1.2;unfold xk;omega,?_⟩
 by_cases hm:(xk s t).toNat<t.many.toNat
 ·rw [←xJ h.ok hm]
  rcases h1.2 with h2 |h2
  ·rw [fp h.ok] at h2
   exact absurd hm (by unfold xk at *;omega)
  ·exact h2
 ·exact mS h (by have:=h.m0;omega)
theorem cY.make {F:fo}{n:Nat}{kind:Int}(h:cY F n) (hf:F.2.2=false) (h0:0≤xk F.1 F.2.1):cY (mU F (xk F.1 F.2.1) (kind,1,0,nt)) (n+6):=by
 have uH:=h.fs hf
 obtain⟨h1,h2⟩:=TN uH.fi.tree h0
 refine cY.HL h.wg h.ok h0 (by omega) fun _ hz=>?_
 obtain⟨i,hi⟩:∃i:Nat,xk F.1 F.2.1=i:=⟨(xk F.1 F.2.1).toNat,by omega⟩
 rw [hi] at hz h2 ⊢
 rw [ZA5] at h2
 exact (uH.make (by omega) h2 hz).1
theorem cY.ady {F:fo}{n i:Nat}{nd:ft}{l:Int}(h:cY F n) (hi:i<16) (hi0:0<i) (hn:F.2.2=false→nd=nodeAt F.1 F.2.1 i):cY (mU F i (nd.1,l,nd.2.2)) (n+6):=by
 refine cY.HL h.wg h.ok (by omega) (by omega) fun hf hz=>?_
 rw [hn hf] at hz ⊢
 exact ((h.fs hf).ady hi hi0 hz).1
theorem cY.drop {F:fo}{n i:Nat}(h:cY F n) (hf:F.2.2=false) (hi:i<16) (hi0:0<i):M6 F.1 (cT (cK F.1 F.2.1 i).1)=true∧((cq F.1 F.2.1 i).2.2=true→FS (cq F.1 F.2.1 i).1 (cq F.1 F.2.1 i).2.1):=by
 have uH:=h.fs hf
 refine⟨?_,fun hz=>(uH.drop hi hi0 hz).1⟩
 have hn:(cK F.1 F.2.1 i).1=nodeAt F.1 F.2.1 i:=by rw [uH.cK (by omega)];rfl
 rw [hn]
 exact (UG (uH.at hi).1.rr).1
theorem XP {s:ay}{t:bf}{k:Int}{n:Nat}(hs:s.wg n) (ht:t.ok) (h0:0≤k) (h1:k≤15):(cq s t k).1.wg (n+67)∧(cq s t k).2.1.ok:=by
 have hna:=aas (s:=s) (o9 s t k).rd.ok
 have ka:=CW (l:=allM s (cT (cK s t k).1)) hs.wf
 have hu:(xC s t k).wg (n+40):=⟨ka.1,by have:=ka.2.1;have:=hna.2;have:=hs.g;show (dw _ s).gone.length≤_;omega,by have:=ka.2.2;have:=hna.2;have:=hs.d;show (dw _ s).dead.length≤_;omega,by show (dw _ s).cg≤_;rw [yG];have:=hs.t;omega⟩
 have hp:=ni (k:=k) (text:=⟨#[]⟩) hu ht h0 h1
 have hl:=H6 (s:=s) ht k
 rw [rj]
 cases !(aY (xC s t k) t k ⟨#[]⟩).2.2 with
 |true=>exact⟨hp.1.mono (by omega),hp.2.1⟩
 |false=>
  have hc:=FM (many:=mq s t k) hp.1 hp.2.1 hl.1 (ZE0 hl.2 ht.m1)
  exact⟨hc.1,hc.2.1⟩
theorem OE {text:ByteArray}:∀{f:Nat}{k:Int}{s:ay}{t:bf}{n:Nat},s.wg n→t.ok→0≤k→k+f≤16→(qL f k s t text).1.wg (n+6*f)∧(qL f k s t text).2.1.ok
 |0,k,s,t,n,hs,ht,_,_=>⟨hs,ht⟩
 |f+1,k,s,t,n,hs,ht,h0,h1=>by
  have hp:=ni (k:=k) (text:=eI text k) hs ht h0 (by omega)
  cases hz:(aY s t k (eI text k)).2.2 with
  |false=>rw [VO hz];exact⟨hp.1.mono (by omega),ht⟩
  |true=>
   rw [VN hz]
   have:=OE (text:=text) (f:=f) (k:=k+1) hp.1 hp.2.1 (by omega) (by omega)
   exact⟨this.1.mono (by omega),this.2⟩
theorem kr.p13 {s:ay}{t:bf}{E:Nat→Bool}{O:Nat→Nat}{text:ByteArray}:∀{f:Nat}{k:Int}{u:ay}{t2:bf},kr s t E O u t2→0≤k→k+f≤16→(qL f k u t2 text).2.2=true→kr s t E O (qL f k u t2 text).1 (qL f k u t2 text).2.1
 |0,k,u,t2,h,_,_,_=>h
 |f+1,k,u,t2,h,h0,h1,hz=>by
  cases hx:(aY u t2 k (eI text k)).2.2 with
  |false=>rw [VO hx] at hz;cases hz
  |true=>
   rw [VN hx] at hz ⊢
   exact kr.p13 (h.put h0 (by omega) hx).1 (by omega) (by omega) hz
theorem ace {a:Int}{m:Nat}(h0:0≤a) (h1:a+m≤192) (h2:1≤m):0≤a / 12∧a / 12+(((a+m-1) / 12+1-a / 12).toNat:Int)≤16:=by omega
theorem ag0 {s:ay}{nd:ft}{a:Int}{text:ByteArray}{n:Nat}(hs:s.wg n) (ht:(cT nd).ok) (h0:0≤a) (h1:a+text.size≤192):(nw s nd a text).1.wg (n+96)∧(cT (nw s nd a text).2.1).ok:=by
 cases h:decide (text=⟨#[]⟩) with
 |true=>rw [NM h];exact⟨hs.mono (by omega),ht⟩
 |false=>
  have h2:=size_pos (aA h)
  have hb:=ace h0 h1 h2
  rw [NL h]
  have:=OE (text:=UM s nd a text) (f:=((a+text.size-1) / 12+1-a / 12).toNat) hs ht hb.1 hb.2
  exact⟨this.1.mono (by omega),this.2⟩
theorem kr.iS {s u:ay}{t:bf}{E:Nat→Bool}{O:Nat→Nat}{nd:ft}{a:Int}{text:ByteArray}(h:kr s t E O u (cT nd)) (h0:0≤a) (h1:a+text.size≤192) (hz:(nw u nd a text).2.2=true):kr s t E O (nw u nd a text).1 (cT (nw u nd a text).2.1):=by
 cases hd:decide (text=⟨#[]⟩) with
 |true=>rw [NM hd];exact h
 |false=>
  have hb:=ace h0 h1 (size_pos (aA hd))
  rw [NL hd] at hz ⊢
  exact h.p13 hb.1 hb.2 hz
theorem ahV {s:ay}{nd:ft}{size:Int}{n:Nat}(hs:s.wg n) (uu:cy nd=true) (hn1:nd.1=1) (h0:0≤size) (h1:size≤192):(iZ s nd size).1.wg (n+96)∧(cT (iZ s nd size).2.1).ok:=by
 have cG:=nS uu
 obtain⟨hm,CQ,hm1⟩:=node1 uu hn1
 have hpm:bh size 12=(size+12-1) / 12:=rfl
 have hpn:bh nd.2.2.1 12=(nd.2.2.1+12-1) / 12:=rfl
 unfold iZ
 cases hd:decide (size≥nd.2.2.1) with
 |true=>
  have hd:=aJ hd
  cases hq:decide (bh size 12=(cT nd).many) with
  |true=>exact⟨hs.mono (by omega),cG⟩
  |false=>
   have hq:=aA hq
   have hp:=ni (k:=bh size 12-1) (text:=⟨#[]⟩) hs cG (by omega) (by omega)
   exact⟨hp.1.mono (by omega),hp.2.1⟩
 |false=>
  have hc:=FM (many:=bh size 12) hs cG (by omega) (by omega)
  show (J2 _ nd _ size _).1.wg _∧(cT (J2 _ nd _ size _).2.1).ok
  unfold J2
  cases !(cF s (cT nd) (bh size 12)).2.2 with
  |true=>exact⟨hc.1.mono (by omega),cG⟩
  |false=>
   cases hz:decide (bh size 12=0) with
   |true=>exact⟨hc.1.mono (by omega),hc.2.1⟩
   |false=>
    have hz:=aA hz
    have:=OE (text:=(jb s nd).extract 0 size.toNat) (f:=(bh size 12-1+1-(bh size 12-1)).toNat) (k:=bh size 12-1) hc.1 hc.2.1 (by omega) (by omega)
    exact⟨this.1.mono (by omega),this.2⟩
theorem kr.c13 {s u:ay}{t:bf}{E:Nat→Bool}{O:Nat→Nat}{nd:ft}{size:Int}(h:kr s t E O u (cT nd)) (uu:cy nd=true) (hn1:nd.1=1) (h0:0≤size) (h1:size≤192) (hz:(iZ u nd size).2.2=true):kr s t E O (iZ u nd size).1 (cT (iZ u nd size).2.1):=by
 obtain⟨hm,CQ,hm1⟩:=node1 uu hn1
 have hpm:bh size 12=(size+12-1) / 12:=rfl
 have hpn:bh nd.2.2.1 12=(nd.2.2.1+12-1) / 12:=rfl
 unfold iZ at hz ⊢
 cases hd:decide (size≥nd.2.2.1) with
 |true=>
  rw [hd] at hz
  have hd:=aJ hd
  cases hq:decide (bh size 12=(cT nd).many) with
  |true=>exact h
  |false=>
   rw [hq] at hz
   have hq:=aA hq
   exact (h.put (by omega) (by omega) hz).1
 |false=>
  rw [hd] at hz
  have hz:(J2 (cF u (cT nd) (bh size 12)) nd (jb u nd) size (bh size 12)).2.2=true:=hz
  show kr s t E O (J2 (cF u (cT nd) (bh size 12)) nd (jb u nd) size (bh size 12)).1 (cT (J2 (cF u (cT nd) (bh size 12)) nd (jb u nd) size (bh size 12)).2.1)
  unfold J2 at hz ⊢
  cases hc:(cF u (cT nd) (bh size 12)).2.2 with
  |false=>rw [hc] at hz;cases hz
  |true=>
   rw [hc] at hz
   have hB:=(h.cut (by omega) (by omega) hc).1
   cases hq:decide (bh size 12=0) with
   |true=>exact hB
   |false=>
    rw [hq] at hz
    have hq:=aA hq
    exact kr.p13 (f:=(bh size 12-1+1-(bh size 12-1)).toNat) hB (by omega) (by omega) hz
theorem cY.change {F:fo}{n i:Nat}{r:ay×ft×Bool}(h:cY F n) (hf:F.2.2=false) (hi:i<16) (hi0:0<i) (hw:r.1.wg (n+96)) (hB:r.2.2=true→kr F.1 F.2.1 (rM E0 i) O0 r.1 (cT r.2.1)):cY (mU (r.1,F.2.1,!r.2.2) i r.2.1) (n+102):=by
 refine cY.HL (F:=(r.1,F.2.1,!r.2.2)) hw h.ok (by omega) (by omega) fun hb hz=>?_
 exact ((h.fs hf).back hi (hB (cL hb)) (fun e=>absurd e (by omega)) hz).1
end GL
namespace GL
structure KH (l:List eS):Prop where
 len:l.length≤13
 sz:∀e∈l,e.1.size≤1000
 id:∀e∈l,0≤e.2∧e.2≤999999999
theorem KH.p {l:List eS}(h:KH l):ab9 l:=⟨by have:=h.len;omega,fun e he=>by have:=h.sz e he;omega,h.id⟩
theorem EA:∀{l:List eS}{out:ByteArray},(∀e∈l,e.1.size≤1000∧0≤e.2∧e.2≤999999999)→(l.foldl ri out).size≤out.size+1100*l.length
 |[],out,_=>ZB5 _
 |e::l,out,h=>by
  have h1:=EA (l:=l) (out:=ri out e) fun x hx=>h x (by simp [hx])
  have h2:=h e (by simp)
  have h3:(bX e.2).size≤12:=db (ZE0 h2.2.2 (by omega))
  have h4:(ri out e).size=out.size+e.1.size+1+(bX e.2).size+1:=by
   show (out++e.1++⟨#[61]⟩++bX e.2++⟨#[59]⟩).size=_
   simp only [ZB2]
   rw [show (⟨#[61]⟩:ByteArray).size=1 from rfl,show (⟨#[59]⟩:ByteArray).size=1 from rfl]
  rw [List.foldl_cons,ZA1];omega
theorem KH.size {l:List eS}(h:KH l):(eg l).size≤1000000:=by
 have h1:=EA (l:=l) (out:=⟨#[]⟩) fun e he=>⟨h.sz e he,h.id e he⟩
 have h2:=h.len
 rw [show (⟨#[]⟩:ByteArray).size=0 from rfl] at h1
 show (l.foldl ri ⟨#[]⟩).size≤_;omega
structure P0 (l:List eS):Prop where
 len:l.length≤12
 sz:∀e∈l,e.1.size≤1000
 id:∀e∈l,0≤e.2∧e.2≤999999999
theorem P0.w {l:List eS}(h:P0 l):KH l:=⟨by have:=h.len;omega,h.sz,h.id⟩
theorem qp (s:ay) (n:ft):P0 (bJ s n).1:=by
 have h:=FJ s n
 refine⟨h.1,fun e he=>?_,fun e he=>?_⟩
 ·have:=DV (h.2 e he).1;omega
 ·have:=(h.2 e he).2;omega
theorem P0.less {l:List eS}(h:P0 l) (i:Nat):P0 (eu l i):=by
 have hm:∀e∈eu l i,e∈l:=fun e he=>by
  rcases ZB4.1 he with h1 |h1
  ·exact ZE6 h1
  ·exact ZF2 h1
 refine⟨?_,fun e he=>h.sz e (hm e he),fun e he=>h.id e (hm e he)⟩
 show (l.take i++l.drop (i+1)).length≤12
 rw [ZA0,ZC0,ZD0]
 have:=h.len;omega
theorem ab8 {e x:eS}{d:Bool}(h:EW e x d=true):d=false:=by
 cases d with
 |false=>rfl
 |true=>cases h
theorem KD {e:eS}:∀{l out:List eS}{d:Bool},(wb e (xm l e d out)).length=out.length+l.length+(bif d then 0 else 1)
 |[],out,true=>rfl
 |[],out,false=>by show (out++[e]).length=_;rw [ZA0];rfl
 |x::l,out,d=>by
  cases h:EW e x d with
  |true=>
   rw [X8 h,KD (l:=l) (out:=out++[e]++[x]) (d:=true),ab8 h,ZA0,ZA0]
   show out.length+1+1+l.length+0=out.length+(l.length+1)+1;omega
  |false=>
   rw [PX h,KD (l:=l) (out:=out++[x]) (d:=d),ZA0]
   show out.length+1+l.length+_=out.length+(l.length+1)+_;omega
theorem KC {e:eS}:∀{l out:List eS}{d:Bool},∀y∈wb e (xm l e d out),y∈out∨y∈l∨y=e
 |[],out,true=>fun y hy=>.inl hy
 |[],out,false=>fun y hy=>by
  have hy:y∈out++[e]:=hy
  rcases ZB4.1 hy with h |h
  ·exact .inl h
  ·exact .inr (.inr (ZC7.1 h))
 |x::l,out,d=>fun y hy=>by
  cases h:EW e x d with
  |true=>
   rw [X8 h] at hy
   rcases KC y hy with h1 |h1 |h1
   ·rcases ZB4.1 h1 with h2 |h2
    ·rcases ZB4.1 h2 with h3 |h3
     ·exact .inl h3
     ·exact .inr (.inr (ZC7.1 h3))
    ·exact .inr (.inl (by rw [ZC7.1 h2];simp))
   ·exact .inr (.inl (by simp [h1]))
   ·exact .inr (.inr h1)
  |false=>
   rw [PX h] at hy
   rcases KC y hy with h1 |h1 |h1
   ·rcases ZB4.1 h1 with h2 |h2
    ·exact .inl h2
    ·exact .inr (.inl (by rw [ZC7.1 h2];simp))
   ·exact .inr (.inl (by simp [h1]))
   ·exact .inr (.inr h1)
theorem P0.add {l:List eS}(h:P0 l) {e:eS}(h1:e.1.size≤1000) (h2:0≤e.2∧e.2≤999999999):KH (qN l e):=by
 have hm:∀y∈qN l e,y∈l∨y=e:=fun y hy=>(KC y hy).elim (fun h=>absurd h ZF6) fun h=>h
 refine⟨?_,fun y hy=>?_,fun y hy=>?_⟩
 ·show (wb e (xm l e false [])).length≤13
  rw [KD]
  show 0+l.length+1≤13
  have:=h.len;omega
 ·rcases hm y hy with h3 |h3
  ·exact h.sz y h3
  ·rw [h3];exact h1
 ·rcases hm y hy with h3 |h3
  ·exact h.id y h3
  ·rw [h3];exact h2
theorem C3:(cP ⟨#[]⟩).1=[]:=by rfl
theorem T5 {s:ay}{n:ft}(h:(bJ s n).1≠[]):n.1=2∧0<n.2.2.1:=by
 cases h1: !(cy n) with
 |true=>rw [aeF h1] at h;exact absurd rfl h
 |false=>cases h2:decide (n.1≠2) with
  |true=>rw [aeE h2] at h;exact absurd rfl h
  |false=>cases h3: !(qF s (cT n)) with
   |true=>rw [aeD h3] at h;exact absurd rfl h
   |false=>cases h4: !(c7 s (cT n)).2 with
    |true=>rw [aeC h4] at h;exact absurd rfl h
    |false=>cases h5:decide (((c7 s (cT n)).1.size:Int)≠n.2.2.1) with
     |true=>rw [aeB h5] at h;exact absurd rfl h
     |false=>
      rw [aeA h1 h2 h3 h4 h5] at h
      have h2:=aA h2
      have h5:=aA h5
      refine⟨by omega,?_⟩
      have:(c7 s (cT n)).1≠⟨#[]⟩:=fun e=>by rw [e,C3] at h;exact h rfl
      have:=size_pos this
      omega
theorem abQ {F:fo}{path:ByteArray}(h:decide ((dv F path).2>0)=false):decide ((dQ F path).2>0)=false∧dv F path=((dQ F path).1,0):=by
 unfold dv at h ⊢
 cases hp:decide ((dQ F path).2>0) with
 |true=>
  rw [hp] at h
  have h:decide ((dQ F path).2>0)=false:=h
  rw [hp] at h;cases h
 |false=>cases hs:decide (bB F path≥0) with
  |true=>rw [hp,hs] at h;cases h
  |false=>exact⟨rfl,rfl⟩
theorem N8 {F:fo}{path:ByteArray}(h:decide ((dQ F path).2>0)=false):1≤(bC path).length∧dQ F path=(uI F.1 F.2.1 (nV path),0)∧0≤uI F.1 F.2.1 (nV path)∧uI F.1 F.2.1 (nV path)≤15∧(a6 F (uI F.1 F.2.1 (nV path))).1=2:=by
 unfold dQ at h ⊢
 cases h1:decide (((bC path).length:Int)=0) with
 |true=>rw [h1] at h;cases h
 |false=>
  rw [h1] at h
  have h:decide ((plE F (uI F.1 F.2.1 (nV path))).2>0)=false:=h
  show _∧plE F (uI F.1 F.2.1 (nV path))=_∧_
  unfold plE at h ⊢
  cases h2:decide (uI F.1 F.2.1 (nV path)<0) with
  |true=>rw [h2] at h;cases h
  |false=>cases h3:decide ((a6 F (uI F.1 F.2.1 (nV path))).1≠2) with
   |true=>rw [h2,h3] at h;cases h
   |false=>
    have h1:=aA h1
    have h2:=aA h2
    have h3:=aA h3
    exact⟨by omega,rfl,by omega,(aei _ _ _).2,by omega⟩
abbrev dJ (path:ByteArray):ByteArray:=nth ab (bC path) ((bC path).length-1)
theorem J7 {path:ByteArray}(h:1≤(bC path).length):(dJ path).size≤path.size:=CB _ (bR (ek:=ab) (by omega))
theorem DU {path:ByteArray}(h:1≤(bC path).length):bC path=nV path++[dJ path]:=by
 have e:(((bC path).length:Int)-1).toNat=(bC path).length-1:=by omega
 show _=(bC path).take (((bC path).length:Int)-1).toNat++_
 rw [e]
 conv=>lhs;rw [←List.take_append_drop ((bC path).length-1) (bC path),bW (ek:=ab) (show (bC path).length-1<(bC path).length by omega),ZB3 (by omega)]
theorem py {F:fo}{path:ByteArray}(h:0<bB F path):decide ((dQ F path).2>0)=false∧0≤ll (bJ F.1 (a6 F (dQ F path).1)).1 (dJ path)∧bB F path=(nth aK (bJ F.1 (a6 F (dQ F path).1)).1 (ll (bJ F.1 (a6 F (dQ F path).1)).1 (dJ path)).toNat).2:=by
 have hn:1≤(bC path).length:=by
  rcases Nat.eq_zero_or_pos (bC path).length with e |e
  ·have e2:bC path=[]:=List.eq_nil_of_length_eq_zero e
   have:bB F path=0:=by unfold bB;rw [e2];rfl
   omega
  ·exact e
 have hg:0≤EU F.1 F.2.1 (nV path++[dJ path]) 0:=by rw [←DU hn];exact Int.le_of_lt h
 obtain⟨g1,g2,g3,g4⟩:=ZR F.1 F.2.1 hg (ZC1 _)
 have hk:(a6 F (uI F.1 F.2.1 (nV path))).1=2:=(T5 (s:=F.1) (n:=a6 F (uI F.1 F.2.1 (nV path))) (fun e=>by
  have h1:=yY (l:=(bJ F.1 (a6 F (uI F.1 F.2.1 (nV path)))).1) (name:=dJ path) g3
  rw [e] at h1
  have:=h1.1
  have g3:0≤ll (bJ F.1 (a6 F (uI F.1 F.2.1 (nV path)))).1 (dJ path):=g3
  rw [e] at g3
  have:ll ([]:List eS) (dJ path)<0:=this
  omega)).1
 have hp:dQ F path=(uI F.1 F.2.1 (nV path),0):=by
  unfold dQ plE
  rw [show decide (((bC path).length:Int)=0)=false from decide_eq_false (by omega),show decide (uI F.1 F.2.1 (nV path)<0)=false from decide_eq_false (by show¬EU F.1 F.2.1 (nV path) 0<0;omega),show decide ((a6 F (uI F.1 F.2.1 (nV path))).1≠2)=false from decide_eq_false (by omega)];rfl
 rw [hp]
 refine⟨rfl,g3,?_⟩
 show EU F.1 F.2.1 (bC path) 0=_
 rw [DU hn];exact g4
theorem zd (F:fo) (path:ByteArray): -1≤bB F path∧bB F path≤15:=aei _ _ _
theorem cY.sQ {F:fo}{n:Nat}{i:Int}{l:List eS}(h:cY F n) (h0:0≤i) (h1:i≤15):cY (ch F i l) (n+123)∧(F.2.2=false→(ch F i l).2.2=false→∀k:Nat,k<16→(k:Int)≠i→getM (ch F i l).1 (ch F i l).2.1 k=getM F.1 F.2.1 k):=by
 obtain⟨j,rfl⟩:∃j:Nat,i=j:=⟨i.toNat,by omega⟩
 have:=h.write (i:=j) (l:=l) (by omega)
 exact⟨this.1,fun a b k hk fy=>this.2 a b k hk (by omega)⟩
theorem cY.adw {F:fo}{n:Nat}{i:Int}{nd:ft}{l:Int}(h:cY F n) (h0:0<i) (h1:i≤15) (hn:F.2.2=false→nd=a6 F i):cY (mU F i (nd.1,l,nd.2.2)) (n+6):=by
 obtain⟨j,rfl⟩:∃j:Nat,i=j:=⟨i.toNat,by omega⟩
 refine h.ady (by omega) (by omega) fun hf=>?_
 rw [hn hf];exact (h.fs hf).a6 j
theorem cY.free {F:fo}{n:Nat}(h:cY F n) (hf:F.2.2=false) (h0:0≤xk F.1 F.2.1):xk F.1 F.2.1≤15:=by
 have:=(TN (h.fs hf).fi.tree h0).1;omega
theorem MM {F:fo}{path:ByteArray}(h:decide ((dv F path).2>0)=false):1≤(bC path).length∧0≤(dv F path).1∧(dv F path).1≤15:=by
 obtain⟨h1,h2⟩:=abQ h
 obtain⟨p1,p2,p3,p4,_⟩:=N8 h1
 rw [h2,p2];exact⟨p1,p3,p4⟩
theorem cY.node {F:fo}{n:Nat}{id:Int}(h:cY F n) (hf:F.2.2=false) (h0:0≤id) (h1:id≤15):cy (a6 F id)=true∨a6 F id=nu:=by
 obtain⟨j,rfl⟩:∃j:Nat,id=j:=⟨id.toNat,by omega⟩
 have h2:=((h.fs hf).at (i:=j) (by omega)).2
 rw [show a6 F (j:Int)=nodeAt F.1 F.2.1 j from (h.fs hf).a6 (b:=F.2.2) j];exact h2
theorem cY.file {F:fo}{n:Nat}{id:Int}(h:cY F n) (hf:F.2.2=false) (h0:0≤id) (h1:id≤15) (hk:(a6 F id).1=1):0<id∧cy (a6 F id)=true:=by
 refine⟨?_,?_⟩
 ·rcases Int.lt_or_eq_of_le h0 with e |e
  ·exact e
  ·have h2:(nodeAt F.1 F.2.1 0).1=2:=(h.fs hf).root
   have h3:a6 F ((0:Nat):Int)=nodeAt F.1 F.2.1 0:=(h.fs hf).a6 (b:=F.2.2) 0
   rw [←h3] at h2
   rw [←e] at hk
   have hk:(a6 F ((0:Nat):Int)).1=1:=hk
   omega
 ·rcases h.node hf h0 h1 with e |e
  ·exact e
  ·rw [e] at hk;exact absurd (show (0:Int)=1 from hk) (by decide)
theorem cY.adx {F:fo}{n:Nat}{id:Int}(h:cY F n) (hf:F.2.2=false) (h0:0≤id) (h1:id≤15):0≤(a6 F id).2.1∧(a6 F id).2.1≤9:=by
 rcases h.node hf h0 h1 with e |e
 ·have:=(ld e).2.1;omega
 ·rw [e];exact⟨by decide,by decide⟩
theorem cY.iS {F:fo}{n:Nat}{id a:Int}{text:ByteArray}(h:cY F n) (hf:F.2.2=false) (h0:0≤id) (h1:id≤15) (hk:(a6 F id).1=1) (ha:0≤a) (ha1:a+text.size≤192):(nw F.1 (a6 F id) a text).1.wg (n+96)∧cY (mU ((nw F.1 (a6 F id) a text).1,F.2.1,!(nw F.1 (a6 F id) a text).2.2) id (nw F.1 (a6 F id) a text).2.1) (n+102):=by
 have hp:=(h.file hf h0 h1 hk).1
 obtain⟨j,rfl⟩:∃j:Nat,id=j:=⟨id.toNat,by omega⟩
 have e:a6 F (j:Int)=nodeAt F.1 F.2.1 j:=(h.fs hf).a6 (b:=F.2.2) j
 have hw:=(ag0 (nd:=a6 F j) h.wg (o9 F.1 F.2.1 j) ha ha1).1
 refine⟨hw,h.change hf (by omega) (by omega) hw fun hz=>?_⟩
 have hB:=(h.fs hf).take (i:=j) (by omega)
 rw [←e] at hB
 exact hB.iS ha ha1 hz
theorem cY.c13 {F:fo}{n:Nat}{id a:Int}(h:cY F n) (hf:F.2.2=false) (h0:0≤id) (h1:id≤15) (hk:(a6 F id).1=1) (ha:0≤a) (ha1:a≤192):(iZ F.1 (a6 F id) a).1.wg (n+96)∧cY (mU ((iZ F.1 (a6 F id) a).1,F.2.1,!(iZ F.1 (a6 F id) a).2.2) id (iZ F.1 (a6 F id) a).2.1) (n+102):=by
 have hp:=h.file hf h0 h1 hk
 obtain⟨j,rfl⟩:∃j:Nat,id=j:=⟨id.toNat,by omega⟩
 have e:a6 F (j:Int)=nodeAt F.1 F.2.1 j:=(h.fs hf).a6 (b:=F.2.2) j
 have hw:=(ahV (nd:=a6 F j) h.wg hp.2 hk ha ha1).1
 refine⟨hw,h.change hf (by omega) (by have:=hp.1;omega) hw fun hz=>?_⟩
 have hB:=(h.fs hf).take (i:=j) (by omega)
 rw [←e] at hB
 exact hB.c13 hp.2 hk ha ha1 hz
theorem cY.aav {F:fo}{n:Nat}{i id:Int}{l:List eS}(h:cY F n) (hf:F.2.2=false) (h0:0≤i) (h1:i≤15) (k0:0≤id) (k1:id≤15) (fy:id≠i) (hz:(ch F i l).2.2=false):a6 F id=a6 (ch F i l) id:=by
 obtain⟨j,rfl⟩:∃j:Nat,id=j:=⟨id.toNat,by omega⟩
 have hw:=h.sQ (l:=l) h0 h1
 have e1:a6 F (j:Int)=nodeAt F.1 F.2.1 j:=(h.fs hf).a6 (b:=F.2.2) j
 have e2:a6 (ch F i l) (j:Int)=nodeAt (ch F i l).1 (ch F i l).2.1 j:=(hw.1.fs hz).a6 (b:=(ch F i l).2.2) j
 rw [e1,e2]
 show (bz (getM _ _ j)).1=(bz (getM _ _ j)).1
 rw [hw.2 hf hz j (by omega) fy]
theorem aah {F:fo}{path:ByteArray}(h:0<bB F path) (hb:(a6 F (bB F path)).1=2→¬0<(a6 F (bB F path)).2.2.1):bB F path≠(dQ F path).1:=fun e=>by
 have h1:=(py h).2.1
 have h2:=T5 (s:=F.1) (n:=a6 F (dQ F path).1) (fun e2=>by
  have h3:=(yY h1).1
  rw [e2] at h3 h1
  have:ll ([]:List eS) (dJ path)<0:=h3
  omega)
 rw [←e] at h2
 exact hb h2.1 h2.2
theorem cY.ajB {F:fo}{n:Nat}{id:Int}(h:cY F n) (h0:0<id) (h1:id≤15) (hf:F.2.2=false):M6 F.1 (cT (a6 F id))=true∧cY ((cq F.1 F.2.1 id).1,(cq F.1 F.2.1 id).2.1,!(cq F.1 F.2.1 id).2.2) (n+67):=by
 have hd:=XP h.wg h.ok (Int.le_of_lt h0) h1
 obtain⟨j,rfl⟩:∃j:Nat,id=j:=⟨id.toNat,by omega⟩
 have h2:=h.drop (i:=j) hf (by omega) (by omega)
 exact⟨h2.1,hd.1,hd.2,fun hz=>h2.2 (cL hz)⟩
end GL
namespace GL
def Kept (O:Nat→Nat) (s u:ay):Prop:=Acc u O∧Kp O s u∧dP s u
theorem Kept.refl {O:Nat→Nat}{s:ay}(h:Acc s O):Kept O s s:=⟨h,Kp.refl _ _,dP.refl _⟩
theorem Kept.trans {O:Nat→Nat}{a b c:ay}(h:Kept O a b) (h2:Kept O b c):Kept O a c:=⟨h2.1,h.2.1.trans h2.2.1,h.2.2.trans h2.2.2⟩
theorem DG {s:ay}{O:Nat→Nat}(h:Acc s O) (text:ByteArray) (lv:Int):Kept O s (bd s text lv).1:=by
 cases hz:(bd s text lv).2.2 with
 |true=>
  have e:=xE h hz
  exact⟨e.1.mono fun r=>ZD3 _ _,e.2.1,e.2.2.1⟩
 |false=>
  rcases jI s text lv with ⟨_,e⟩ |⟨k,e,_⟩
  ·rw [e];exact .refl h
  ·rw [e] at hz;cases hz
theorem abV {s:ay}{O:Nat→Nat}(h:Acc s O) (l:List Pt) (lv:Int) (old:Pt):Kept O s (dZ s l lv old).1:=by
 cases h1:nR l with
 |true=>rw [JA h1];exact .refl h
 |false=>
  cases h2:fC s l old with
  |true=>rw [I9 h1 h2];exact .refl h
  |false=>rw [tO h1 h2];exact DG h _ _
theorem I6 {O:Nat→Nat}{lv:Int}{j7 l:List Pt}:∀(f:Nat) {s:ay}(i:Nat) (next stays:List Pt),Acc s O→Kept O s (fH f s lv j7 l i next stays).1
 |0,s,i,next,stays,h=>.refl h
 |f+1,s,i,next,stays,h=>by
  unfold fH
  cases decide ((i:Int)*4<l.length) with
  |false=>exact .refl h
  |true=>
   have h1:=abV h (qK l i) lv (nth ae j7 i)
   cases hz: !(dZ s (qK l i) lv (nth ae j7 i)).2.2 with
   |true=>exact h1
   |false=>exact h1.trans (I6 f _ _ _ h1.1)
theorem L3 {O:Nat→Nat}{t:bf}{d:Int}:∀(f:Nat) {s:ay}(lv:Int) (l stays:List Pt),Acc s O→Kept O s (mg f s t d lv l stays).1
 |0,s,lv,l,stays,h=>.refl h
 |f+1,s,lv,l,stays,h=>by
  unfold mg
  cases decide (lv≤d) with
  |false=>exact .refl h
  |true=>
   have h1:=I6 (lv:=lv) (j7:=dK s t d lv) (l:=eJ l) 5 0 [] stays h
   rw [cond_true]
   cases hz:fH 5 s lv (dK s t d lv) (eJ l) 0 [] stays with
   |mk u r=>
    rw [hz] at h1
    cases r with
    |none=>exact h1
    |some q=>exact h1.trans (L3 f _ _ _ h1.1)
theorem WX {s:ay}{O:Nat→Nat}{t:bf}{L:List Pt}{many:Int}(h:Acc s O) (hz:(bQ s t L many).2.2=false):Kept O s (bQ s t L many).1:=by
 have h1:=L3 (t:=t) (d:=bj many) 3 1 (L.take many.toNat) [] h
 unfold bQ at hz ⊢
 cases hf:mg 3 s t (bj many) 1 (L.take many.toNat) [] with
 |mk u r=>
  rw [hf] at h1 hz
  cases r with
  |none=>exact h1
  |some q=>cases hz
theorem BP {s:ay}{O:Nat→Nat}{t:bf}{L:List Pt}{k:Nat}{p old:Pt}{many:Int}(h:Acc s O) (hz:(pN s t L k p many old).2.2=false):Kept O s (pN s t L k p many old).1:=by
 unfold pN at hz ⊢
 cases h1:(bQ s t (L.set k p) many).2.2 with
 |true=>rw [h1] at hz;cases hz
 |false=>exact WX h h1
theorem aaL {s:ay}{O:Nat→Nat}{t:bf}{k:Int}{text:ByteArray}(h:Acc s O) (hz:(aY s t k text).2.2=false):Kept O s (aY s t k text).1:=by
 unfold aY at hz ⊢
 cases h1:decide (gT s t k=text)&&decide (bN t k=t.many) with
 |true=>exact .refl h
 |false=>
  rw [h1,cond_false] at hz
  rw [cond_false]
  cases h2:decide (gT s t k≠text) with
  |false=>
   rw [h2,cond_false] at hz
   exact BP h hz
  |true=>
   rw [h2,cond_true] at hz
   rw [cond_true]
   cases h3:decide (text≠⟨#[]⟩) with
   |false=>
    rw [h3,cond_false] at hz
    exact BP h hz
   |true=>
    rw [h3,cond_true] at hz
    rw [cond_true]
    cases h4: !(bd s text 0).2.2 with
    |true=>exact .refl h
    |false=>
     rw [h4,cond_false] at hz
     have h5:=DG h text 0
     exact h5.trans (BP h5.1 hz)
structure TA (s:ay) (t:bf):Prop where
 tree:Tree s t t.d
 acc:∃X:Nat→Nat,Acc s (fun r=>X r+bn (di s t) r)
theorem FS.ta {s:ay}{t:bf}(h:FS s t):TA s t:=
 ⟨h.fi.tree,_,h.fi.acc.mono (O':=fun r=>0+bn (di s t) r) fun r=>by show 0+bn (di s t) r≤0+bn (di s t) r+gF s t E0 r;omega⟩
theorem FS.taN {s:ay}{t:bf}(h:FS s t) {k:Nat}(hk:k<16):TA s (cT (nodeAt s t k)):=by
 rcases h.fi.nodes k hk rfl with he |⟨_,hn⟩
 ·have e:nodeAt s t k=nu:=by unfold nodeAt;rw [he,fG]
  rw [e]
  refine⟨NJ s,O0,h.fi.acc.mono fun r=>?_⟩
  show 0+bn (di s nt) r≤_
  rw [show di s nt=ik s 0 bM from rfl,za]
  exact ZA7 _
 ·refine⟨hn.tree,O0,h.fi.acc.mono fun r=>?_⟩
  have h1:=H4 (f:=fun k=>bif E0 k then 0 else bn (dy s (nodeAt s t k)) r) (ZE2.2 hk)
  have h2:bn (dy s (nodeAt s t k)) r≤gF s t E0 r:=h1
  show 0+bn (di s (cT (nodeAt s t k))) r≤0+bn (di s t) r+gF s t E0 r
  show 0+bn (dy s (nodeAt s t k)) r≤_
  omega
theorem TA.next {s:ay}{t:bf}(h:TA s t) (ht:s.cg<1000000):TA (ie s) t:=by
 obtain⟨X,ha⟩:=h.acc
 obtain⟨h1,h2,h3,_⟩:=yq ha ht
 have h4:=xc h.tree (by rw [h3];omega) h2 fun r=>Nat.le_add_left _ _
 exact⟨h4.1,X,h1.mono fun r=>by rw [show di (ie s) t=di s t from h4.2.1];exact ZB5 _⟩
theorem TA.put {s:ay}{t:bf}{k:Int}{text:ByteArray}(h:TA s t) (hk0:0≤k) (hk:k≤15) (hz:(aY s t k text).2.2=true):TA (aY s t k text).1 (aY s t k text).2.1:=by
 obtain⟨X,ha⟩:=h.acc
 obtain⟨d,hP⟩:=BN ha h.tree hk0 hk hz
 refine⟨hP.tree.at,X,hP.acc.mono fun r=>?_⟩
 rw [FZ hP.tree];exact ZB5 _
theorem TA.akv {s:ay}{t:bf}{k:Int}{text:ByteArray}(h:TA s t) (hz:(aY s t k text).2.2=false):TA (aY s t k text).1 t:=by
 obtain⟨X,ha⟩:=h.acc
 obtain⟨h1,h2,h3⟩:=aaL ha hz
 have h4:=xc h.tree (by rw [h3.cg];exact ZC1 _) h2 fun r=>Nat.le_add_left _ _
 exact⟨h4.1,X,h1.mono fun r=>by rw [show di _ t=di s t from h4.2.1];exact ZB5 _⟩
theorem TA.gk {s:ay}{t:bf}{n:Nat}(h:TA s t) (hw:s.wg n) (hn:n≤900000):s.gk:=by
 obtain⟨X,ha⟩:=h.acc
 exact⟨ha.wf.n,ZB0 hw.g (by omega),fun p hp=>nP (ha.ok p (by simp [hp])).1,by have:=ha.cg;omega⟩
theorem HN:∀(l:List Pt) (s:ay),(j5 l s).dead=s.dead
 |[],_=>rfl
 |p::l,s=>HN l (gd s p.1.toNat)
theorem SE {s:ay}{n:Nat}{O:Nat→Nat}(h:Acc s O) (hw:s.wg n) (hn:n≤900000):(ie s).wg (n+1):=by
 have ht:s.cg<1000000:=by have:=hw.t;omega
 obtain⟨h1,_,e3,_⟩:=yq h ht
 refine⟨h1.wf,ZA7 _,?_,?_⟩
 ·show (j5 s.gone s).dead.length≤_;rw [HN];have:=hw.d;omega
 ·rw [e3];have:=hw.t;omega
theorem TA.SD {s:ay}{t:bf}{n:Nat}(h:TA s t) (hw:s.wg n) (hn:n≤900000):TA (ie s) t∧(ie s).wg (n+1):=by
 obtain⟨X,ha⟩:=h.acc
 exact⟨h.next (by have:=hw.t;omega),SE ha hw hn⟩
theorem WM {s:ay}{t:bf}(h:Tree s t t.d) {k:Nat}(hk:k<(oA s t).length):nth oY (oA s t) k=nodeAt s t k:=by
 rw [show (oA s t).length=(bo s t).length from ZG2 ..] at hk
 have h1:=xJ (s:=s) h.ok (k:=k) (by rw [←fp (s:=s) h.ok];exact hk)
 have h2:nth oY ((bo s t).map fun x=>(bz x).1) k=(bz (nth ab (bo s t) k)).1:=by
  unfold nth;rw [List.getElem?_map,ZB1 hk];rfl
 rw [oA,h2,h1]
end GL
end Go.Proofs.YtclcgjhhehbdeaaGreatDoor
