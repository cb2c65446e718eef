/- A drawn law returns true for every code (its row lists package variables, tied by the card): part 35. -/
import Derived.Test.YtkgpljpmdkflmaaGreatDoorPbc
import Derived.Test.YtkgpljpmdkflmaaGreatDoorPbf
set_option maxHeartbeats 20000000
set_option maxRecDepth 100000
set_option linter.all false
namespace Go.Proofs.YtkgpljpmdkflmaaGreatDoor
namespace GL
abbrev fp:=ay×bf×Bool
abbrev oI (b:(Nat×Nat×Nat×Int×Nat×Int×Nat×Bool×Int×Int×Int×Int×Int×Int×Int×Bool)×List ByteArray×List Int×List Int×List Pt×List Pt):fp:=((b.2.1,b.2.2.1,b.2.2.2.1,b.1.2.2.2.1,b.2.2.2.2.1,b.1.2.2.2.2.2.1,b.2.2.2.2.2,b.1.2.2.2.2.2.2.2.1),(b.1.2.2.2.2.2.2.2.2.1,b.1.2.2.2.2.2.2.2.2.2.1,b.1.2.2.2.2.2.2.2.2.2.2.1,b.1.2.2.2.2.2.2.2.2.2.2.2.1,b.1.2.2.2.2.2.2.2.2.2.2.2.2.1,b.1.2.2.2.2.2.2.2.2.2.2.2.2.2.1,b.1.2.2.2.2.2.2.2.2.2.2.2.2.2.2.1),b.1.2.2.2.2.2.2.2.2.2.2.2.2.2.2.2)
abbrev fsW (b:(Nat×Nat×Nat×Int×Nat×Int×Nat×Bool×Int×Int×Int×Int×Int×Int×Int×Bool)×List ByteArray×List Int×List Int×List Pt×List Pt):Prop:=whole b.1.1 b.1.2.1 b.1.2.2.1 b.1.2.2.2.2.1 b.1.2.2.2.2.2.2.1 b.2.1 b.2.2.1 b.2.2.2.1 b.2.2.2.2.1 b.2.2.2.2.2
abbrev a6 (F:fp) (id:Int):fv:=(cL F.1 F.2.1 id).1
def nb (F:fp) (id:Int) (n:fv):fp:=bif F.2.2 then F else ((aY F.1 F.2.1 id (aC n)).1,(aY F.1 F.2.1 id (aC n)).2.1,!(aY F.1 F.2.1 id (aC n)).2.2)
theorem PQ {F:fp}{id:Int}{n:fv}(h:F.2.2=true):nb F id n=F:=by unfold nb;rw [h];rfl
theorem PO {F:fp}{id:Int}{n:fv}(h:F.2.2=false):nb F id n=((aY F.1 F.2.1 id (aC n)).1,(aY F.1 F.2.1 id (aC n)).2.1,!(aY F.1 F.2.1 id (aC n)).2.2):=by unfold nb;rw [h];rfl
abbrev z6 (F:fp) (id:Int) (text:ByteArray):ay×bf×Bool:=dH F.1 (cU (a6 F id)) text
def ck (F:fp) (id:Int) (l:List eV):fp:=bif F.2.2 then F else nb ((z6 F id (en l)).1,F.2.1,!(z6 F id (en l)).2.2) id (ke (a6 F id) (en l).size (z6 F id (en l)).2.1)
theorem JI {F:fp}{id:Int}{l:List eV}(h:F.2.2=true):ck F id l=F:=by unfold ck;rw [h];rfl
theorem JH {F:fp}{id:Int}{l:List eV}(h:F.2.2=false):ck F id l=nb ((z6 F id (en l)).1,F.2.1,!(z6 F id (en l)).2.2) id (ke (a6 F id) (en l).size (z6 F id (en l)).2.1):=by unfold ck;rw [h];rfl
def plE (F:fp) (a:Int):Int×Int:=bif decide (a<0) then (0,2) else bif decide ((a6 F a).1≠2) then (0,4) else (a,0)
abbrev ob (path:ByteArray):List ByteArray:=(bD path).take (((bD path).length:Int)-1).toNat
def dS (F:fp) (path:ByteArray):Int×Int:=bif decide (((bD path).length:Int)=0) then (0,3) else plE F (uP F.1 F.2.1 (ob path))
def bC (F:fp) (path:ByteArray):Int:=uP F.1 F.2.1 (bD path)
def dw (F:fp) (path:ByteArray):Int×Int:=bif decide ((dS F path).2>0) then (0,(dS F path).2) else bif decide (bC F path≥0) then (0,3) else ((dS F path).1,0)
theorem aen (s:ay) (t:bf):∀{l:List ByteArray}{k:Int},-1≤k→k≤15→-1≤EY s t l k∧EY s t l k≤15
 |[],k,h0,h1=>⟨h0,h1⟩
 |x::l,k,h0,h1=>by
  cases h: !(bK s (cL s t k).1).2 with
  |true=>rw [ZX h];omega
  |false=>cases h2:decide (lz (bK s (cL s t k).1).1 x<0) with
   |true=>rw [ZW h2];omega
   |false=>
    rw [MN h h2]
    have h3:=aA h2
    have h4:=za (l:=(bK s (cL s t k).1).1) (name:=x) (by omega)
    have h5:=(FN s (cL s t k).1).2 _ (bS (ek:=aK) (l:=(bK s (cL s t k).1).1) (k:=(lz (bK s (cL s t k).1).1 x).toNat) (by omega))
    exact aen s t (by omega) (by omega)
theorem aem (s:ay) (t:bf) (l:List ByteArray): -1≤uP s t l∧uP s t l≤15:=aen s t (by omega) (by omega)
theorem ZV (s:ay) (t:bf) {x:ByteArray}:∀{l:List ByteArray}{k:Int},0≤EY s t (l++[x]) k→0≤k→0≤EY s t l k∧(bK s (cL s t (EY s t l k)).1).2=true∧0≤lz (bK s (cL s t (EY s t l k)).1).1 x∧EY s t (l++[x]) k=(nth aK (bK s (cL s t (EY s t l k)).1).1 (lz (bK s (cL s t (EY s t l k)).1).1 x).toNat).2
 |[],k,h,hk=>by
  have h:0≤EY s t [x] k:=h
  cases h1: !(bK s (cL s t k).1).2 with
  |true=>rw [ZX h1] at h;exact absurd h (by decide)
  |false=>cases h2:decide (lz (bK s (cL s t k).1).1 x<0) with
   |true=>rw [ZW h2] at h;exact absurd h (by decide)
   |false=>
    have h3:=aA h2
    exact⟨hk,cM h1,by show 0≤lz (bK s (cL s t k).1).1 x;omega,MN h1 h2⟩
 |y::l,k,h,hk=>by
  have h:0≤EY s t (y::(l++[x])) k:=h
  cases h1: !(bK s (cL s t k).1).2 with
  |true=>rw [ZX h1] at h;exact absurd h (by decide)
  |false=>cases h2:decide (lz (bK s (cL s t k).1).1 y<0) with
   |true=>rw [ZW h2] at h;exact absurd h (by decide)
   |false=>
    have h3:=aA h2
    have h4:=za (l:=(bK s (cL s t k).1).1) (name:=y) (by omega)
    have h5:=(FN s (cL s t k).1).2 _ (bS (ek:=aK) (l:=(bK s (cL s t k).1).1) (k:=(lz (bK s (cL s t k).1).1 y).toNat) (by omega))
    rw [MN h1 h2] at h
    rw [MN h1 h2,ZG4,MN h1 h2]
    exact ZV s t h (by omega)
structure cZ (F:fp) (n:Nat):Prop where
 wg:F.1.wg n
 ok:F.2.1.ok
 fs:F.2.2=false→FS F.1 F.2.1
theorem cZ.mono {F:fp}{n m:Nat}(h:cZ F n) (hm:n≤m):cZ F m:=⟨h.wg.mono hm,h.ok,h.fs⟩
theorem cZ.HQ {F:fp}{n:Nat}{id:Int}{nd:fv}(hw:F.1.wg n) (cH:F.2.1.ok) (h0:0≤id) (h1:id≤15) (hf:F.2.2=false→(aY F.1 F.2.1 id (aC nd)).2.2=true→FS (aY F.1 F.2.1 id (aC nd)).1 (aY F.1 F.2.1 id (aC nd)).2.1):cZ (nb F id nd) (n+6):=by
 cases hfu:F.2.2 with
 |true=>rw [PQ hfu];exact⟨hw.mono (by omega),cH,fun h=>by rw [hfu] at h;cases h⟩
 |false=>
  rw [PO hfu]
  have h2:=nt (k:=id) (text:=aC nd) hw cH h0 h1
  exact⟨h2.1,h2.2.1,fun h=>hf hfu (cM h)⟩
theorem FS.a6 {s:ay}{t:bf}{b:Bool}(h:FS s t) (i:Nat):GL.a6 (s,t,b) i=nodeAt s t i:=by
 show (GL.cL s t i).1=_
 rw [h.cL (by omega)];rfl
theorem cZ.write {F:fp}{n i:Nat}{l:List eV}(h:cZ F n) (hi:i<16):cZ (ck F i l) (n+123)∧(F.2.2=false→(ck F i l).2.2=false→∀k,k<16→k≠i→getM (ck F i l).1 (ck F i l).2.1 k=getM F.1 F.2.1 k):=by
 obtain⟨s,t,b⟩:=F
 cases b with
 |true=>rw [JI rfl];exact⟨h.mono (by omega),fun h=>by cases h⟩
 |false=>
  have uO:=h.fs rfl
  rw [JH rfl]
  have hb:=UF (text:=en l) h.wg (ph s t i)
  cases hz:(z6 (s,t,false) i (en l)).2.2 with
  |false=>
   refine⟨(cZ.HQ (F:=((z6 (s,t,false) i (en l)).1,t,true)) (n:=n+117) hb.1 h.ok (by omega) (by omega) fun h=>by cases h).mono (by omega),fun _ h2=>?_⟩
   rw [PQ rfl] at h2;cases h2
  |true=>
   have key:=fun hz2=>uO.write (i:=i) (text:=en l) hi (by rw [←uO.a6 (b:=false) i];exact hz) hz2
   rw [←uO.a6 (b:=false) i] at key
   refine⟨(cZ.HQ (F:=((z6 (s,t,false) i (en l)).1,t,false)) (n:=n+117) hb.1 h.ok (by omega) (by omega) fun _ hz2=>(key hz2).1).mono (by omega),fun _ h2=>?_⟩
   rw [Bool.not_true,PO rfl] at h2 ⊢
   exact (key (cM h2)).2.1
theorem TR {l:List ByteArray}:∀{f k:Nat},0≤frF f l k→((k:Int)≤frF f l k∧frF f l k<((k+f:Nat):Int))∧(frF f l k≥(l.length:Int)∨nth ab l (frF f l k).toNat=⟨#[]⟩)
 |0,k,h=>absurd (show (0:Int)≤-1 from h) (by decide)
 |f+1,k,h=>by
  cases h1:decide ((k:Int)≥(l.length:Int)) with
  |true=>rw [agT h1];exact⟨⟨ZC1 _,by omega⟩,.inl (aJ h1)⟩
  |false=>cases h2:decide (nth ab l k=⟨#[]⟩) with
   |true=>rw [agS h2];exact⟨⟨ZC1 _,by omega⟩,.inr (by rw [ZA5];exact aJ h2)⟩
   |false=>
    rw [agR h1 h2] at h ⊢
    have:=TR (l:=l) (f:=f) (k:=k+1) h
    exact⟨⟨by omega,by omega⟩,this.2⟩
theorem TQ {s:ay}{t:bf}(h:Tree s t t.d) (h0:0≤xt s t):xt s t<16∧getM s t (xt s t).toNat=⟨#[]⟩:=by
 have h1:=TR (l:=bq s t) (f:=16) (k:=0) h0
 refine⟨by have:=h1.1.2;unfold xt;omega,?_⟩
 by_cases hm:(xt s t).toNat<t.many.toNat
 ·rw [←xQ h.ok hm]
  rcases h1.2 with h2 |h2
  ·rw [fq h.ok] at h2
   exact absurd hm (by unfold xt at *;omega)
  ·exact h2
 ·exact mZ h (by have:=h.m0;omega)
theorem cZ.make {F:fp}{n:Nat}{kind:Int}(h:cZ F n) (hf:F.2.2=false) (h0:0≤xt F.1 F.2.1):cZ (nb F (xt F.1 F.2.1) (kind,1,0,nB)) (n+6):=by
 have uO:=h.fs hf
 obtain⟨h1,h2⟩:=TQ uO.fi.tree h0
 refine cZ.HQ h.wg h.ok h0 (by omega) fun _ hz=>?_
 obtain⟨i,hi⟩:∃i:Nat,xt F.1 F.2.1=i:=⟨(xt F.1 F.2.1).toNat,by omega⟩
 rw [hi] at hz h2 ⊢
 rw [ZA5] at h2
 exact (uO.make (by omega) h2 hz).1
theorem cZ.adC {F:fp}{n i:Nat}{nd:fv}{l:Int}(h:cZ F n) (hi:i<16) (hi0:0<i) (hn:F.2.2=false→nd=nodeAt F.1 F.2.1 i):cZ (nb F i (nd.1,l,nd.2.2)) (n+6):=by
 refine cZ.HQ h.wg h.ok (by omega) (by omega) fun hf hz=>?_
 rw [hn hf] at hz ⊢
 exact ((h.fs hf).adC hi hi0 hz).1
theorem cZ.drop {F:fp}{n i:Nat}(h:cZ F n) (hf:F.2.2=false) (hi:i<16) (hi0:0<i):NA F.1 (cU (cL F.1 F.2.1 i).1)=true∧((cr F.1 F.2.1 i).2.2=true→FS (cr F.1 F.2.1 i).1 (cr F.1 F.2.1 i).2.1):=by
 have uO:=h.fs hf
 refine⟨?_,fun hz=>(uO.drop hi hi0 hz).1⟩
 have hn:(cL F.1 F.2.1 i).1=nodeAt F.1 F.2.1 i:=by rw [uO.cL (by omega)];rfl
 rw [hn]
 exact (UJ (uO.at hi).1.rC).1
theorem XS {s:ay}{t:bf}{k:Int}{n:Nat}(hs:s.wg n) (ht:t.ok) (h0:0≤k) (h1:k≤15):(cr s t k).1.wg (n+67)∧(cr s t k).2.1.ok:=by
 have hna:=aaw (s:=s) (ph s t k).rd.ok
 have kg:=C1 (l:=allM s (cU (cL s t k).1)) hs.wf
 have hu:(xJ s t k).wg (n+40):=⟨kg.1,by have:=kg.2.1;have:=hna.2;have:=hs.g;show (dx _ s).gone.length≤_;omega,by have:=kg.2.2;have:=hna.2;have:=hs.d;show (dx _ s).dead.length≤_;omega,by show (dx _ s).cj≤_;rw [yN];have:=hs.t;omega⟩
 have hp:=nt (k:=k) (text:=⟨#[]⟩) hu ht h0 h1
 have hl:=IB (s:=s) ht k
 rw [ru]
 cases !(aY (xJ s t k) t k ⟨#[]⟩).2.2 with
 |true=>exact⟨hp.1.mono (by omega),hp.2.1⟩
 |false=>
  have hc:=FQ (many:=mA s t k) hp.1 hp.2.1 hl.1 (ZE0 hl.2 ht.m1)
  exact⟨hc.1,hc.2.1⟩
theorem OI {text:ByteArray}:∀{f:Nat}{k:Int}{s:ay}{t:bf}{n:Nat},s.wg n→t.ok→0≤k→k+f≤16→(qS f k s t text).1.wg (n+6*f)∧(qS f k s t text).2.1.ok
 |0,k,s,t,n,hs,ht,_,_=>⟨hs,ht⟩
 |f+1,k,s,t,n,hs,ht,h0,h1=>by
  have hp:=nt (k:=k) (text:=eK text k) hs ht h0 (by omega)
  cases hz:(aY s t k (eK text k)).2.2 with
  |false=>rw [VR hz];exact⟨hp.1.mono (by omega),ht⟩
  |true=>
   rw [VQ hz]
   have:=OI (text:=text) (f:=f) (k:=k+1) hp.1 hp.2.1 (by omega) (by omega)
   exact⟨this.1.mono (by omega),this.2⟩
theorem kz.p13 {s:ay}{t:bf}{E:Nat→Bool}{O:Nat→Nat}{text:ByteArray}:∀{f:Nat}{k:Int}{u:ay}{t2:bf},kz s t E O u t2→0≤k→k+f≤16→(qS f k u t2 text).2.2=true→kz s t E O (qS f k u t2 text).1 (qS f k u t2 text).2.1
 |0,k,u,t2,h,_,_,_=>h
 |f+1,k,u,t2,h,h0,h1,hz=>by
  cases hx:(aY u t2 k (eK text k)).2.2 with
  |false=>rw [VR hx] at hz;cases hz
  |true=>
   rw [VQ hx] at hz ⊢
   exact kz.p13 (h.put h0 (by omega) hx).1 (by omega) (by omega) hz
theorem aci {a:Int}{m:Nat}(h0:0≤a) (h1:a+m≤192) (h2:1≤m):0≤a / 12∧a / 12+(((a+m-1) / 12+1-a / 12).toNat:Int)≤16:=by omega
theorem ag2 {s:ay}{nd:fv}{a:Int}{text:ByteArray}{n:Nat}(hs:s.wg n) (ht:(cU nd).ok) (h0:0≤a) (h1:a+text.size≤192):(nE s nd a text).1.wg (n+96)∧(cU (nE s nd a text).2.1).ok:=by
 cases h:decide (text=⟨#[]⟩) with
 |true=>rw [NQ h];exact⟨hs.mono (by omega),ht⟩
 |false=>
  have h2:=size_pos (aA h)
  have hb:=aci h0 h1 h2
  rw [NP h]
  have:=OI (text:=UP s nd a text) (f:=((a+text.size-1) / 12+1-a / 12).toNat) hs ht hb.1 hb.2
  exact⟨this.1.mono (by omega),this.2⟩
theorem kz.iV {s u:ay}{t:bf}{E:Nat→Bool}{O:Nat→Nat}{nd:fv}{a:Int}{text:ByteArray}(h:kz s t E O u (cU nd)) (h0:0≤a) (h1:a+text.size≤192) (hz:(nE u nd a text).2.2=true):kz s t E O (nE u nd a text).1 (cU (nE u nd a text).2.1):=by
 cases hd:decide (text=⟨#[]⟩) with
 |true=>rw [NQ hd];exact h
 |false=>
  have hb:=aci h0 h1 (size_pos (aA hd))
  rw [NP hd] at hz ⊢
  exact h.p13 hb.1 hb.2 hz
theorem ahW {s:ay}{nd:fv}{size:Int}{n:Nat}(hs:s.wg n) (uA:cy nd=true) (hn1:nd.1=1) (h0:0≤size) (h1:size≤192):(jd s nd size).1.wg (n+96)∧(cU (jd s nd size).2.1).ok:=by
 have cH:=nZ uA
 obtain⟨hm,CW,hm1⟩:=node1 uA hn1
 have hpm:bh size 12=(size+12-1) / 12:=rfl
 have hpn:bh nd.2.2.1 12=(nd.2.2.1+12-1) / 12:=rfl
 unfold jd
 cases hd:decide (size≥nd.2.2.1) with
 |true=>
  have hd:=aJ hd
  cases hq:decide (bh size 12=(cU nd).many) with
  |true=>exact⟨hs.mono (by omega),cH⟩
  |false=>
   have hq:=aA hq
   have hp:=nt (k:=bh size 12-1) (text:=⟨#[]⟩) hs cH (by omega) (by omega)
   exact⟨hp.1.mono (by omega),hp.2.1⟩
 |false=>
  have hc:=FQ (many:=bh size 12) hs cH (by omega) (by omega)
  show (J6 _ nd _ size _).1.wg _∧(cU (J6 _ nd _ size _).2.1).ok
  unfold J6
  cases !(cG s (cU nd) (bh size 12)).2.2 with
  |true=>exact⟨hc.1.mono (by omega),cH⟩
  |false=>
   cases hz:decide (bh size 12=0) with
   |true=>exact⟨hc.1.mono (by omega),hc.2.1⟩
   |false=>
    have hz:=aA hz
    have:=OI (text:=(jf s nd).extract 0 size.toNat) (f:=(bh size 12-1+1-(bh size 12-1)).toNat) (k:=bh size 12-1) hc.1 hc.2.1 (by omega) (by omega)
    exact⟨this.1.mono (by omega),this.2⟩
theorem kz.c13 {s u:ay}{t:bf}{E:Nat→Bool}{O:Nat→Nat}{nd:fv}{size:Int}(h:kz s t E O u (cU nd)) (uA:cy nd=true) (hn1:nd.1=1) (h0:0≤size) (h1:size≤192) (hz:(jd u nd size).2.2=true):kz s t E O (jd u nd size).1 (cU (jd u nd size).2.1):=by
 obtain⟨hm,CW,hm1⟩:=node1 uA hn1
 have hpm:bh size 12=(size+12-1) / 12:=rfl
 have hpn:bh nd.2.2.1 12=(nd.2.2.1+12-1) / 12:=rfl
 unfold jd at hz ⊢
 cases hd:decide (size≥nd.2.2.1) with
 |true=>
  rw [hd] at hz
  have hd:=aJ hd
  cases hq:decide (bh size 12=(cU nd).many) with
  |true=>exact h
  |false=>
   rw [hq] at hz
   have hq:=aA hq
   exact (h.put (by omega) (by omega) hz).1
 |false=>
  rw [hd] at hz
  have hz:(J6 (cG u (cU nd) (bh size 12)) nd (jf u nd) size (bh size 12)).2.2=true:=hz
  show kz s t E O (J6 (cG u (cU nd) (bh size 12)) nd (jf u nd) size (bh size 12)).1 (cU (J6 (cG u (cU nd) (bh size 12)) nd (jf u nd) size (bh size 12)).2.1)
  unfold J6 at hz ⊢
  cases hc:(cG u (cU nd) (bh size 12)).2.2 with
  |false=>rw [hc] at hz;cases hz
  |true=>
   rw [hc] at hz
   have hB:=(h.cut (by omega) (by omega) hc).1
   cases hq:decide (bh size 12=0) with
   |true=>exact hB
   |false=>
    rw [hq] at hz
    have hq:=aA hq
    exact kz.p13 (f:=(bh size 12-1+1-(bh size 12-1)).toNat) hB (by omega) (by omega) hz
theorem cZ.change {F:fp}{n i:Nat}{r:ay×fv×Bool}(h:cZ F n) (hf:F.2.2=false) (hi:i<16) (hi0:0<i) (hw:r.1.wg (n+96)) (hB:r.2.2=true→kz F.1 F.2.1 (rT E0 i) O0 r.1 (cU r.2.1)):cZ (nb (r.1,F.2.1,!r.2.2) i r.2.1) (n+102):=by
 refine cZ.HQ (F:=(r.1,F.2.1,!r.2.2)) hw h.ok (by omega) (by omega) fun hb hz=>?_
 exact ((h.fs hf).back hi (hB (cM hb)) (fun e=>absurd e (by omega)) hz).1
end GL
namespace GL
structure KL (l:List eV):Prop where
 len:l.length≤13
 sz:∀e∈l,e.1.size≤1000
 id:∀e∈l,0≤e.2∧e.2≤999999999
theorem KL.p {l:List eV}(h:KL l):ace l:=⟨by have:=h.len;omega,fun e he=>by have:=h.sz e he;omega,h.id⟩
theorem EF:∀{l:List eV}{out:ByteArray},(∀e∈l,e.1.size≤1000∧0≤e.2∧e.2≤999999999)→(l.foldl rr out).size≤out.size+1100*l.length
 |[],out,_=>ZB5 _
 |e::l,out,h=>by
  have h1:=EF (l:=l) (out:=rr out e) fun x hx=>h x (by simp [hx])
  have h2:=h e (by simp)
  have h3:(bY e.2).size≤12:=dc (ZE0 h2.2.2 (by omega))
  have h4:(rr out e).size=out.size+e.1.size+1+(bY e.2).size+1:=by
   show (out++e.1++⟨#[61]⟩++bY e.2++⟨#[59]⟩).size=_
   simp only [ZB2]
   rw [show (⟨#[61]⟩:ByteArray).size=1 from rfl,show (⟨#[59]⟩:ByteArray).size=1 from rfl]
  rw [List.foldl_cons,ZA1];omega
theorem KL.size {l:List eV}(h:KL l):(en l).size≤1000000:=by
 have h1:=EF (l:=l) (out:=⟨#[]⟩) fun e he=>⟨h.sz e he,h.id e he⟩
 have h2:=h.len
 rw [show (⟨#[]⟩:ByteArray).size=0 from rfl] at h1
 show (l.foldl rr ⟨#[]⟩).size≤_;omega
structure P4 (l:List eV):Prop where
 len:l.length≤12
 sz:∀e∈l,e.1.size≤1000
 id:∀e∈l,0≤e.2∧e.2≤999999999
theorem P4.w {l:List eV}(h:P4 l):KL l:=⟨by have:=h.len;omega,h.sz,h.id⟩
theorem qx (s:ay) (n:fv):P4 (bK s n).1:=by
 have h:=FN s n
 refine⟨h.1,fun e he=>?_,fun e he=>?_⟩
 ·have:=D0 (h.2 e he).1;omega
 ·have:=(h.2 e he).2;omega
theorem P4.less {l:List eV}(h:P4 l) (i:Nat):P4 (ey l i):=by
 have hm:∀e∈ey l i,e∈l:=fun e he=>by
  rcases ZB4.1 he with h1 |h1
  ·exact ZE6 h1
  ·exact ZF2 h1
 refine⟨?_,fun e he=>h.sz e (hm e he),fun e he=>h.id e (hm e he)⟩
 show (l.take i++l.drop (i+1)).length≤12
 rw [ZA0,ZC0,ZD0]
 have:=h.len;omega
theorem acd {e x:eV}{d:Bool}(h:E1 e x d=true):d=false:=by
 cases d with
 |false=>rfl
 |true=>cases h
theorem KH {e:eV}:∀{l out:List eV}{d:Bool},(wm e (xv l e d out)).length=out.length+l.length+(bif d then 0 else 1)
 |[],out,true=>rfl
 |[],out,false=>by show (out++[e]).length=_;rw [ZA0];rfl
 |x::l,out,d=>by
  cases h:E1 e x d with
  |true=>
   rw [YC h,KH (l:=l) (out:=out++[e]++[x]) (d:=true),acd h,ZA0,ZA0]
   show out.length+1+1+l.length+0=out.length+(l.length+1)+1;omega
  |false=>
   rw [P1 h,KH (l:=l) (out:=out++[x]) (d:=d),ZA0]
   show out.length+1+l.length+_=out.length+(l.length+1)+_;omega
theorem KG {e:eV}:∀{l out:List eV}{d:Bool},∀y∈wm e (xv l e d out),y∈out∨y∈l∨y=e
 |[],out,true=>fun y hy=>.inl hy
 |[],out,false=>fun y hy=>by
  have hy:y∈out++[e]:=hy
  rcases ZB4.1 hy with h |h
  ·exact .inl h
  ·exact .inr (.inr (ZC7.1 h))
 |x::l,out,d=>fun y hy=>by
  cases h:E1 e x d with
  |true=>
   rw [YC h] at hy
   rcases KG y hy with h1 |h1 |h1
   ·rcases ZB4.1 h1 with h2 |h2
    ·rcases ZB4.1 h2 with h3 |h3
     ·exact .inl h3
     ·exact .inr (.inr (ZC7.1 h3))
    ·exact .inr (.inl (by rw [ZC7.1 h2];simp))
   ·exact .inr (.inl (by simp [h1]))
   ·exact .inr (.inr h1)
  |false=>
   rw [P1 h] at hy
   rcases KG y hy with h1 |h1 |h1
   ·rcases ZB4.1 h1 with h2 |h2
    ·exact .inl h2
    ·exact .inr (.inl (by rw [ZC7.1 h2];simp))
   ·exact .inr (.inl (by simp [h1]))
   ·exact .inr (.inr h1)
theorem P4.add {l:List eV}(h:P4 l) {e:eV}(h1:e.1.size≤1000) (h2:0≤e.2∧e.2≤999999999):KL (qU l e):=by
 have hm:∀y∈qU l e,y∈l∨y=e:=fun y hy=>(KG y hy).elim (fun h=>absurd h ZF6) fun h=>h
 refine⟨?_,fun y hy=>?_,fun y hy=>?_⟩
 ·show (wm e (xv l e false [])).length≤13
  rw [KH]
  show 0+l.length+1≤13
  have:=h.len;omega
 ·rcases hm y hy with h3 |h3
  ·exact h.sz y h3
  ·rw [h3];exact h1
 ·rcases hm y hy with h3 |h3
  ·exact h.id y h3
  ·rw [h3];exact h2
theorem C8:(cQ ⟨#[]⟩).1=[]:=by rfl
theorem T8 {s:ay}{n:fv}(h:(bK s n).1≠[]):n.1=2∧0<n.2.2.1:=by
 cases h1: !(cy n) with
 |true=>rw [aeJ h1] at h;exact absurd rfl h
 |false=>cases h2:decide (n.1≠2) with
  |true=>rw [aeI h2] at h;exact absurd rfl h
  |false=>cases h3: !(qM s (cU n)) with
   |true=>rw [aeH h3] at h;exact absurd rfl h
   |false=>cases h4: !(c8 s (cU n)).2 with
    |true=>rw [aeG h4] at h;exact absurd rfl h
    |false=>cases h5:decide (((c8 s (cU n)).1.size:Int)≠n.2.2.1) with
     |true=>rw [aeF h5] at h;exact absurd rfl h
     |false=>
      rw [aeE h1 h2 h3 h4 h5] at h
      have h2:=aA h2
      have h5:=aA h5
      refine⟨by omega,?_⟩
      have:(c8 s (cU n)).1≠⟨#[]⟩:=fun e=>by rw [e,C8] at h;exact h rfl
      have:=size_pos this
      omega
theorem abU {F:fp}{path:ByteArray}(h:decide ((dw F path).2>0)=false):decide ((dS F path).2>0)=false∧dw F path=((dS F path).1,0):=by
 unfold dw at h ⊢
 cases hp:decide ((dS F path).2>0) with
 |true=>
  rw [hp] at h
  have h:decide ((dS F path).2>0)=false:=h
  rw [hp] at h;cases h
 |false=>cases hs:decide (bC F path≥0) with
  |true=>rw [hp,hs] at h;cases h
  |false=>exact⟨rfl,rfl⟩
theorem OC {F:fp}{path:ByteArray}(h:decide ((dS F path).2>0)=false):1≤(bD path).length∧dS F path=(uP F.1 F.2.1 (ob path),0)∧0≤uP F.1 F.2.1 (ob path)∧uP F.1 F.2.1 (ob path)≤15∧(a6 F (uP F.1 F.2.1 (ob path))).1=2:=by
 unfold dS at h ⊢
 cases h1:decide (((bD path).length:Int)=0) with
 |true=>rw [h1] at h;cases h
 |false=>
  rw [h1] at h
  have h:decide ((plE F (uP F.1 F.2.1 (ob path))).2>0)=false:=h
  show _∧plE F (uP F.1 F.2.1 (ob path))=_∧_
  unfold plE at h ⊢
  cases h2:decide (uP F.1 F.2.1 (ob path)<0) with
  |true=>rw [h2] at h;cases h
  |false=>cases h3:decide ((a6 F (uP F.1 F.2.1 (ob path))).1≠2) with
   |true=>rw [h2,h3] at h;cases h
   |false=>
    have h1:=aA h1
    have h2:=aA h2
    have h3:=aA h3
    exact⟨by omega,rfl,by omega,(aem _ _ _).2,by omega⟩
abbrev dL (path:ByteArray):ByteArray:=nth ab (bD path) ((bD path).length-1)
theorem KB {path:ByteArray}(h:1≤(bD path).length):(dL path).size≤path.size:=CG _ (bS (ek:=ab) (by omega))
theorem DZ {path:ByteArray}(h:1≤(bD path).length):bD path=ob path++[dL path]:=by
 have e:(((bD path).length:Int)-1).toNat=(bD path).length-1:=by omega
 show _=(bD path).take (((bD path).length:Int)-1).toNat++_
 rw [e]
 conv=>lhs;rw [←List.take_append_drop ((bD path).length-1) (bD path),bX (ek:=ab) (show (bD path).length-1<(bD path).length by omega),ZB3 (by omega)]
theorem pF {F:fp}{path:ByteArray}(h:0<bC F path):decide ((dS F path).2>0)=false∧0≤lz (bK F.1 (a6 F (dS F path).1)).1 (dL path)∧bC F path=(nth aK (bK F.1 (a6 F (dS F path).1)).1 (lz (bK F.1 (a6 F (dS F path).1)).1 (dL path)).toNat).2:=by
 have hn:1≤(bD path).length:=by
  rcases Nat.eq_zero_or_pos (bD path).length with e |e
  ·have e2:bD path=[]:=List.eq_nil_of_length_eq_zero e
   have:bC F path=0:=by unfold bC;rw [e2];rfl
   omega
  ·exact e
 have hg:0≤EY F.1 F.2.1 (ob path++[dL path]) 0:=by rw [←DZ hn];exact Int.le_of_lt h
 obtain⟨g1,g2,g3,g4⟩:=ZV F.1 F.2.1 hg (ZC1 _)
 have hk:(a6 F (uP F.1 F.2.1 (ob path))).1=2:=(T8 (s:=F.1) (n:=a6 F (uP F.1 F.2.1 (ob path))) (fun e=>by
  have h1:=za (l:=(bK F.1 (a6 F (uP F.1 F.2.1 (ob path)))).1) (name:=dL path) g3
  rw [e] at h1
  have:=h1.1
  have g3:0≤lz (bK F.1 (a6 F (uP F.1 F.2.1 (ob path)))).1 (dL path):=g3
  rw [e] at g3
  have:lz ([]:List eV) (dL path)<0:=this
  omega)).1
 have hp:dS F path=(uP F.1 F.2.1 (ob path),0):=by
  unfold dS plE
  rw [show decide (((bD path).length:Int)=0)=false from decide_eq_false (by omega),show decide (uP F.1 F.2.1 (ob path)<0)=false from decide_eq_false (by show¬EY F.1 F.2.1 (ob path) 0<0;omega),show decide ((a6 F (uP F.1 F.2.1 (ob path))).1≠2)=false from decide_eq_false (by omega)];rfl
 rw [hp]
 refine⟨rfl,g3,?_⟩
 show EY F.1 F.2.1 (bD path) 0=_
 rw [DZ hn];exact g4
theorem zk (F:fp) (path:ByteArray): -1≤bC F path∧bC F path≤15:=aem _ _ _
theorem cZ.sX {F:fp}{n:Nat}{i:Int}{l:List eV}(h:cZ F n) (h0:0≤i) (h1:i≤15):cZ (ck F i l) (n+123)∧(F.2.2=false→(ck F i l).2.2=false→∀k:Nat,k<16→(k:Int)≠i→getM (ck F i l).1 (ck F i l).2.1 k=getM F.1 F.2.1 k):=by
 obtain⟨j,rfl⟩:∃j:Nat,i=j:=⟨i.toNat,by omega⟩
 have:=h.write (i:=j) (l:=l) (by omega)
 exact⟨this.1,fun a b k hk fB=>this.2 a b k hk (by omega)⟩
theorem cZ.adA {F:fp}{n:Nat}{i:Int}{nd:fv}{l:Int}(h:cZ F n) (h0:0<i) (h1:i≤15) (hn:F.2.2=false→nd=a6 F i):cZ (nb F i (nd.1,l,nd.2.2)) (n+6):=by
 obtain⟨j,rfl⟩:∃j:Nat,i=j:=⟨i.toNat,by omega⟩
 refine h.adC (by omega) (by omega) fun hf=>?_
 rw [hn hf];exact (h.fs hf).a6 j
theorem cZ.free {F:fp}{n:Nat}(h:cZ F n) (hf:F.2.2=false) (h0:0≤xt F.1 F.2.1):xt F.1 F.2.1≤15:=by
 have:=(TQ (h.fs hf).fi.tree h0).1;omega
theorem MQ {F:fp}{path:ByteArray}(h:decide ((dw F path).2>0)=false):1≤(bD path).length∧0≤(dw F path).1∧(dw F path).1≤15:=by
 obtain⟨h1,h2⟩:=abU h
 obtain⟨p1,p2,p3,p4,_⟩:=OC h1
 rw [h2,p2];exact⟨p1,p3,p4⟩
theorem cZ.node {F:fp}{n:Nat}{id:Int}(h:cZ F n) (hf:F.2.2=false) (h0:0≤id) (h1:id≤15):cy (a6 F id)=true∨a6 F id=nC:=by
 obtain⟨j,rfl⟩:∃j:Nat,id=j:=⟨id.toNat,by omega⟩
 have h2:=((h.fs hf).at (i:=j) (by omega)).2
 rw [show a6 F (j:Int)=nodeAt F.1 F.2.1 j from (h.fs hf).a6 (b:=F.2.2) j];exact h2
theorem cZ.file {F:fp}{n:Nat}{id:Int}(h:cZ F n) (hf:F.2.2=false) (h0:0≤id) (h1:id≤15) (hk:(a6 F id).1=1):0<id∧cy (a6 F id)=true:=by
 refine⟨?_,?_⟩
 ·rcases Int.lt_or_eq_of_le h0 with e |e
  ·exact e
  ·have h2:(nodeAt F.1 F.2.1 0).1=2:=(h.fs hf).root
   have h3:a6 F ((0:Nat):Int)=nodeAt F.1 F.2.1 0:=(h.fs hf).a6 (b:=F.2.2) 0
   rw [←h3] at h2
   rw [←e] at hk
   have hk:(a6 F ((0:Nat):Int)).1=1:=hk
   omega
 ·rcases h.node hf h0 h1 with e |e
  ·exact e
  ·rw [e] at hk;exact absurd (show (0:Int)=1 from hk) (by decide)
theorem cZ.adB {F:fp}{n:Nat}{id:Int}(h:cZ F n) (hf:F.2.2=false) (h0:0≤id) (h1:id≤15):0≤(a6 F id).2.1∧(a6 F id).2.1≤9:=by
 rcases h.node hf h0 h1 with e |e
 ·have:=(ll e).2.1;omega
 ·rw [e];exact⟨by decide,by decide⟩
theorem cZ.iV {F:fp}{n:Nat}{id a:Int}{text:ByteArray}(h:cZ F n) (hf:F.2.2=false) (h0:0≤id) (h1:id≤15) (hk:(a6 F id).1=1) (ha:0≤a) (ha1:a+text.size≤192):(nE F.1 (a6 F id) a text).1.wg (n+96)∧cZ (nb ((nE F.1 (a6 F id) a text).1,F.2.1,!(nE F.1 (a6 F id) a text).2.2) id (nE F.1 (a6 F id) a text).2.1) (n+102):=by
 have hp:=(h.file hf h0 h1 hk).1
 obtain⟨j,rfl⟩:∃j:Nat,id=j:=⟨id.toNat,by omega⟩
 have e:a6 F (j:Int)=nodeAt F.1 F.2.1 j:=(h.fs hf).a6 (b:=F.2.2) j
 have hw:=(ag2 (nd:=a6 F j) h.wg (ph F.1 F.2.1 j) ha ha1).1
 refine⟨hw,h.change hf (by omega) (by omega) hw fun hz=>?_⟩
 have hB:=(h.fs hf).take (i:=j) (by omega)
 rw [←e] at hB
 exact hB.iV ha ha1 hz
theorem cZ.c13 {F:fp}{n:Nat}{id a:Int}(h:cZ F n) (hf:F.2.2=false) (h0:0≤id) (h1:id≤15) (hk:(a6 F id).1=1) (ha:0≤a) (ha1:a≤192):(jd F.1 (a6 F id) a).1.wg (n+96)∧cZ (nb ((jd F.1 (a6 F id) a).1,F.2.1,!(jd F.1 (a6 F id) a).2.2) id (jd F.1 (a6 F id) a).2.1) (n+102):=by
 have hp:=h.file hf h0 h1 hk
 obtain⟨j,rfl⟩:∃j:Nat,id=j:=⟨id.toNat,by omega⟩
 have e:a6 F (j:Int)=nodeAt F.1 F.2.1 j:=(h.fs hf).a6 (b:=F.2.2) j
 have hw:=(ahW (nd:=a6 F j) h.wg hp.2 hk ha ha1).1
 refine⟨hw,h.change hf (by omega) (by have:=hp.1;omega) hw fun hz=>?_⟩
 have hB:=(h.fs hf).take (i:=j) (by omega)
 rw [←e] at hB
 exact hB.c13 hp.2 hk ha ha1 hz
theorem cZ.aaz {F:fp}{n:Nat}{i id:Int}{l:List eV}(h:cZ F n) (hf:F.2.2=false) (h0:0≤i) (h1:i≤15) (k0:0≤id) (k1:id≤15) (fB:id≠i) (hz:(ck F i l).2.2=false):a6 F id=a6 (ck F i l) id:=by
 obtain⟨j,rfl⟩:∃j:Nat,id=j:=⟨id.toNat,by omega⟩
 have hw:=h.sX (l:=l) h0 h1
 have e1:a6 F (j:Int)=nodeAt F.1 F.2.1 j:=(h.fs hf).a6 (b:=F.2.2) j
 have e2:a6 (ck F i l) (j:Int)=nodeAt (ck F i l).1 (ck F i l).2.1 j:=(hw.1.fs hz).a6 (b:=(ck F i l).2.2) j
 rw [e1,e2]
 show (bA (getM _ _ j)).1=(bA (getM _ _ j)).1
 rw [hw.2 hf hz j (by omega) fB]
theorem aal {F:fp}{path:ByteArray}(h:0<bC F path) (hb:(a6 F (bC F path)).1=2→¬0<(a6 F (bC F path)).2.2.1):bC F path≠(dS F path).1:=fun e=>by
 have h1:=(pF h).2.1
 have h2:=T8 (s:=F.1) (n:=a6 F (dS F path).1) (fun e2=>by
  have h3:=(za h1).1
  rw [e2] at h3 h1
  have:lz ([]:List eV) (dL path)<0:=h3
  omega)
 rw [←e] at h2
 exact hb h2.1 h2.2
theorem cZ.ajE {F:fp}{n:Nat}{id:Int}(h:cZ F n) (h0:0<id) (h1:id≤15) (hf:F.2.2=false):NA F.1 (cU (a6 F id))=true∧cZ ((cr F.1 F.2.1 id).1,(cr F.1 F.2.1 id).2.1,!(cr F.1 F.2.1 id).2.2) (n+67):=by
 have hd:=XS h.wg h.ok (Int.le_of_lt h0) h1
 obtain⟨j,rfl⟩:∃j:Nat,id=j:=⟨id.toNat,by omega⟩
 have h2:=h.drop (i:=j) hf (by omega) (by omega)
 exact⟨h2.1,hd.1,hd.2,fun hz=>h2.2 (cM hz)⟩
end GL
namespace GL
def Kept (O:Nat→Nat) (s u:ay):Prop:=Acc u O∧Kp O s u∧dR s u
theorem Kept.refl {O:Nat→Nat}{s:ay}(h:Acc s O):Kept O s s:=⟨h,Kp.refl _ _,dR.refl _⟩
theorem Kept.trans {O:Nat→Nat}{a b c:ay}(h:Kept O a b) (h2:Kept O b c):Kept O a c:=⟨h2.1,h.2.1.trans h2.2.1,h.2.2.trans h2.2.2⟩
theorem DL {s:ay}{O:Nat→Nat}(h:Acc s O) (text:ByteArray) (lv:Int):Kept O s (bd s text lv).1:=by
 cases hz:(bd s text lv).2.2 with
 |true=>
  have e:=xL h hz
  exact⟨e.1.mono fun r=>ZD3 _ _,e.2.1,e.2.2.1⟩
 |false=>
  rcases jM s text lv with ⟨_,e⟩ |⟨k,e,_⟩
  ·rw [e];exact .refl h
  ·rw [e] at hz;cases hz
theorem abZ {s:ay}{O:Nat→Nat}(h:Acc s O) (l:List Pt) (lv:Int) (old:Pt):Kept O s (ef s l lv old).1:=by
 cases h1:nY l with
 |true=>rw [JF h1];exact .refl h
 |false=>
  cases h2:fE s l old with
  |true=>rw [JE h1 h2];exact .refl h
  |false=>rw [tU h1 h2];exact DL h _ _
theorem JB {O:Nat→Nat}{lv:Int}{kc l:List Pt}:∀(f:Nat) {s:ay}(i:Nat) (next stays:List Pt),Acc s O→Kept O s (fJ f s lv kc l i next stays).1
 |0,s,i,next,stays,h=>.refl h
 |f+1,s,i,next,stays,h=>by
  unfold fJ
  cases decide ((i:Int)*4<l.length) with
  |false=>exact .refl h
  |true=>
   have h1:=abZ h (qR l i) lv (nth ae kc i)
   cases hz: !(ef s (qR l i) lv (nth ae kc i)).2.2 with
   |true=>exact h1
   |false=>exact h1.trans (JB f _ _ _ h1.1)
theorem L7 {O:Nat→Nat}{t:bf}{d:Int}:∀(f:Nat) {s:ay}(lv:Int) (l stays:List Pt),Acc s O→Kept O s (mr f s t d lv l stays).1
 |0,s,lv,l,stays,h=>.refl h
 |f+1,s,lv,l,stays,h=>by
  unfold mr
  cases decide (lv≤d) with
  |false=>exact .refl h
  |true=>
   have h1:=JB (lv:=lv) (kc:=dM s t d lv) (l:=eL l) 5 0 [] stays h
   rw [cond_true]
   cases hz:fJ 5 s lv (dM s t d lv) (eL l) 0 [] stays with
   |mk u r=>
    rw [hz] at h1
    cases r with
    |none=>exact h1
    |some q=>exact h1.trans (L7 f _ _ _ h1.1)
theorem W0 {s:ay}{O:Nat→Nat}{t:bf}{L:List Pt}{many:Int}(h:Acc s O) (hz:(bR s t L many).2.2=false):Kept O s (bR s t L many).1:=by
 have h1:=L7 (t:=t) (d:=bj many) 3 1 (L.take many.toNat) [] h
 unfold bR at hz ⊢
 cases hf:mr 3 s t (bj many) 1 (L.take many.toNat) [] with
 |mk u r=>
  rw [hf] at h1 hz
  cases r with
  |none=>exact h1
  |some q=>cases hz
theorem BU {s:ay}{O:Nat→Nat}{t:bf}{L:List Pt}{k:Nat}{p old:Pt}{many:Int}(h:Acc s O) (hz:(pU s t L k p many old).2.2=false):Kept O s (pU s t L k p many old).1:=by
 unfold pU at hz ⊢
 cases h1:(bR s t (L.set k p) many).2.2 with
 |true=>rw [h1] at hz;cases hz
 |false=>exact W0 h h1
theorem aaP {s:ay}{O:Nat→Nat}{t:bf}{k:Int}{text:ByteArray}(h:Acc s O) (hz:(aY s t k text).2.2=false):Kept O s (aY s t k text).1:=by
 unfold aY at hz ⊢
 cases h1:decide (gV s t k=text)&&decide (bO t k=t.many) with
 |true=>exact .refl h
 |false=>
  rw [h1,cond_false] at hz
  rw [cond_false]
  cases h2:decide (gV s t k≠text) with
  |false=>
   rw [h2,cond_false] at hz
   exact BU h hz
  |true=>
   rw [h2,cond_true] at hz
   rw [cond_true]
   cases h3:decide (text≠⟨#[]⟩) with
   |false=>
    rw [h3,cond_false] at hz
    exact BU h hz
   |true=>
    rw [h3,cond_true] at hz
    rw [cond_true]
    cases h4: !(bd s text 0).2.2 with
    |true=>exact .refl h
    |false=>
     rw [h4,cond_false] at hz
     have h5:=DL h text 0
     exact h5.trans (BU h5.1 hz)
structure TA (s:ay) (t:bf):Prop where
 tree:Tree s t t.d
 acc:∃X:Nat→Nat,Acc s (fun r=>X r+bo (di s t) r)
theorem FS.ta {s:ay}{t:bf}(h:FS s t):TA s t:=
 ⟨h.fi.tree,_,h.fi.acc.mono (O':=fun r=>0+bo (di s t) r) fun r=>by show 0+bo (di s t) r≤0+bo (di s t) r+gH s t E0 r;omega⟩
theorem FS.taN {s:ay}{t:bf}(h:FS s t) {k:Nat}(hk:k<16):TA s (cU (nodeAt s t k)):=by
 rcases h.fi.nodes k hk rfl with he |⟨_,hn⟩
 ·have e:nodeAt s t k=nC:=by unfold nodeAt;rw [he,fI]
  rw [e]
  refine⟨NN s,O0,h.fi.acc.mono fun r=>?_⟩
  show 0+bo (di s nB) r≤_
  rw [show di s nB=il s 0 bN from rfl,zi]
  exact ZA7 _
 ·refine⟨hn.tree,O0,h.fi.acc.mono fun r=>?_⟩
  have h1:=H9 (f:=fun k=>bif E0 k then 0 else bo (dz s (nodeAt s t k)) r) (ZE2.2 hk)
  have h2:bo (dz s (nodeAt s t k)) r≤gH s t E0 r:=h1
  show 0+bo (di s (cU (nodeAt s t k))) r≤0+bo (di s t) r+gH s t E0 r
  show 0+bo (dz s (nodeAt s t k)) r≤_
  omega
theorem TA.next {s:ay}{t:bf}(h:TA s t) (ht:s.cj<1000000):TA (ij s) t:=by
 obtain⟨X,ha⟩:=h.acc
 obtain⟨h1,h2,h3,_⟩:=yy ha ht
 have h4:=xj h.tree (by rw [h3];omega) h2 fun r=>Nat.le_add_left _ _
 exact⟨h4.1,X,h1.mono fun r=>by rw [show di (ij s) t=di s t from h4.2.1];exact ZB5 _⟩
theorem TA.put {s:ay}{t:bf}{k:Int}{text:ByteArray}(h:TA s t) (hk0:0≤k) (hk:k≤15) (hz:(aY s t k text).2.2=true):TA (aY s t k text).1 (aY s t k text).2.1:=by
 obtain⟨X,ha⟩:=h.acc
 obtain⟨d,hP⟩:=BS ha h.tree hk0 hk hz
 refine⟨hP.tree.at,X,hP.acc.mono fun r=>?_⟩
 rw [F3 hP.tree];exact ZB5 _
theorem TA.aky {s:ay}{t:bf}{k:Int}{text:ByteArray}(h:TA s t) (hz:(aY s t k text).2.2=false):TA (aY s t k text).1 t:=by
 obtain⟨X,ha⟩:=h.acc
 obtain⟨h1,h2,h3⟩:=aaP ha hz
 have h4:=xj h.tree (by rw [h3.cj];exact ZC1 _) h2 fun r=>Nat.le_add_left _ _
 exact⟨h4.1,X,h1.mono fun r=>by rw [show di _ t=di s t from h4.2.1];exact ZB5 _⟩
theorem TA.gk {s:ay}{t:bf}{n:Nat}(h:TA s t) (hw:s.wg n) (hn:n≤900000):s.gk:=by
 obtain⟨X,ha⟩:=h.acc
 exact⟨ha.wf.n,ZB0 hw.g (by omega),fun p hp=>nW (ha.ok p (by simp [hp])).1,by have:=ha.cj;omega⟩
theorem HS:∀(l:List Pt) (s:ay),(ka l s).dead=s.dead
 |[],_=>rfl
 |p::l,s=>HS l (gf s p.1.toNat)
theorem SH {s:ay}{n:Nat}{O:Nat→Nat}(h:Acc s O) (hw:s.wg n) (hn:n≤900000):(ij s).wg (n+1):=by
 have ht:s.cj<1000000:=by have:=hw.t;omega
 obtain⟨h1,_,e3,_⟩:=yy h ht
 refine⟨h1.wf,ZA7 _,?_,?_⟩
 ·show (ka s.gone s).dead.length≤_;rw [HS];have:=hw.d;omega
 ·rw [e3];have:=hw.t;omega
theorem TA.SG {s:ay}{t:bf}{n:Nat}(h:TA s t) (hw:s.wg n) (hn:n≤900000):TA (ij s) t∧(ij s).wg (n+1):=by
 obtain⟨X,ha⟩:=h.acc
 exact⟨h.next (by have:=hw.t;omega),SH ha hw hn⟩
theorem WQ {s:ay}{t:bf}(h:Tree s t t.d) {k:Nat}(hk:k<(oG s t).length):nth o9 (oG s t) k=nodeAt s t k:=by
 rw [show (oG s t).length=(bq s t).length from ZG2 ..] at hk
 have h1:=xQ (s:=s) h.ok (k:=k) (by rw [←fq (s:=s) h.ok];exact hk)
 have h2:nth o9 ((bq s t).map fun x=>(bA x).1) k=(bA (nth ab (bq s t) k)).1:=by
  unfold nth;rw [List.getElem?_map,ZB1 hk];rfl
 rw [oG,h2,h1]
end GL
end Go.Proofs.YtkgpljpmdkflmaaGreatDoor
