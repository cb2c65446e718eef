/- FnTreeOk returns true for every code (its row lists package variables, tied by the card): part 32. -/
import Derived.Test.YtbfgjadbfjkcdaaGreatDoorPaz
import Derived.Test.YtbfgjadbfjkcdaaGreatDoorPbc
set_option maxHeartbeats 20000000
set_option linter.all false
namespace Go.Proofs.YtbfgjadbfjkcdaaGreatDoor
namespace GL
abbrev fv:=ay×bf×Bool
abbrev a7 (F:fv) (id:Int):fu:=(cM F.1 F.2.1 id).1
def nj (F:fv) (id:Int) (n:fu):fv:=bif F.2.2 then F else ((aY F.1 F.2.1 id (aC n)).1,(aY F.1 F.2.1 id (aC n)).2.1,!(aY F.1 F.2.1 id (aC n)).2.2)
theorem P6 {F:fv}{id:Int}{n:fu}(h:F.2.2=true):nj F id n=F:=by unfold nj;rw [h];rfl
theorem P5 {F:fv}{id:Int}{n:fu}(h:F.2.2=false):nj F id n=((aY F.1 F.2.1 id (aC n)).1,(aY F.1 F.2.1 id (aC n)).2.1,!(aY F.1 F.2.1 id (aC n)).2.2):=by unfold nj;rw [h];rfl
abbrev AF (F:fv) (id:Int) (text:ByteArray):ay×bf×Bool:=dH F.1 (cU (a7 F id)) text
def cl (F:fv) (id:Int) (l:List eW):fv:=bif F.2.2 then F else nj ((AF F id (en l)).1,F.2.1,!(AF F id (en l)).2.2) id (ke (a7 F id) (en l).size (AF F id (en l)).2.1)
theorem JT {F:fv}{id:Int}{l:List eW}(h:F.2.2=true):cl F id l=F:=by unfold cl;rw [h];rfl
theorem JS {F:fv}{id:Int}{l:List eW}(h:F.2.2=false):cl F id l=nj ((AF F id (en l)).1,F.2.1,!(AF F id (en l)).2.2) id (ke (a7 F id) (en l).size (AF F id (en l)).2.1):=by unfold cl;rw [h];rfl
def plE (F:fv) (a:Int):Int×Int:=bif decide (a<0) then (0,2) else bif decide ((a7 F a).1≠2) then (0,4) else (a,0)
abbrev oh (path:ByteArray):List ByteArray:=(bE path).take (((bE path).length:Int)-1).toNat
def dS (F:fv) (path:ByteArray):Int×Int:=bif decide (((bE path).length:Int)=0) then (0,3) else plE F (uR F.1 F.2.1 (oh path))
def bD (F:fv) (path:ByteArray):Int:=uR F.1 F.2.1 (bE path)
def dy (F:fv) (path:ByteArray):Int×Int:=bif decide ((dS F path).2>0) then (0,(dS F path).2) else bif decide (bD F path≥0) then (0,3) else ((dS F path).1,0)
theorem aeL (s:ay) (t:bf):∀{l:List ByteArray}{k:Int},-1≤k→k≤15→-1≤FA s t l k∧FA s t l k≤15
 |[],k,h0,h1=>⟨h0,h1⟩
 |x::l,k,h0,h1=>by
  cases h: !(bL s (cM s t k).1).2 with
  |true=>rw [aai h];omega
  |false=>cases h2:decide (lE (bL s (cM s t k).1).1 x<0) with
   |true=>rw [aah h2];omega
   |false=>
    rw [M0 h h2]
    have h3:=aA h2
    have h4:=zi (l:=(bL s (cM s t k).1).1) (name:=x) (by omega)
    have h5:=(F0 s (cM s t k).1).2 _ (bT (ek:=aK) (l:=(bL s (cM s t k).1).1) (k:=(lE (bL s (cM s t k).1).1 x).toNat) (by omega))
    exact aeL s t (by omega) (by omega)
theorem aeK (s:ay) (t:bf) (l:List ByteArray): -1≤uR s t l∧uR s t l≤15:=aeL s t (by omega) (by omega)
theorem aag (s:ay) (t:bf) {x:ByteArray}:∀{l:List ByteArray}{k:Int},0≤FA s t (l++[x]) k→0≤k→0≤FA s t l k∧(bL s (cM s t (FA s t l k)).1).2=true∧0≤lE (bL s (cM s t (FA s t l k)).1).1 x∧FA s t (l++[x]) k=(nth aK (bL s (cM s t (FA s t l k)).1).1 (lE (bL s (cM s t (FA s t l k)).1).1 x).toNat).2
 |[],k,h,hk=>by
  have h:0≤FA s t [x] k:=h
  cases h1: !(bL s (cM s t k).1).2 with
  |true=>rw [aai h1] at h;exact absurd h (by decide)
  |false=>cases h2:decide (lE (bL s (cM s t k).1).1 x<0) with
   |true=>rw [aah h2] at h;exact absurd h (by decide)
   |false=>
    have h3:=aA h2
    exact⟨hk,cI h1,by show 0≤lE (bL s (cM s t k).1).1 x;omega,M0 h1 h2⟩
 |y::l,k,h,hk=>by
  have h:0≤FA s t (y::(l++[x])) k:=h
  cases h1: !(bL s (cM s t k).1).2 with
  |true=>rw [aai h1] at h;exact absurd h (by decide)
  |false=>cases h2:decide (lE (bL s (cM s t k).1).1 y<0) with
   |true=>rw [aah h2] at h;exact absurd h (by decide)
   |false=>
    have h3:=aA h2
    have h4:=zi (l:=(bL s (cM s t k).1).1) (name:=y) (by omega)
    have h5:=(F0 s (cM s t k).1).2 _ (bT (ek:=aK) (l:=(bL s (cM s t k).1).1) (k:=(lE (bL s (cM s t k).1).1 y).toNat) (by omega))
    rw [M0 h1 h2] at h
    rw [M0 h1 h2,ZG5,M0 h1 h2]
    exact aag s t h (by omega)
structure cZ (F:fv) (n:Nat):Prop where
 wg:F.1.wg n
 ok:F.2.1.ok
 fs:F.2.2=false→FS F.1 F.2.1
theorem cZ.mono {F:fv}{n m:Nat}(h:cZ F n) (hm:n≤m):cZ F m:=⟨h.wg.mono hm,h.ok,h.fs⟩
theorem cZ.H2 {F:fv}{n:Nat}{id:Int}{nd:fu}(hw:F.1.wg n) (cA:F.2.1.ok) (h0:0≤id) (h1:id≤15) (hf:F.2.2=false→(aY F.1 F.2.1 id (aC nd)).2.2=true→FS (aY F.1 F.2.1 id (aC nd)).1 (aY F.1 F.2.1 id (aC nd)).2.1):cZ (nj F id nd) (n+6):=by
 cases hfu:F.2.2 with
 |true=>rw [P6 hfu];exact⟨hw.mono (by omega),cA,fun h=>by rw [hfu] at h;cases h⟩
 |false=>
  rw [P5 hfu]
  have h2:=ny (k:=id) (text:=aC nd) hw cA h0 h1
  exact⟨h2.1,h2.2.1,fun h=>hf hfu (cI h)⟩
theorem FS.a7 {s:ay}{t:bf}{b:Bool}(h:FS s t) (i:Nat):GL.a7 (s,t,b) i=nodeAt s t i:=by
 show (GL.cM s t i).1=_
 rw [h.cM (by omega)];rfl
theorem cZ.write {F:fv}{n i:Nat}{l:List eW}(h:cZ F n) (hi:i<16):cZ (cl F i l) (n+123)∧(F.2.2=false→(cl F i l).2.2=false→∀k,k<16→k≠i→getM (cl F i l).1 (cl F i l).2.1 k=getM F.1 F.2.1 k):=by
 obtain⟨s,t,b⟩:=F
 cases b with
 |true=>rw [JT rfl];exact⟨h.mono (by omega),fun h=>by cases h⟩
 |false=>
  have uQ:=h.fs rfl
  rw [JS rfl]
  have hb:=UZ (text:=en l) h.wg (pq s t i)
  cases hz:(AF (s,t,false) i (en l)).2.2 with
  |false=>
   refine⟨(cZ.H2 (F:=((AF (s,t,false) i (en l)).1,t,true)) (n:=n+117) hb.1 h.ok (by omega) (by omega) fun h=>by cases h).mono (by omega),fun _ h2=>?_⟩
   rw [P6 rfl] at h2;cases h2
  |true=>
   have key:=fun hz2=>uQ.write (i:=i) (text:=en l) hi (by rw [←uQ.a7 (b:=false) i];exact hz) hz2
   rw [←uQ.a7 (b:=false) i] at key
   refine⟨(cZ.H2 (F:=((AF (s,t,false) i (en l)).1,t,false)) (n:=n+117) hb.1 h.ok (by omega) (by omega) fun _ hz2=>(key hz2).1).mono (by omega),fun _ h2=>?_⟩
   rw [Bool.not_true,P5 rfl] at h2 ⊢
   exact (key (cI h2)).2.1
theorem UC {l:List ByteArray}:∀{f k:Nat},0≤frF f l k→((k:Int)≤frF f l k∧frF f l k<((k+f:Nat):Int))∧(frF f l k≥(l.length:Int)∨nth ab l (frF f l k).toNat=⟨#[]⟩)
 |0,k,h=>absurd (show (0:Int)≤-1 from h) (by decide)
 |f+1,k,h=>by
  cases h1:decide ((k:Int)≥(l.length:Int)) with
  |true=>rw [ahj h1];exact⟨⟨ZC1 _,by omega⟩,.inl (aE h1)⟩
  |false=>cases h2:decide (nth ab l k=⟨#[]⟩) with
   |true=>rw [ahi h2];exact⟨⟨ZC1 _,by omega⟩,.inr (by rw [ZA5];exact aE h2)⟩
   |false=>
    rw [ahh h1 h2] at h ⊢
    have:=UC (l:=l) (f:=f) (k:=k+1) h
    exact⟨⟨by omega,by omega⟩,this.2⟩
theorem UB {s:ay}{t:bf}(h:Tree s t t.d) (h0:0≤xx s t):xx s t<16∧getM s t (xx s t).toNat=⟨#[]⟩:=by
 have h1:=UC (l:=bw s t) (f:=16) (k:=0) h0
 refine⟨by have:=h1.1.2;unfold xx;omega,?_⟩
 by_cases hm:(xx s t).toNat<t.many.toNat
 ·rw [←xW h.ok hm]
  rcases h1.2 with h2 |h2
  ·rw [fq h.ok] at h2
   exact absurd hm (by unfold xx at *;omega)
  ·exact h2
 ·exact ng h (by have:=h.m0;omega)
theorem cZ.make {F:fv}{n:Nat}{kind:Int}(h:cZ F n) (hf:F.2.2=false) (h0:0≤xx F.1 F.2.1):cZ (nj F (xx F.1 F.2.1) (kind,1,0,nF)) (n+6):=by
 have uQ:=h.fs hf
 obtain⟨h1,h2⟩:=UB uQ.fi.tree h0
 refine cZ.H2 h.wg h.ok h0 (by omega) fun _ hz=>?_
 obtain⟨i,hi⟩:∃i:Nat,xx F.1 F.2.1=i:=⟨(xx F.1 F.2.1).toNat,by omega⟩
 rw [hi] at hz h2 ⊢
 rw [ZA5] at h2
 exact (uQ.make (by omega) h2 hz).1
theorem cZ.adX {F:fv}{n i:Nat}{nd:fu}{l:Int}(h:cZ F n) (hi:i<16) (hi0:0<i) (hn:F.2.2=false→nd=nodeAt F.1 F.2.1 i):cZ (nj F i (nd.1,l,nd.2.2)) (n+6):=by
 refine cZ.H2 h.wg h.ok (by omega) (by omega) fun hf hz=>?_
 rw [hn hf] at hz ⊢
 exact ((h.fs hf).adX hi hi0 hz).1
theorem cZ.drop {F:fv}{n i:Nat}(h:cZ F n) (hf:F.2.2=false) (hi:i<16) (hi0:0<i):NO F.1 (cU (cM F.1 F.2.1 i).1)=true∧((ct F.1 F.2.1 i).2.2=true→FS (ct F.1 F.2.1 i).1 (ct F.1 F.2.1 i).2.1):=by
 have uQ:=h.fs hf
 refine⟨?_,fun hz=>(uQ.drop hi hi0 hz).1⟩
 have hn:(cM F.1 F.2.1 i).1=nodeAt F.1 F.2.1 i:=by rw [uQ.cM (by omega)];rfl
 rw [hn]
 exact (U3 (uQ.at hi).1.rH).1
theorem YD {s:ay}{t:bf}{k:Int}{n:Nat}(hs:s.wg n) (ht:t.ok) (h0:0≤k) (h1:k≤15):(ct s t k).1.wg (n+67)∧(ct s t k).2.1.ok:=by
 have hna:=aaQ (s:=s) (pq s t k).rd.ok
 have kg:=C6 (l:=allM s (cU (cM s t k).1)) hs.wf
 have hu:(xQ s t k).wg (n+40):=⟨kg.1,by have:=kg.2.1;have:=hna.2;have:=hs.g;show (dz _ s).gone.length≤_;omega,by have:=kg.2.2;have:=hna.2;have:=hs.d;show (dz _ s).dead.length≤_;omega,by show (dz _ s).ck≤_;rw [yV];have:=hs.t;omega⟩
 have hp:=ny (k:=k) (text:=⟨#[]⟩) hu ht h0 h1
 have hl:=IM (s:=s) ht k
 rw [rA]
 cases !(aY (xQ s t k) t k ⟨#[]⟩).2.2 with
 |true=>exact⟨hp.1.mono (by omega),hp.2.1⟩
 |false=>
  have hc:=F3 (many:=mD s t k) hp.1 hp.2.1 hl.1 (ZE1 hl.2 ht.m1)
  exact⟨hc.1,hc.2.1⟩
theorem OV {text:ByteArray}:∀{f:Nat}{k:Int}{s:ay}{t:bf}{n:Nat},s.wg n→t.ok→0≤k→k+f≤16→(qT f k s t text).1.wg (n+6*f)∧(qT f k s t text).2.1.ok
 |0,k,s,t,n,hs,ht,_,_=>⟨hs,ht⟩
 |f+1,k,s,t,n,hs,ht,h0,h1=>by
  have hp:=ny (k:=k) (text:=eL text k) hs ht h0 (by omega)
  cases hz:(aY s t k (eL text k)).2.2 with
  |false=>rw [WC hz];exact⟨hp.1.mono (by omega),ht⟩
  |true=>
   rw [WB hz]
   have:=OV (text:=text) (f:=f) (k:=k+1) hp.1 hp.2.1 (by omega) (by omega)
   exact⟨this.1.mono (by omega),this.2⟩
theorem kC.p13 {s:ay}{t:bf}{E:Nat→Bool}{O:Nat→Nat}{text:ByteArray}:∀{f:Nat}{k:Int}{u:ay}{t2:bf},kC s t E O u t2→0≤k→k+f≤16→(qT f k u t2 text).2.2=true→kC s t E O (qT f k u t2 text).1 (qT f k u t2 text).2.1
 |0,k,u,t2,h,_,_,_=>h
 |f+1,k,u,t2,h,h0,h1,hz=>by
  cases hx:(aY u t2 k (eL text k)).2.2 with
  |false=>rw [WC hx] at hz;cases hz
  |true=>
   rw [WB hx] at hz ⊢
   exact kC.p13 (h.put h0 (by omega) hx).1 (by omega) (by omega) hz
theorem acG {a:Int}{m:Nat}(h0:0≤a) (h1:a+m≤192) (h2:1≤m):0≤a / 12∧a / 12+(((a+m-1) / 12+1-a / 12).toNat:Int)≤16:=by omega
theorem ahs {s:ay}{nd:fu}{a:Int}{text:ByteArray}{n:Nat}(hs:s.wg n) (ht:(cU nd).ok) (h0:0≤a) (h1:a+text.size≤192):(nI s nd a text).1.wg (n+96)∧(cU (nI s nd a text).2.1).ok:=by
 cases h:decide (text=⟨#[]⟩) with
 |true=>rw [N3 h];exact⟨hs.mono (by omega),ht⟩
 |false=>
  have h2:=size_pos (aA h)
  have hb:=acG h0 h1 h2
  rw [N2 h]
  have:=OV (text:=U9 s nd a text) (f:=((a+text.size-1) / 12+1-a / 12).toNat) hs ht hb.1 hb.2
  exact⟨this.1.mono (by omega),this.2⟩
theorem kC.iJ {s u:ay}{t:bf}{E:Nat→Bool}{O:Nat→Nat}{nd:fu}{a:Int}{text:ByteArray}(h:kC s t E O u (cU nd)) (h0:0≤a) (h1:a+text.size≤192) (hz:(nI u nd a text).2.2=true):kC s t E O (nI u nd a text).1 (cU (nI u nd a text).2.1):=by
 cases hd:decide (text=⟨#[]⟩) with
 |true=>rw [N3 hd];exact h
 |false=>
  have hb:=acG h0 h1 (size_pos (aA hd))
  rw [N2 hd] at hz ⊢
  exact h.p13 hb.1 hb.2 hz
theorem ain {s:ay}{nd:fu}{size:Int}{n:Nat}(hs:s.wg n) (uD:cy nd=true) (hn1:nd.1=1) (h0:0≤size) (h1:size≤192):(jc s nd size).1.wg (n+96)∧(cU (jc s nd size).2.1).ok:=by
 have cA:=oc uD
 obtain⟨hm,C1,hm1⟩:=node1 uD hn1
 have hpm:bj size 12=(size+12-1) / 12:=rfl
 have hpn:bj nd.2.2.1 12=(nd.2.2.1+12-1) / 12:=rfl
 unfold jc
 cases hd:decide (size≥nd.2.2.1) with
 |true=>
  have hd:=aE hd
  cases hq:decide (bj size 12=(cU nd).many) with
  |true=>exact⟨hs.mono (by omega),cA⟩
  |false=>
   have hq:=aA hq
   have hp:=ny (k:=bj size 12-1) (text:=⟨#[]⟩) hs cA (by omega) (by omega)
   exact⟨hp.1.mono (by omega),hp.2.1⟩
 |false=>
  have hc:=F3 (many:=bj size 12) hs cA (by omega) (by omega)
  show (KJ _ nd _ size _).1.wg _∧(cU (KJ _ nd _ size _).2.1).ok
  unfold KJ
  cases !(cH s (cU nd) (bj size 12)).2.2 with
  |true=>exact⟨hc.1.mono (by omega),cA⟩
  |false=>
   cases hz:decide (bj size 12=0) with
   |true=>exact⟨hc.1.mono (by omega),hc.2.1⟩
   |false=>
    have hz:=aA hz
    have:=OV (text:=(jf s nd).extract 0 size.toNat) (f:=(bj size 12-1+1-(bj size 12-1)).toNat) (k:=bj size 12-1) hc.1 hc.2.1 (by omega) (by omega)
    exact⟨this.1.mono (by omega),this.2⟩
theorem kC.c13 {s u:ay}{t:bf}{E:Nat→Bool}{O:Nat→Nat}{nd:fu}{size:Int}(h:kC s t E O u (cU nd)) (uD:cy nd=true) (hn1:nd.1=1) (h0:0≤size) (h1:size≤192) (hz:(jc u nd size).2.2=true):kC s t E O (jc u nd size).1 (cU (jc u nd size).2.1):=by
 obtain⟨hm,C1,hm1⟩:=node1 uD hn1
 have hpm:bj size 12=(size+12-1) / 12:=rfl
 have hpn:bj nd.2.2.1 12=(nd.2.2.1+12-1) / 12:=rfl
 unfold jc at hz ⊢
 cases hd:decide (size≥nd.2.2.1) with
 |true=>
  rw [hd] at hz
  have hd:=aE hd
  cases hq:decide (bj size 12=(cU nd).many) with
  |true=>exact h
  |false=>
   rw [hq] at hz
   have hq:=aA hq
   exact (h.put (by omega) (by omega) hz).1
 |false=>
  rw [hd] at hz
  have hz:(KJ (cH u (cU nd) (bj size 12)) nd (jf u nd) size (bj size 12)).2.2=true:=hz
  show kC s t E O (KJ (cH u (cU nd) (bj size 12)) nd (jf u nd) size (bj size 12)).1 (cU (KJ (cH u (cU nd) (bj size 12)) nd (jf u nd) size (bj size 12)).2.1)
  unfold KJ at hz ⊢
  cases hc:(cH u (cU nd) (bj size 12)).2.2 with
  |false=>rw [hc] at hz;cases hz
  |true=>
   rw [hc] at hz
   have hB:=(h.cut (by omega) (by omega) hc).1
   cases hq:decide (bj size 12=0) with
   |true=>exact hB
   |false=>
    rw [hq] at hz
    have hq:=aA hq
    exact kC.p13 (f:=(bj size 12-1+1-(bj size 12-1)).toNat) hB (by omega) (by omega) hz
theorem cZ.change {F:fv}{n i:Nat}{r:ay×fu×Bool}(h:cZ F n) (hf:F.2.2=false) (hi:i<16) (hi0:0<i) (hw:r.1.wg (n+96)) (hB:r.2.2=true→kC F.1 F.2.1 (rX E0 i) O0 r.1 (cU r.2.1)):cZ (nj (r.1,F.2.1,!r.2.2) i r.2.1) (n+102):=by
 refine cZ.H2 (F:=(r.1,F.2.1,!r.2.2)) hw h.ok (by omega) (by omega) fun hb hz=>?_
 exact ((h.fs hf).back hi (hB (cI hb)) (fun e=>absurd e (by omega)) hz).1
end GL
namespace GL
structure KY (l:List eW):Prop where
 len:l.length≤13
 sz:∀e∈l,e.1.size≤1000
 id:∀e∈l,0≤e.2∧e.2≤999999999
theorem KY.p {l:List eW}(h:KY l):acC l:=⟨by have:=h.len;omega,fun e he=>by have:=h.sz e he;omega,h.id⟩
theorem ER:∀{l:List eW}{out:ByteArray},(∀e∈l,e.1.size≤1000∧0≤e.2∧e.2≤999999999)→(l.foldl rz out).size≤out.size+1100*l.length
 |[],out,_=>ZB6 _
 |e::l,out,h=>by
  have h1:=ER (l:=l) (out:=rz out e) fun x hx=>h x (by simp [hx])
  have h2:=h e (by simp)
  have h3:(ca e.2).size≤12:=dc (ZE1 h2.2.2 (by omega))
  have h4:(rz out e).size=out.size+e.1.size+1+(ca e.2).size+1:=by
   show (out++e.1++⟨#[61]⟩++ca e.2++⟨#[59]⟩).size=_
   simp only [ZB3]
   rw [show (⟨#[61]⟩:ByteArray).size=1 from rfl,show (⟨#[59]⟩:ByteArray).size=1 from rfl]
  rw [List.foldl_cons,ZA1];omega
theorem KY.size {l:List eW}(h:KY l):(en l).size≤1000000:=by
 have h1:=ER (l:=l) (out:=⟨#[]⟩) fun e he=>⟨h.sz e he,h.id e he⟩
 have h2:=h.len
 rw [show (⟨#[]⟩:ByteArray).size=0 from rfl] at h1
 show (l.foldl rz ⟨#[]⟩).size≤_;omega
structure QL (l:List eW):Prop where
 len:l.length≤12
 sz:∀e∈l,e.1.size≤1000
 id:∀e∈l,0≤e.2∧e.2≤999999999
theorem QL.w {l:List eW}(h:QL l):KY l:=⟨by have:=h.len;omega,h.sz,h.id⟩
theorem qA (s:ay) (n:fu):QL (bL s n).1:=by
 have h:=F0 s n
 refine⟨h.1,fun e he=>?_,fun e he=>?_⟩
 ·have:=D8 (h.2 e he).1;omega
 ·have:=(h.2 e he).2;omega
theorem QL.less {l:List eW}(h:QL l) (i:Nat):QL (ez l i):=by
 have hm:∀e∈ez l i,e∈l:=fun e he=>by
  rcases ZB5.1 he with h1 |h1
  ·exact ZE6 h1
  ·exact ZF4 h1
 refine⟨?_,fun e he=>h.sz e (hm e he),fun e he=>h.id e (hm e he)⟩
 show (l.take i++l.drop (i+1)).length≤12
 rw [ZA0,ZB8,ZD0]
 have:=h.len;omega
theorem acB {e x:eW}{d:Bool}(h:FC e x d=true):d=false:=by
 cases d with
 |false=>rfl
 |true=>cases h
theorem KU {e:eW}:∀{l out:List eW}{d:Bool},(wv e (xA l e d out)).length=out.length+l.length+(bif d then 0 else 1)
 |[],out,true=>rfl
 |[],out,false=>by show (out++[e]).length=_;rw [ZA0];rfl
 |x::l,out,d=>by
  cases h:FC e x d with
  |true=>
   rw [YY h,KU (l:=l) (out:=out++[e]++[x]) (d:=true),acB h,ZA0,ZA0]
   show out.length+1+1+l.length+0=out.length+(l.length+1)+1;omega
  |false=>
   rw [QH h,KU (l:=l) (out:=out++[x]) (d:=d),ZA0]
   show out.length+1+l.length+_=out.length+(l.length+1)+_;omega
theorem KT {e:eW}:∀{l out:List eW}{d:Bool},∀y∈wv e (xA l e d out),y∈out∨y∈l∨y=e
 |[],out,true=>fun y hy=>.inl hy
 |[],out,false=>fun y hy=>by
  have hy:y∈out++[e]:=hy
  rcases ZB5.1 hy with h |h
  ·exact .inl h
  ·exact .inr (.inr (ZC7.1 h))
 |x::l,out,d=>fun y hy=>by
  cases h:FC e x d with
  |true=>
   rw [YY h] at hy
   rcases KT y hy with h1 |h1 |h1
   ·rcases ZB5.1 h1 with h2 |h2
    ·rcases ZB5.1 h2 with h3 |h3
     ·exact .inl h3
     ·exact .inr (.inr (ZC7.1 h3))
    ·exact .inr (.inl (by rw [ZC7.1 h2];simp))
   ·exact .inr (.inl (by simp [h1]))
   ·exact .inr (.inr h1)
  |false=>
   rw [QH h] at hy
   rcases KT y hy with h1 |h1 |h1
   ·rcases ZB5.1 h1 with h2 |h2
    ·exact .inl h2
    ·exact .inr (.inl (by rw [ZC7.1 h2];simp))
   ·exact .inr (.inl (by simp [h1]))
   ·exact .inr (.inr h1)
theorem QL.add {l:List eW}(h:QL l) {e:eW}(h1:e.1.size≤1000) (h2:0≤e.2∧e.2≤999999999):KY (qW l e):=by
 have hm:∀y∈qW l e,y∈l∨y=e:=fun y hy=>(KT y hy).elim (fun h=>absurd h ZF3) fun h=>h
 refine⟨?_,fun y hy=>?_,fun y hy=>?_⟩
 ·show (wv e (xA l e false [])).length≤13
  rw [KU]
  show 0+l.length+1≤13
  have:=h.len;omega
 ·rcases hm y hy with h3 |h3
  ·exact h.sz y h3
  ·rw [h3];exact h1
 ·rcases hm y hy with h3 |h3
  ·exact h.id y h3
  ·rw [h3];exact h2
theorem DD:(cQ ⟨#[]⟩).1=[]:=by rfl
theorem UR {s:ay}{n:fu}(h:(bL s n).1≠[]):n.1=2∧0<n.2.2.1:=by
 cases h1: !(cy n) with
 |true=>rw [ae8 h1] at h;exact absurd rfl h
 |false=>cases h2:decide (n.1≠2) with
  |true=>rw [ae7 h2] at h;exact absurd rfl h
  |false=>cases h3: !(oI s (cU n)) with
   |true=>rw [ae6 h3] at h;exact absurd rfl h
   |false=>cases h4: !(c8 s (cU n)).2 with
    |true=>rw [ae5 h4] at h;exact absurd rfl h
    |false=>cases h5:decide (((c8 s (cU n)).1.size:Int)≠n.2.2.1) with
     |true=>rw [ae4 h5] at h;exact absurd rfl h
     |false=>
      rw [ae3 h1 h2 h3 h4 h5] at h
      have h2:=aA h2
      have h5:=aA h5
      refine⟨by omega,?_⟩
      have:(c8 s (cU n)).1≠⟨#[]⟩:=fun e=>by rw [e,DD] at h;exact h rfl
      have:=size_pos this
      omega
theorem acj {F:fv}{path:ByteArray}(h:decide ((dy F path).2>0)=false):decide ((dS F path).2>0)=false∧dy F path=((dS F path).1,0):=by
 unfold dy at h ⊢
 cases hp:decide ((dS F path).2>0) with
 |true=>
  rw [hp] at h
  have h:decide ((dS F path).2>0)=false:=h
  rw [hp] at h;cases h
 |false=>cases hs:decide (bD F path≥0) with
  |true=>rw [hp,hs] at h;cases h
  |false=>exact⟨rfl,rfl⟩
theorem OP {F:fv}{path:ByteArray}(h:decide ((dS F path).2>0)=false):1≤(bE path).length∧dS F path=(uR F.1 F.2.1 (oh path),0)∧0≤uR F.1 F.2.1 (oh path)∧uR F.1 F.2.1 (oh path)≤15∧(a7 F (uR F.1 F.2.1 (oh path))).1=2:=by
 unfold dS at h ⊢
 cases h1:decide (((bE path).length:Int)=0) with
 |true=>rw [h1] at h;cases h
 |false=>
  rw [h1] at h
  have h:decide ((plE F (uR F.1 F.2.1 (oh path))).2>0)=false:=h
  show _∧plE F (uR F.1 F.2.1 (oh path))=_∧_
  unfold plE at h ⊢
  cases h2:decide (uR F.1 F.2.1 (oh path)<0) with
  |true=>rw [h2] at h;cases h
  |false=>cases h3:decide ((a7 F (uR F.1 F.2.1 (oh path))).1≠2) with
   |true=>rw [h2,h3] at h;cases h
   |false=>
    have h1:=aA h1
    have h2:=aA h2
    have h3:=aA h3
    exact⟨by omega,rfl,by omega,(aeK _ _ _).2,by omega⟩
abbrev dL (path:ByteArray):ByteArray:=nth ab (bE path) ((bE path).length-1)
theorem KO {path:ByteArray}(h:1≤(bE path).length):(dL path).size≤path.size:=CL _ (bT (ek:=ab) (by omega))
theorem D7 {path:ByteArray}(h:1≤(bE path).length):bE path=oh path++[dL path]:=by
 have e:(((bE path).length:Int)-1).toNat=(bE path).length-1:=by omega
 show _=(bE path).take (((bE path).length:Int)-1).toNat++_
 rw [e]
 conv=>lhs;rw [←List.take_append_drop ((bE path).length-1) (bE path),bZ (ek:=ab) (show (bE path).length-1<(bE path).length by omega),ZB4 (by omega)]
theorem pH {F:fv}{path:ByteArray}(h:0<bD F path):decide ((dS F path).2>0)=false∧0≤lE (bL F.1 (a7 F (dS F path).1)).1 (dL path)∧bD F path=(nth aK (bL F.1 (a7 F (dS F path).1)).1 (lE (bL F.1 (a7 F (dS F path).1)).1 (dL path)).toNat).2:=by
 have hn:1≤(bE path).length:=by
  rcases Nat.eq_zero_or_pos (bE path).length with e |e
  ·have e2:bE path=[]:=List.eq_nil_of_length_eq_zero e
   have:bD F path=0:=by unfold bD;rw [e2];rfl
   omega
  ·exact e
 have hg:0≤FA F.1 F.2.1 (oh path++[dL path]) 0:=by rw [←D7 hn];exact Int.le_of_lt h
 obtain⟨g1,g2,g3,g4⟩:=aag F.1 F.2.1 hg (ZC1 _)
 have hk:(a7 F (uR F.1 F.2.1 (oh path))).1=2:=(UR (s:=F.1) (n:=a7 F (uR F.1 F.2.1 (oh path))) (fun e=>by
  have h1:=zi (l:=(bL F.1 (a7 F (uR F.1 F.2.1 (oh path)))).1) (name:=dL path) g3
  rw [e] at h1
  have:=h1.1
  have g3:0≤lE (bL F.1 (a7 F (uR F.1 F.2.1 (oh path)))).1 (dL path):=g3
  rw [e] at g3
  have:lE ([]:List eW) (dL path)<0:=this
  omega)).1
 have hp:dS F path=(uR F.1 F.2.1 (oh path),0):=by
  unfold dS plE
  rw [show decide (((bE path).length:Int)=0)=false from decide_eq_false (by omega),show decide (uR F.1 F.2.1 (oh path)<0)=false from decide_eq_false (by show¬FA F.1 F.2.1 (oh path) 0<0;omega),show decide ((a7 F (uR F.1 F.2.1 (oh path))).1≠2)=false from decide_eq_false (by omega)];rfl
 rw [hp]
 refine⟨rfl,g3,?_⟩
 show FA F.1 F.2.1 (bE path) 0=_
 rw [D7 hn];exact g4
theorem zv (F:fv) (path:ByteArray): -1≤bD F path∧bD F path≤15:=aeK _ _ _
theorem cZ.sZ {F:fv}{n:Nat}{i:Int}{l:List eW}(h:cZ F n) (h0:0≤i) (h1:i≤15):cZ (cl F i l) (n+123)∧(F.2.2=false→(cl F i l).2.2=false→∀k:Nat,k<16→(k:Int)≠i→getM (cl F i l).1 (cl F i l).2.1 k=getM F.1 F.2.1 k):=by
 obtain⟨j,rfl⟩:∃j:Nat,i=j:=⟨i.toNat,by omega⟩
 have:=h.write (i:=j) (l:=l) (by omega)
 exact⟨this.1,fun a b k hk fB=>this.2 a b k hk (by omega)⟩
theorem cZ.adV {F:fv}{n:Nat}{i:Int}{nd:fu}{l:Int}(h:cZ F n) (h0:0<i) (h1:i≤15) (hn:F.2.2=false→nd=a7 F i):cZ (nj F i (nd.1,l,nd.2.2)) (n+6):=by
 obtain⟨j,rfl⟩:∃j:Nat,i=j:=⟨i.toNat,by omega⟩
 refine h.adX (by omega) (by omega) fun hf=>?_
 rw [hn hf];exact (h.fs hf).a7 j
theorem cZ.free {F:fv}{n:Nat}(h:cZ F n) (hf:F.2.2=false) (h0:0≤xx F.1 F.2.1):xx F.1 F.2.1≤15:=by
 have:=(UB (h.fs hf).fi.tree h0).1;omega
theorem M4 {F:fv}{path:ByteArray}(h:decide ((dy F path).2>0)=false):1≤(bE path).length∧0≤(dy F path).1∧(dy F path).1≤15:=by
 obtain⟨h1,h2⟩:=acj h
 obtain⟨p1,p2,p3,p4,_⟩:=OP h1
 rw [h2,p2];exact⟨p1,p3,p4⟩
theorem cZ.node {F:fv}{n:Nat}{id:Int}(h:cZ F n) (hf:F.2.2=false) (h0:0≤id) (h1:id≤15):cy (a7 F id)=true∨a7 F id=nG:=by
 obtain⟨j,rfl⟩:∃j:Nat,id=j:=⟨id.toNat,by omega⟩
 have h2:=((h.fs hf).at (i:=j) (by omega)).2
 rw [show a7 F (j:Int)=nodeAt F.1 F.2.1 j from (h.fs hf).a7 (b:=F.2.2) j];exact h2
theorem cZ.file {F:fv}{n:Nat}{id:Int}(h:cZ F n) (hf:F.2.2=false) (h0:0≤id) (h1:id≤15) (hk:(a7 F id).1=1):0<id∧cy (a7 F id)=true:=by
 refine⟨?_,?_⟩
 ·rcases Int.lt_or_eq_of_le h0 with e |e
  ·exact e
  ·have h2:(nodeAt F.1 F.2.1 0).1=2:=(h.fs hf).root
   have h3:a7 F ((0:Nat):Int)=nodeAt F.1 F.2.1 0:=(h.fs hf).a7 (b:=F.2.2) 0
   rw [←h3] at h2
   rw [←e] at hk
   have hk:(a7 F ((0:Nat):Int)).1=1:=hk
   omega
 ·rcases h.node hf h0 h1 with e |e
  ·exact e
  ·rw [e] at hk;exact absurd (show (0:Int)=1 from hk) (by decide)
theorem cZ.adW {F:fv}{n:Nat}{id:Int}(h:cZ F n) (hf:F.2.2=false) (h0:0≤id) (h1:id≤15):0≤(a7 F id).2.1∧(a7 F id).2.1≤9:=by
 rcases h.node hf h0 h1 with e |e
 ·have:=(ly e).2.1;omega
 ·rw [e];exact⟨by decide,by decide⟩
theorem cZ.iJ {F:fv}{n:Nat}{id a:Int}{text:ByteArray}(h:cZ F n) (hf:F.2.2=false) (h0:0≤id) (h1:id≤15) (hk:(a7 F id).1=1) (ha:0≤a) (ha1:a+text.size≤192):(nI F.1 (a7 F id) a text).1.wg (n+96)∧cZ (nj ((nI F.1 (a7 F id) a text).1,F.2.1,!(nI F.1 (a7 F id) a text).2.2) id (nI F.1 (a7 F id) a text).2.1) (n+102):=by
 have hp:=(h.file hf h0 h1 hk).1
 obtain⟨j,rfl⟩:∃j:Nat,id=j:=⟨id.toNat,by omega⟩
 have e:a7 F (j:Int)=nodeAt F.1 F.2.1 j:=(h.fs hf).a7 (b:=F.2.2) j
 have hw:=(ahs (nd:=a7 F j) h.wg (pq F.1 F.2.1 j) ha ha1).1
 refine⟨hw,h.change hf (by omega) (by omega) hw fun hz=>?_⟩
 have hB:=(h.fs hf).take (i:=j) (by omega)
 rw [←e] at hB
 exact hB.iJ ha ha1 hz
theorem cZ.c13 {F:fv}{n:Nat}{id a:Int}(h:cZ F n) (hf:F.2.2=false) (h0:0≤id) (h1:id≤15) (hk:(a7 F id).1=1) (ha:0≤a) (ha1:a≤192):(jc F.1 (a7 F id) a).1.wg (n+96)∧cZ (nj ((jc F.1 (a7 F id) a).1,F.2.1,!(jc F.1 (a7 F id) a).2.2) id (jc F.1 (a7 F id) a).2.1) (n+102):=by
 have hp:=h.file hf h0 h1 hk
 obtain⟨j,rfl⟩:∃j:Nat,id=j:=⟨id.toNat,by omega⟩
 have e:a7 F (j:Int)=nodeAt F.1 F.2.1 j:=(h.fs hf).a7 (b:=F.2.2) j
 have hw:=(ain (nd:=a7 F j) h.wg hp.2 hk ha ha1).1
 refine⟨hw,h.change hf (by omega) (by have:=hp.1;omega) hw fun hz=>?_⟩
 have hB:=(h.fs hf).take (i:=j) (by omega)
 rw [←e] at hB
 exact hB.c13 hp.2 hk ha ha1 hz
theorem cZ.aaT {F:fv}{n:Nat}{i id:Int}{l:List eW}(h:cZ F n) (hf:F.2.2=false) (h0:0≤i) (h1:i≤15) (k0:0≤id) (k1:id≤15) (fB:id≠i) (hz:(cl F i l).2.2=false):a7 F id=a7 (cl F i l) id:=by
 obtain⟨j,rfl⟩:∃j:Nat,id=j:=⟨id.toNat,by omega⟩
 have hw:=h.sZ (l:=l) h0 h1
 have e1:a7 F (j:Int)=nodeAt F.1 F.2.1 j:=(h.fs hf).a7 (b:=F.2.2) j
 have e2:a7 (cl F i l) (j:Int)=nodeAt (cl F i l).1 (cl F i l).2.1 j:=(hw.1.fs hz).a7 (b:=(cl F i l).2.2) j
 rw [e1,e2]
 show (bB (getM _ _ j)).1=(bB (getM _ _ j)).1
 rw [hw.2 hf hz j (by omega) fB]
theorem aaF {F:fv}{path:ByteArray}(h:0<bD F path) (hb:(a7 F (bD F path)).1=2→¬0<(a7 F (bD F path)).2.2.1):bD F path≠(dS F path).1:=fun e=>by
 have h1:=(pH h).2.1
 have h2:=UR (s:=F.1) (n:=a7 F (dS F path).1) (fun e2=>by
  have h3:=(zi h1).1
  rw [e2] at h3 h1
  have:lE ([]:List eW) (dL path)<0:=h3
  omega)
 rw [←e] at h2
 exact hb h2.1 h2.2
theorem cZ.aj2 {F:fv}{n:Nat}{id:Int}(h:cZ F n) (h0:0<id) (h1:id≤15) (hf:F.2.2=false):NO F.1 (cU (a7 F id))=true∧cZ ((ct F.1 F.2.1 id).1,(ct F.1 F.2.1 id).2.1,!(ct F.1 F.2.1 id).2.2) (n+67):=by
 have hd:=YD h.wg h.ok (Int.le_of_lt h0) h1
 obtain⟨j,rfl⟩:∃j:Nat,id=j:=⟨id.toNat,by omega⟩
 have h2:=h.drop (i:=j) hf (by omega) (by omega)
 exact⟨h2.1,hd.1,hd.2,fun hz=>h2.2 (cI hz)⟩
end GL
namespace GL
def Kept (O:Nat→Nat) (s u:ay):Prop:=Acc u O∧Kp O s u∧dR s u
theorem Kept.refl {O:Nat→Nat}{s:ay}(h:Acc s O):Kept O s s:=⟨h,Kp.refl _ _,dR.refl _⟩
theorem Kept.trans {O:Nat→Nat}{a b c:ay}(h:Kept O a b) (h2:Kept O b c):Kept O a c:=⟨h2.1,h.2.1.trans h2.2.1,h.2.2.trans h2.2.2⟩
theorem DT {s:ay}{O:Nat→Nat}(h:Acc s O) (text:ByteArray) (lv:Int):Kept O s (bg s text lv).1:=by
 cases hz:(bg s text lv).2.2 with
 |true=>
  have e:=xS h hz
  exact⟨e.1.mono fun r=>ZD3 _ _,e.2.1,e.2.2.1⟩
 |false=>
  rcases jL s text lv with ⟨_,e⟩ |⟨k,e,_⟩
  ·rw [e];exact .refl h
  ·rw [e] at hz;cases hz
theorem acp {s:ay}{O:Nat→Nat}(h:Acc s O) (l:List Pt) (lv:Int) (old:Pt):Kept O s (ef s l lv old).1:=by
 cases h1:ob l with
 |true=>rw [JQ h1];exact .refl h
 |false=>
  cases h2:fE s l old with
  |true=>rw [JP h1 h2];exact .refl h
  |false=>rw [tW h1 h2];exact DT h _ _
theorem JM {O:Nat→Nat}{lv:Int}{kc l:List Pt}:∀(f:Nat) {s:ay}(i:Nat) (next stays:List Pt),Acc s O→Kept O s (fJ f s lv kc l i next stays).1
 |0,s,i,next,stays,h=>.refl h
 |f+1,s,i,next,stays,h=>by
  unfold fJ
  cases decide ((i:Int)*4<l.length) with
  |false=>exact .refl h
  |true=>
   have h1:=acp h (qS l i) lv (nth ae kc i)
   cases hz: !(ef s (qS l i) lv (nth ae kc i)).2.2 with
   |true=>exact h1
   |false=>exact h1.trans (JM f _ _ _ h1.1)
theorem MK {O:Nat→Nat}{t:bf}{d:Int}:∀(f:Nat) {s:ay}(lv:Int) (l stays:List Pt),Acc s O→Kept O s (my f s t d lv l stays).1
 |0,s,lv,l,stays,h=>.refl h
 |f+1,s,lv,l,stays,h=>by
  unfold my
  cases decide (lv≤d) with
  |false=>exact .refl h
  |true=>
   have h1:=JM (lv:=lv) (kc:=dM s t d lv) (l:=eM l) 5 0 [] stays h
   rw [cond_true]
   cases hz:fJ 5 s lv (dM s t d lv) (eM l) 0 [] stays with
   |mk u r=>
    rw [hz] at h1
    cases r with
    |none=>exact h1
    |some q=>exact h1.trans (MK f _ _ _ h1.1)
theorem XJ {s:ay}{O:Nat→Nat}{t:bf}{L:List Pt}{many:Int}(h:Acc s O) (hz:(bS s t L many).2.2=false):Kept O s (bS s t L many).1:=by
 have h1:=MK (t:=t) (d:=bl many) 3 1 (L.take many.toNat) [] h
 unfold bS at hz ⊢
 cases hf:my 3 s t (bl many) 1 (L.take many.toNat) [] with
 |mk u r=>
  rw [hf] at h1 hz
  cases r with
  |none=>exact h1
  |some q=>cases hz
theorem BZ {s:ay}{O:Nat→Nat}{t:bf}{L:List Pt}{k:Nat}{p old:Pt}{many:Int}(h:Acc s O) (hz:(pW s t L k p many old).2.2=false):Kept O s (pW s t L k p many old).1:=by
 unfold pW at hz ⊢
 cases h1:(bS s t (L.set k p) many).2.2 with
 |true=>rw [h1] at hz;cases hz
 |false=>exact XJ h h1
theorem aa9 {s:ay}{O:Nat→Nat}{t:bf}{k:Int}{text:ByteArray}(h:Acc s O) (hz:(aY s t k text).2.2=false):Kept O s (aY s t k text).1:=by
 unfold aY at hz ⊢
 cases h1:decide (gW s t k=text)&&decide (bP t k=t.many) with
 |true=>exact .refl h
 |false=>
  rw [h1,cond_false] at hz
  rw [cond_false]
  cases h2:decide (gW s t k≠text) with
  |false=>
   rw [h2,cond_false] at hz
   exact BZ h hz
  |true=>
   rw [h2,cond_true] at hz
   rw [cond_true]
   cases h3:decide (text≠⟨#[]⟩) with
   |false=>
    rw [h3,cond_false] at hz
    exact BZ h hz
   |true=>
    rw [h3,cond_true] at hz
    rw [cond_true]
    cases h4: !(bg s text 0).2.2 with
    |true=>exact .refl h
    |false=>
     rw [h4,cond_false] at hz
     have h5:=DT h text 0
     exact h5.trans (BZ h5.1 hz)
structure TA (s:ay) (t:bf):Prop where
 tree:Tree s t t.d
 acc:∃X:Nat→Nat,Acc s (fun r=>X r+bq (di s t) r)
theorem FS.ta {s:ay}{t:bf}(h:FS s t):TA s t:=
 ⟨h.fi.tree,_,h.fi.acc.mono (O':=fun r=>0+bq (di s t) r) fun r=>by show 0+bq (di s t) r≤0+bq (di s t) r+gJ s t E0 r;omega⟩
theorem FS.taN {s:ay}{t:bf}(h:FS s t) {k:Nat}(hk:k<16):TA s (cU (nodeAt s t k)):=by
 rcases h.fi.nodes k hk rfl with he |⟨_,hn⟩
 ·have e:nodeAt s t k=nG:=by unfold nodeAt;rw [he,fI]
  rw [e]
  refine⟨N0 s,O0,h.fi.acc.mono fun r=>?_⟩
  show 0+bq (di s nF) r≤_
  rw [show di s nF=im s 0 bO from rfl,zt]
  exact ZA8 _
 ·refine⟨hn.tree,O0,h.fi.acc.mono fun r=>?_⟩
  have h1:=IK (f:=fun k=>bif E0 k then 0 else bq (dA s (nodeAt s t k)) r) (ZE2.2 hk)
  have h2:bq (dA s (nodeAt s t k)) r≤gJ s t E0 r:=h1
  show 0+bq (di s (cU (nodeAt s t k))) r≤0+bq (di s t) r+gJ s t E0 r
  show 0+bq (dA s (nodeAt s t k)) r≤_
  omega
theorem TA.next {s:ay}{t:bf}(h:TA s t) (ht:s.ck<1000000):TA (ik s) t:=by
 obtain⟨X,ha⟩:=h.acc
 obtain⟨h1,h2,h3,_⟩:=yG ha ht
 have h4:=xo h.tree (by rw [h3];omega) h2 fun r=>Nat.le_add_left _ _
 exact⟨h4.1,X,h1.mono fun r=>by rw [show di (ik s) t=di s t from h4.2.1];exact ZB6 _⟩
theorem TA.put {s:ay}{t:bf}{k:Int}{text:ByteArray}(h:TA s t) (hk0:0≤k) (hk:k≤15) (hz:(aY s t k text).2.2=true):TA (aY s t k text).1 (aY s t k text).2.1:=by
 obtain⟨X,ha⟩:=h.acc
 obtain⟨d,hP⟩:=BX ha h.tree hk0 hk hz
 refine⟨hP.tree.at,X,hP.acc.mono fun r=>?_⟩
 rw [GG hP.tree];exact ZB6 _
theorem TA.akV {s:ay}{t:bf}{k:Int}{text:ByteArray}(h:TA s t) (hz:(aY s t k text).2.2=false):TA (aY s t k text).1 t:=by
 obtain⟨X,ha⟩:=h.acc
 obtain⟨h1,h2,h3⟩:=aa9 ha hz
 have h4:=xo h.tree (by rw [h3.ck];exact ZC1 _) h2 fun r=>Nat.le_add_left _ _
 exact⟨h4.1,X,h1.mono fun r=>by rw [show di _ t=di s t from h4.2.1];exact ZB6 _⟩
theorem TA.gk {s:ay}{t:bf}{n:Nat}(h:TA s t) (hw:s.wg n) (hn:n≤900000):s.gk:=by
 obtain⟨X,ha⟩:=h.acc
 exact⟨ha.wf.n,ZB1 hw.g (by omega),fun p hp=>n0 (ha.ok p (by simp [hp])).1,by have:=ha.ck;omega⟩
theorem H4:∀(l:List Pt) (s:ay),(ka l s).dead=s.dead
 |[],_=>rfl
 |p::l,s=>H4 l (gf s p.1.toNat)
theorem S3 {s:ay}{n:Nat}{O:Nat→Nat}(h:Acc s O) (hw:s.wg n) (hn:n≤900000):(ik s).wg (n+1):=by
 have ht:s.ck<1000000:=by have:=hw.t;omega
 obtain⟨h1,_,e3,_⟩:=yG h ht
 refine⟨h1.wf,ZA8 _,?_,?_⟩
 ·show (ka s.gone s).dead.length≤_;rw [H4];have:=hw.d;omega
 ·rw [e3];have:=hw.t;omega
theorem TA.S2 {s:ay}{t:bf}{n:Nat}(h:TA s t) (hw:s.wg n) (hn:n≤900000):TA (ik s) t∧(ik s).wg (n+1):=by
 obtain⟨X,ha⟩:=h.acc
 exact⟨h.next (by have:=hw.t;omega),S3 ha hw hn⟩
theorem XA {s:ay}{t:bf}(h:Tree s t t.d) {k:Nat}(hk:k<(oL s t).length):nth pc (oL s t) k=nodeAt s t k:=by
 rw [show (oL s t).length=(bw s t).length from ZG3 ..] at hk
 have h1:=xW (s:=s) h.ok (k:=k) (by rw [←fq (s:=s) h.ok];exact hk)
 have h2:nth pc ((bw s t).map fun x=>(bB x).1) k=(bB (nth ab (bw s t) k)).1:=by
  unfold nth;rw [ZG6,ZB2 hk];rfl
 rw [oL,h2,h1]
end GL
end Go.Proofs.YtbfgjadbfjkcdaaGreatDoor
