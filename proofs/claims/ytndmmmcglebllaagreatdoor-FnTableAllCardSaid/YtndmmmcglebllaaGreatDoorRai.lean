/- Part 9 of the proof of a drawn law. -/
import Derived.Test.YtndmmmcglebllaaGreatDoorRag
import Derived.Test.YtndmmmcglebllaaGreatDoorRah
set_option maxHeartbeats 20000000
set_option maxRecDepth 100000
set_option linter.all false
namespace Go.Proofs.YtndmmmcglebllaaGreatDoor
namespace GL
abbrev gd:=ay×bf×Bool
abbrev qh (b:(Nat×Nat×Nat×Int×Nat×Int×Nat×Bool×Int×Int×Int×Int×Int×Int×Int×Bool)×List ByteArray×List Int×List Int×List Pt×List Pt):gd:=((b.2.1,b.2.2.1,b.2.2.2.1,b.1.2.2.2.1,b.2.2.2.2.1,b.1.2.2.2.2.2.1,b.2.2.2.2.2,b.1.2.2.2.2.2.2.2.1),(b.1.2.2.2.2.2.2.2.2.1,b.1.2.2.2.2.2.2.2.2.2.1,b.1.2.2.2.2.2.2.2.2.2.2.1,b.1.2.2.2.2.2.2.2.2.2.2.2.1,b.1.2.2.2.2.2.2.2.2.2.2.2.2.1,b.1.2.2.2.2.2.2.2.2.2.2.2.2.2.1,b.1.2.2.2.2.2.2.2.2.2.2.2.2.2.2.1),b.1.2.2.2.2.2.2.2.2.2.2.2.2.2.2.2)
abbrev fsW (b:(Nat×Nat×Nat×Int×Nat×Int×Nat×Bool×Int×Int×Int×Int×Int×Int×Int×Bool)×List ByteArray×List Int×List Int×List Pt×List Pt):Prop:=whole b.1.1 b.1.2.1 b.1.2.2.1 b.1.2.2.2.2.1 b.1.2.2.2.2.2.2.1 b.2.1 b.2.2.1 b.2.2.2.1 b.2.2.2.2.1 b.2.2.2.2.2
abbrev bg (F:gd) (id:Int):dN:=(cW F.1 F.2.1 id).1
def oH (F:gd) (id:Int) (n:dN):gd:=bif F.2.2 then F else ((aP F.1 F.2.1 id (aB n)).1,(aP F.1 F.2.1 id (aB n)).2.1,!(aP F.1 F.2.1 id (aB n)).2.2)
def WU {F:gd}{id:Int}{n:dN}(h:F.2.2=true):oH F id n=F:=by unfold oH;rw [h];rfl
def WS {F:gd}{id:Int}{n:dN}(h:F.2.2=false):oH F id n=((aP F.1 F.2.1 id (aB n)).1,(aP F.1 F.2.1 id (aB n)).2.1,!(aP F.1 F.2.1 id (aB n)).2.2):=by unfold oH;rw [h];rfl
abbrev EX (F:gd) (id:Int) (text:ByteArray):ay×bf×Bool:=eg F.1 (cK (bg F id)) text
def cC (F:gd) (id:Int) (l:List fO):gd:=bif F.2.2 then F else oH ((EX F id (eS l)).1,F.2.1,!(EX F id (eS l)).2.2) id (lq (bg F id) (eS l).size (EX F id (eS l)).2.1)
def PD {F:gd}{id:Int}{l:List fO}(h:F.2.2=true):cC F id l=F:=by unfold cC;rw [h];rfl
def PC {F:gd}{id:Int}{l:List fO}(h:F.2.2=false):cC F id l=oH ((EX F id (eS l)).1,F.2.1,!(EX F id (eS l)).2.2) id (lq (bg F id) (eS l).size (EX F id (eS l)).2.1):=by unfold cC;rw [h];rfl
def plE (F:gd) (a:Int):Int×Int:=bif decide (a<0) then (0,2) else bif decide ((bg F a).1≠2) then (0,4) else (a,0)
abbrev pN (path:ByteArray):List ByteArray:=(bH path).take (((bH path).length:Int)-1).toNat
def eC (F:gd) (path:ByteArray):Int×Int:=bif decide (((bH path).length:Int)=0) then (0,3) else plE F (xl F.1 F.2.1 (pN path))
def bG (F:gd) (path:ByteArray):Int:=xl F.1 F.2.1 (bH path)
def dU (F:gd) (path:ByteArray):Int×Int:=bif decide ((eC F path).2>0) then (0,(eC F path).2) else bif decide (bG F path>=0) then (0,3) else ((eC F path).1,0)
def ajG (s:ay) (t:bf):∀{l:List ByteArray}{k:Int},-1<=k->k<=15->-1<=J7 s t l k/\J7 s t l k<=15
 |[],k,h0,h1=>⟨h0,h1⟩
 |x::l,k,h0,h1=>by
  cases h: !(bU s (cW s t k).1).2 with
  |true=>rw [aeK h];omega
  |false=>cases h2:decide (mI (bU s (cW s t k).1).1 x<0) with
   |true=>rw [aeJ h2];omega
   |false=>
    rw [S1 h h2]
    have h3:=aD h2
    have h4:=C1 (l:=(bU s (cW s t k).1).1) (name:=x) (by omega)
    have h5:=(K0 s (cW s t k).1).2 _ (bS (ek:=aO) (l:=(bU s (cW s t k).1).1) (k:=(mI (bU s (cW s t k).1).1 x).toNat) (by omega))
    exact ajG s t (by omega) (by omega)
def ajF (s:ay) (t:bf) (l:List ByteArray): -1<=xl s t l/\xl s t l<=15:=ajG s t (by omega) (by omega)
def aeI (s:ay) (t:bf) {x:ByteArray}:∀{l:List ByteArray}{k:Int},0<=J7 s t (l++[x]) k->0<=k->0<=J7 s t l k/\(bU s (cW s t (J7 s t l k)).1).2=true/\0<=mI (bU s (cW s t (J7 s t l k)).1).1 x/\J7 s t (l++[x]) k=(nth aO (bU s (cW s t (J7 s t l k)).1).1 (mI (bU s (cW s t (J7 s t l k)).1).1 x).toNat).2
 |[],k,h,hk=>by
  have h:0<=J7 s t [x] k:=h
  cases h1: !(bU s (cW s t k).1).2 with
  |true=>rw [aeK h1] at h;exact absurd h (by decide)
  |false=>cases h2:decide (mI (bU s (cW s t k).1).1 x<0) with
   |true=>rw [aeJ h2] at h;exact absurd h (by decide)
   |false=>
    have h3:=aD h2
    exact⟨hk,cr h1,by show 0<=mI (bU s (cW s t k).1).1 x;omega,S1 h1 h2⟩
 |y::l,k,h,hk=>by
  have h:0<=J7 s t (y::(l++[x])) k:=h
  cases h1: !(bU s (cW s t k).1).2 with
  |true=>rw [aeK h1] at h;exact absurd h (by decide)
  |false=>cases h2:decide (mI (bU s (cW s t k).1).1 y<0) with
   |true=>rw [aeJ h2] at h;exact absurd h (by decide)
   |false=>
    have h3:=aD h2
    have h4:=C1 (l:=(bU s (cW s t k).1).1) (name:=y) (by omega)
    have h5:=(K0 s (cW s t k).1).2 _ (bS (ek:=aO) (l:=(bU s (cW s t k).1).1) (k:=(mI (bU s (cW s t k).1).1 y).toNat) (by omega))
    rw [S1 h1 h2] at h
    rw [S1 h1 h2,ZH4,S1 h1 h2]
    exact aeI s t h (by omega)
structure dF (F:gd) (n:Nat):Prop where
 wg:F.1.wg n
 ok:F.2.1.ok
 fs:F.2.2=false->FS F.1 F.2.1
def dF.mono {F:gd}{n m:Nat}(h:dF F n) (hm:n<=m):dF F m:=⟨h.wg.mono hm,h.ok,h.fs⟩
def dF.NF {F:gd}{n:Nat}{id:Int}{nd:dN}(hw:F.1.wg n) (cn:F.2.1.ok) (h0:0<=id) (h1:id<=15) (hf:F.2.2=false->(aP F.1 F.2.1 id (aB nd)).2.2=true->FS (aP F.1 F.2.1 id (aB nd)).1 (aP F.1 F.2.1 id (aB nd)).2.1):dF (oH F id nd) (n+6):=by
 cases hfu:F.2.2 with
 |true=>rw [WU hfu];exact⟨hw.mono (by omega),cn,λh=>by rw [hfu] at h;cases h⟩
 |false=>
  rw [WS hfu]
  have h2:=lL (k:=id) (text:=aB nd) hw cn h0 h1
  exact⟨h2.1,h2.2.1,λh=>hf hfu (cr h)⟩
def FS.bg {s:ay}{t:bf}{b:Bool}(h:FS s t) (i:Nat):GL.bg (s,t,b) i=nodeAt s t i:=by
 show (GL.cW s t i).1=_
 rw [h.cW (by omega)];rfl
def dF.write {F:gd}{n i:Nat}{l:List fO}(h:dF F n) (hi:i<16):dF (cC F i l) (n+123)/\(F.2.2=false->(cC F i l).2.2=false->∀k,k<16->k≠i->getM (cC F i l).1 (cC F i l).2.1 k=getM F.1 F.2.1 k):=by
 obtain⟨s,t,b⟩:=F
 cases b with
 |true=>rw [PD rfl];exact⟨h.mono (by omega),λh=>by cases h⟩
 |false=>
  have xk:=h.fs rfl
  rw [PC rfl]
  have hb:=abd (text:=eS l) h.wg (qK s t i)
  cases hz:(EX (s,t,false) i (eS l)).2.2 with
  |false=>
   refine⟨(dF.NF (F:=((EX (s,t,false) i (eS l)).1,t,true)) (n:=n+117) hb.1 h.ok (by omega) (by omega) λh=>by cases h).mono (by omega),λ_ h2=>?_⟩
   rw [WU rfl] at h2;cases h2
  |true=>
   have key:=λhz2=>xk.write (i:=i) (text:=eS l) hi (by rw [<-xk.bg (b:=false) i];exact hz) hz2
   rw [<-xk.bg (b:=false) i] at key
   refine⟨(dF.NF (F:=((EX (s,t,false) i (eS l)).1,t,false)) (n:=n+117) hb.1 h.ok (by omega) (by omega) λ_ hz2=>(key hz2).1).mono (by omega),λ_ h2=>?_⟩
   rw [Bool.not_true,WS rfl] at h2 ⊢
   exact (key (cr h2)).2.1
def aaN {l:List ByteArray}:∀{f k:Nat},0<=frF f l k->((k:Int)<=frF f l k/\frF f l k<((k+f:Nat):Int))/\(frF f l k>=(l.length:Int)\/nth ab l (frF f l k).toNat=⟨#[]⟩)
 |0,k,h=>absurd (show (0:Int)<=-1 from h) (by decide)
 |f+1,k,h=>by
  cases h1:decide ((k:Int)>=(l.length:Int)) with
  |true=>rw [amD h1];exact⟨⟨ZC1 _,by omega⟩,.inl (aF h1)⟩
  |false=>cases h2:decide (nth ab l k=⟨#[]⟩) with
   |true=>rw [amC h2];exact⟨⟨ZC1 _,by omega⟩,.inr (by rw [ZA5];exact aF h2)⟩
   |false=>
    rw [amB h1 h2] at h ⊢
    have:=aaN (l:=l) (f:=f) (k:=k+1) h
    exact⟨⟨by omega,by omega⟩,this.2⟩
def aaM {s:ay}{t:bf}(h:Tree s t t.d) (h0:0<=z1 s t):z1 s t<16/\getM s t (z1 s t).toNat=⟨#[]⟩:=by
 have h1:=aaN (l:=aE s t) (f:=16) (k:=0) h0
 refine⟨by have:=h1.1.2;unfold z1;omega,?_⟩
 by_cases hm:(z1 s t).toNat<t.many.toNat
 ·rw [<-AX h.ok hm]
  rcases h1.2 with h2 |h2
  ·rw [eV h.ok] at h2
   exact absurd hm (by unfold z1 at *;omega)
  ·exact h2
 ·exact oD h (by have:=h.m0;omega)
def dF.make {F:gd}{n:Nat}{kind:Int}(h:dF F n) (hf:F.2.2=false) (h0:0<=z1 F.1 F.2.1):dF (oH F (z1 F.1 F.2.1) (kind,1,0,qS)) (n+6):=by
 have xk:=h.fs hf
 obtain⟨h1,h2⟩:=aaM xk.fi.tree h0
 refine dF.NF h.wg h.ok h0 (by omega) λ_ hz=>?_
 obtain⟨i,hi⟩:∃i:Nat,z1 F.1 F.2.1=i:=⟨(z1 F.1 F.2.1).toNat,by omega⟩
 rw [hi] at hz h2 ⊢
 rw [ZA5] at h2
 exact (xk.make (by omega) h2 hz).1
def dF.aiN {F:gd}{n i:Nat}{nd:dN}{l:Int}(h:dF F n) (hi:i<16) (hi0:0<i) (hn:F.2.2=false->nd=nodeAt F.1 F.2.1 i):dF (oH F i (nd.1,l,nd.2.2)) (n+6):=by
 refine dF.NF h.wg h.ok (by omega) (by omega) λhf hz=>?_
 rw [hn hf] at hz ⊢
 exact ((h.fs hf).aiN hi hi0 hz).1
def dF.drop {F:gd}{n i:Nat}(h:dF F n) (hf:F.2.2=false) (hi:i<16) (hi0:0<i):PF F.1 (cK (cW F.1 F.2.1 i).1)=true/\((cG F.1 F.2.1 i).2.2=true->FS (cG F.1 F.2.1 i).1 (cG F.1 F.2.1 i).2.1):=by
 have xk:=h.fs hf
 refine⟨?_,λhz=>(xk.drop hi hi0 hz).1⟩
 have hn:(cW F.1 F.2.1 i).1=nodeAt F.1 F.2.1 i:=by rw [xk.cW (by omega)];rfl
 rw [hn]
 exact (QF (xk.at hi).1.tm).1
def adl {s:ay}{t:bf}{k:Int}{n:Nat}(hs:s.wg n) (ht:t.ok) (h0:0<=k) (h1:k<=15):(cG s t k).1.wg (n+67)/\(cG s t k).2.1.ok:=by
 have hna:=aff (s:=s) (qK s t k).rd.ok
 have jV:=H4 (l:=allM s (cK (cW s t k).1)) hs.wf
 have hu:(AM s t k).wg (n+40):=⟨jV.1,by have:=jV.2.1;have:=hna.2;have:=hs.g;show (dV _ s).gone.length<=_;omega,by have:=jV.2.2;have:=hna.2;have:=hs.d;show (dV _ s).dead.length<=_;omega,by show (dV _ s).cz<=_;rw [CD];have:=hs.t;omega⟩
 have hp:=lL (k:=k) (text:=⟨#[]⟩) hu ht h0 h1
 have hl:=N7 (s:=s) ht k
 rw [tg]
 cases !(aP (AM s t k) t k ⟨#[]⟩).2.2 with
 |true=>exact⟨hp.1.mono (by omega),hp.2.1⟩
 |false=>
  have hc:=K3 (many:=nS s t k) hp.1 hp.2.1 hl.1 (ZE9 hl.2 ht.m1)
  exact⟨hc.1,hc.2.1⟩
def U3 {text:ByteArray}:∀{f:Nat}{k:Int}{s:ay}{t:bf}{n:Nat},s.wg n->t.ok->0<=k->k+f<=16->(sE f k s t text).1.wg (n+6*f)/\(sE f k s t text).2.1.ok
 |0,k,s,t,n,hs,ht,_,_=>⟨hs,ht⟩
 |f+1,k,s,t,n,hs,ht,h0,h1=>by
  have hp:=lL (k:=k) (text:=fp text k) hs ht h0 (by omega)
  cases hz:(aP s t k (fp text k)).2.2 with
  |false=>rw [ab1 hz];exact⟨hp.1.mono (by omega),ht⟩
  |true=>
   rw [ab0 hz]
   have:=U3 (text:=text) (f:=f) (k:=k+1) hp.1 hp.2.1 (by omega) (by omega)
   exact⟨this.1.mono (by omega),this.2⟩
def lI.p13 {s:ay}{t:bf}{E:Nat->Bool}{O:Nat->Nat}{text:ByteArray}:∀{f:Nat}{k:Int}{u:ay}{t2:bf},lI s t E O u t2->0<=k->k+f<=16->(sE f k u t2 text).2.2=true->lI s t E O (sE f k u t2 text).1 (sE f k u t2 text).2.1
 |0,k,u,t2,h,_,_,_=>h
 |f+1,k,u,t2,h,h0,h1,hz=>by
  cases hx:(aP u t2 k (fp text k)).2.2 with
  |false=>rw [ab1 hx] at hz;cases hz
  |true=>
   rw [ab0 hx] at hz ⊢
   exact lI.p13 (h.put h0 (by omega) hx).1 (by omega) (by omega) hz
def ahi {a:Int}{m:Nat}(h0:0<=a) (h1:a+m<=192) (h2:1<=m):0<=a / 12/\a / 12+(((a+m-1) / 12+1-a / 12).toNat:Int)<=16:=by omega
def amN {s:ay}{nd:dN}{a:Int}{text:ByteArray}{n:Nat}(hs:s.wg n) (ht:(cK nd).ok) (h0:0<=a) (h1:a+text.size<=192):(pb s nd a text).1.wg (n+96)/\(cK (pb s nd a text).2.1).ok:=by
 cases h:decide (text=⟨#[]⟩) with
 |true=>rw [T8 h];exact⟨hs.mono (by omega),ht⟩
 |false=>
  have h2:=size_pos (aD h)
  have hb:=ahi h0 h1 h2
  rw [T7 h]
  have:=U3 (text:=abk s nd a text) (f:=((a+text.size-1) / 12+1-a / 12).toNat) hs ht hb.1 hb.2
  exact⟨this.1.mono (by omega),this.2⟩
def lI.iL {s u:ay}{t:bf}{E:Nat->Bool}{O:Nat->Nat}{nd:dN}{a:Int}{text:ByteArray}(h:lI s t E O u (cK nd)) (h0:0<=a) (h1:a+text.size<=192) (hz:(pb u nd a text).2.2=true):lI s t E O (pb u nd a text).1 (cK (pb u nd a text).2.1):=by
 cases hd:decide (text=⟨#[]⟩) with
 |true=>rw [T8 hd];exact h
 |false=>
  have hb:=ahi h0 h1 (size_pos (aD hd))
  rw [T7 hd] at hz ⊢
  exact h.p13 hb.1 hb.2 hz
def anU {s:ay}{nd:dN}{size:Int}{n:Nat}(hs:s.wg n) (tV:cx nd=true) (hn1:nd.1=1) (h0:0<=size) (h1:size<=192):(jW s nd size).1.wg (n+96)/\(cK (jW s nd size).2.1).ok:=by
 have cn:=pK tV
 obtain⟨hm,wW,CB⟩:=node1 tV hn1
 have hpm:bn size 12=(size+12-1) / 12:=rfl
 have hpn:bn nd.2.2.1 12=(nd.2.2.1+12-1) / 12:=rfl
 unfold jW
 cases hd:decide (size>=nd.2.2.1) with
 |true=>
  have hd:=aF hd
  cases hq:decide (bn size 12=(cK nd).many) with
  |true=>exact⟨hs.mono (by omega),cn⟩
  |false=>
   have hq:=aD hq
   have hp:=lL (k:=bn size 12-1) (text:=⟨#[]⟩) hs cn (by omega) (by omega)
   exact⟨hp.1.mono (by omega),hp.2.1⟩
 |false=>
  have hc:=K3 (many:=bn size 12) hs cn (by omega) (by omega)
  show (P6 _ nd _ size _).1.wg _/\(cK (P6 _ nd _ size _).2.1).ok
  unfold P6
  cases !(cX s (cK nd) (bn size 12)).2.2 with
  |true=>exact⟨hc.1.mono (by omega),cn⟩
  |false=>
   cases hz:decide (bn size 12=0) with
   |true=>exact⟨hc.1.mono (by omega),hc.2.1⟩
   |false=>
    have hz:=aD hz
    have:=U3 (text:=(jZ s nd).extract 0 size.toNat) (f:=(bn size 12-1+1-(bn size 12-1)).toNat) (k:=bn size 12-1) hc.1 hc.2.1 (by omega) (by omega)
    exact⟨this.1.mono (by omega),this.2⟩
def lI.c13 {s u:ay}{t:bf}{E:Nat->Bool}{O:Nat->Nat}{nd:dN}{size:Int}(h:lI s t E O u (cK nd)) (tV:cx nd=true) (hn1:nd.1=1) (h0:0<=size) (h1:size<=192) (hz:(jW u nd size).2.2=true):lI s t E O (jW u nd size).1 (cK (jW u nd size).2.1):=by
 obtain⟨hm,wW,CB⟩:=node1 tV hn1
 have hpm:bn size 12=(size+12-1) / 12:=rfl
 have hpn:bn nd.2.2.1 12=(nd.2.2.1+12-1) / 12:=rfl
 unfold jW at hz ⊢
 cases hd:decide (size>=nd.2.2.1) with
 |true=>
  rw [hd] at hz
  have hd:=aF hd
  cases hq:decide (bn size 12=(cK nd).many) with
  |true=>exact h
  |false=>
   rw [hq] at hz
   have hq:=aD hq
   exact (h.put (by omega) (by omega) hz).1
 |false=>
  rw [hd] at hz
  have hz:(P6 (cX u (cK nd) (bn size 12)) nd (jZ u nd) size (bn size 12)).2.2=true:=hz
  show lI s t E O (P6 (cX u (cK nd) (bn size 12)) nd (jZ u nd) size (bn size 12)).1 (cK (P6 (cX u (cK nd) (bn size 12)) nd (jZ u nd) size (bn size 12)).2.1)
  unfold P6 at hz ⊢
  cases hc:(cX u (cK nd) (bn size 12)).2.2 with
  |false=>rw [hc] at hz;cases hz
  |true=>
   rw [hc] at hz
   have hB:=(h.cut (by omega) (by omega) hc).1
   cases hq:decide (bn size 12=0) with
   |true=>exact hB
   |false=>
    rw [hq] at hz
    have hq:=aD hq
    exact lI.p13 (f:=(bn size 12-1+1-(bn size 12-1)).toNat) hB (by omega) (by omega) hz
def dF.change {F:gd}{n i:Nat}{r:ay×dN×Bool}(h:dF F n) (hf:F.2.2=false) (hi:i<16) (hi0:0<i) (hw:r.1.wg (n+96)) (hB:r.2.2=true->lI F.1 F.2.1 (tS E0 i) O0 r.1 (cK r.2.1)):dF (oH (r.1,F.2.1,!r.2.2) i r.2.1) (n+102):=by
 refine dF.NF (F:=(r.1,F.2.1,!r.2.2)) hw h.ok (by omega) (by omega) λhb hz=>?_
 exact ((h.fs hf).back hi (hB (cr hb)) (λe=>absurd e (by omega)) hz).1
end GL
namespace GL
structure QK (l:List fO):Prop where
 len:l.length<=13
 sz:∀e∈l,e.1.size<=1000
 id:∀e∈l,0<=e.2/\e.2<=999999999
def QK.p {l:List fO}(h:QK l):ahb l:=⟨by have:=h.len;omega,λe he=>by have:=h.sz e he;omega,h.id⟩
def JN:∀{l:List fO}{out:ByteArray},(∀e∈l,e.1.size<=1000/\0<=e.2/\e.2<=999999999)->(l.foldl tf out).size<=out.size+1100*l.length
 |[],out,_=>ZB0 _
 |e::l,out,h=>by
  have h1:=JN (l:=l) (out:=tf out e) λx hx=>h x (by simp [hx])
  have h2:=h e (by simp)
  have h3:(bL e.2).size<=12:=cM (ZE9 h2.2.2 (by omega))
  have h4:(tf out e).size=out.size+e.1.size+1+(bL e.2).size+1:=by
   show (out++e.1++⟨#[61]⟩++bL e.2++⟨#[59]⟩).size=_
   simp only [ZB4]
   rw [show (⟨#[61]⟩:ByteArray).size=1 from rfl,show (⟨#[59]⟩:ByteArray).size=1 from rfl]
  rw [List.foldl_cons,ZA1];omega
def QK.size {l:List fO}(h:QK l):(eS l).size<=1000000:=by
 have h1:=JN (l:=l) (out:=⟨#[]⟩) λe he=>⟨h.sz e he,h.id e he⟩
 have h2:=h.len
 rw [show (⟨#[]⟩:ByteArray).size=0 from rfl] at h1
 show (l.foldl tf ⟨#[]⟩).size<=_;omega
structure XD (l:List fO):Prop where
 len:l.length<=12
 sz:∀e∈l,e.1.size<=1000
 id:∀e∈l,0<=e.2/\e.2<=999999999
def XD.w {l:List fO}(h:XD l):QK l:=⟨by have:=h.len;omega,h.sz,h.id⟩
def r9 (s:ay) (n:dN):XD (bU s n).1:=by
 have h:=K0 s n
 refine⟨h.1,λe he=>?_,λe he=>?_⟩
 ·have:=I7 (h.2 e he).1;omega
 ·have:=(h.2 e he).2;omega
def XD.less {l:List fO}(h:XD l) (i:Nat):XD (eZ l i):=by
 have hm:∀e∈eZ l i,e∈l:=λe he=>by
  rcases ZB5.1 he with h1 |h1
  ·exact ZE5 h1
  ·exact ZF5 h1
 refine⟨?_,λe he=>h.sz e (hm e he),λe he=>h.id e (hm e he)⟩
 show (l.take i++l.drop (i+1)).length<=12
 rw [ZA0,ZB6,ZC8]
 have:=h.len;omega
theorem ag9 {e x:fO}{d:Bool}(h:KA e x d=true):d=false:=by
 cases d with
 |false=>rfl
 |true=>cases h
theorem QH {e:fO}:∀{l out:List fO}{d:Bool},(zb e (z7 l e d out)).length=out.length+l.length+(bif d then 0 else 1)
 |[],out,true=>rfl
 |[],out,false=>by show (out++[e]).length=_;rw [ZA0];rfl
 |x::l,out,d=>by
  cases h:KA e x d with
  |true=>
   rw [adE h,QH (l:=l) (out:=out++[e]++[x]) (d:=true),ag9 h,ZA0,ZA0]
   show out.length+1+1+l.length+0=out.length+(l.length+1)+1;omega
  |false=>
   rw [W9 h,QH (l:=l) (out:=out++[x]) (d:=d),ZA0]
   show out.length+1+l.length+_=out.length+(l.length+1)+_;omega
def QG {e:fO}:∀{l out:List fO}{d:Bool},∀y∈zb e (z7 l e d out),y∈out\/y∈l\/y=e
 |[],out,true=>λy hy=>.inl hy
 |[],out,false=>λy hy=>by
  have hy:y∈out++[e]:=hy
  rcases ZB5.1 hy with h |h
  ·exact .inl h
  ·exact .inr (.inr (ZD0.1 h))
 |x::l,out,d=>λy hy=>by
  cases h:KA e x d with
  |true=>
   rw [adE h] at hy
   rcases QG y hy with h1 |h1 |h1
   ·rcases ZB5.1 h1 with h2 |h2
    ·rcases ZB5.1 h2 with h3 |h3
     ·exact .inl h3
     ·exact .inr (.inr (ZD0.1 h3))
    ·exact .inr (.inl (by rw [ZD0.1 h2];simp))
   ·exact .inr (.inl (by simp [h1]))
   ·exact .inr (.inr h1)
  |false=>
   rw [W9 h] at hy
   rcases QG y hy with h1 |h1 |h1
   ·rcases ZB5.1 h1 with h2 |h2
    ·exact .inl h2
    ·exact .inr (.inl (by rw [ZD0.1 h2];simp))
   ·exact .inr (.inl (by simp [h1]))
   ·exact .inr (.inr h1)
def XD.add {l:List fO}(h:XD l) {e:fO}(h1:e.1.size<=1000) (h2:0<=e.2/\e.2<=999999999):QK (sI l e):=by
 have hm:∀y∈sI l e,y∈l\/y=e:=λy hy=>(QG y hy).elim (λh=>absurd h ZF6) λh=>h
 refine⟨?_,λy hy=>?_,λy hy=>?_⟩
 ·show (zb e (z7 l e false [])).length<=13
  rw [QH]
  show 0+l.length+1<=13
  have:=h.len;omega
 ·rcases hm y hy with h3 |h3
  ·exact h.sz y h3
  ·rw [h3];exact h1
 ·rcases hm y hy with h3 |h3
  ·exact h.id y h3
  ·rw [h3];exact h2
theorem ID:(dj ⟨#[]⟩).1=[]:=by rfl
def aa5 {s:ay}{n:dN}(h:(bU s n).1≠[]):n.1=2/\0<n.2.2.1:=by
 cases h1: !(cx n) with
 |true=>rw [aj3 h1] at h;exact absurd rfl h
 |false=>cases h2:decide (n.1≠2) with
  |true=>rw [aj2 h2] at h;exact absurd rfl h
  |false=>cases h3: !(iX s (cK n)) with
   |true=>rw [aj1 h3] at h;exact absurd rfl h
   |false=>cases h4: !(dI s (cK n)).2 with
    |true=>rw [aj0 h4] at h;exact absurd rfl h
    |false=>cases h5:decide (((dI s (cK n)).1.size:Int)≠n.2.2.1) with
     |true=>rw [ajZ h5] at h;exact absurd rfl h
     |false=>
      rw [ajY h1 h2 h3 h4 h5] at h
      have h2:=aD h2
      have h5:=aD h5
      refine⟨by omega,?_⟩
      have:(dI s (cK n)).1≠⟨#[]⟩:=λe=>by rw [e,ID] at h;exact h rfl
      have:=size_pos this
      omega
def agR {F:gd}{path:ByteArray}(h:decide ((dU F path).2>0)=false):decide ((eC F path).2>0)=false/\dU F path=((eC F path).1,0):=by
 unfold dU at h ⊢
 cases hp:decide ((eC F path).2>0) with
 |true=>
  rw [hp] at h
  have h:decide ((eC F path).2>0)=false:=h
  rw [hp] at h;cases h
 |false=>cases hs:decide (bG F path>=0) with
  |true=>rw [hp,hs] at h;cases h
  |false=>exact⟨rfl,rfl⟩
def UX {F:gd}{path:ByteArray}(h:decide ((eC F path).2>0)=false):1<=(bH path).length/\eC F path=(xl F.1 F.2.1 (pN path),0)/\0<=xl F.1 F.2.1 (pN path)/\xl F.1 F.2.1 (pN path)<=15/\(bg F (xl F.1 F.2.1 (pN path))).1=2:=by
 unfold eC at h ⊢
 cases h1:decide (((bH path).length:Int)=0) with
 |true=>rw [h1] at h;cases h
 |false=>
  rw [h1] at h
  have h:decide ((plE F (xl F.1 F.2.1 (pN path))).2>0)=false:=h
  show _/\plE F (xl F.1 F.2.1 (pN path))=_/\_
  unfold plE at h ⊢
  cases h2:decide (xl F.1 F.2.1 (pN path)<0) with
  |true=>rw [h2] at h;cases h
  |false=>cases h3:decide ((bg F (xl F.1 F.2.1 (pN path))).1≠2) with
   |true=>rw [h2,h3] at h;cases h
   |false=>
    have h1:=aD h1
    have h2:=aD h2
    have h3:=aD h3
    exact⟨by omega,rfl,by omega,(ajF _ _ _).2,by omega⟩
abbrev et (path:ByteArray):ByteArray:=nth ab (bH path) ((bH path).length-1)
def QA {path:ByteArray}(h:1<=(bH path).length):(et path).size<=path.size:=HL _ (bS (ek:=ab) (by omega))
def I6 {path:ByteArray}(h:1<=(bH path).length):bH path=pN path++[et path]:=by
 have e:(((bH path).length:Int)-1).toNat=(bH path).length-1:=by omega
 show _=(bH path).take (((bH path).length:Int)-1).toNat++_
 rw [e]
 conv=>lhs;rw [<-ZF3 ((bH path).length-1) (bH path),bJ (ek:=ab) (show (bH path).length-1<(bH path).length by omega),ZB3 (by omega)]
def q7 {F:gd}{path:ByteArray}(h:0<bG F path):decide ((eC F path).2>0)=false/\0<=mI (bU F.1 (bg F (eC F path).1)).1 (et path)/\bG F path=(nth aO (bU F.1 (bg F (eC F path).1)).1 (mI (bU F.1 (bg F (eC F path).1)).1 (et path)).toNat).2:=by
 have hn:1<=(bH path).length:=by
  rcases Nat.eq_zero_or_pos (bH path).length with e |e
  ·have e2:bH path=[]:=ZF2 e
   have:bG F path=0:=by unfold bG;rw [e2];rfl
   omega
  ·exact e
 have hg:0<=J7 F.1 F.2.1 (pN path++[et path]) 0:=by rw [<-I6 hn];exact Int.le_of_lt h
 obtain⟨g1,g2,g3,g4⟩:=aeI F.1 F.2.1 hg (ZC1 _)
 have hk:(bg F (xl F.1 F.2.1 (pN path))).1=2:=(aa5 (s:=F.1) (n:=bg F (xl F.1 F.2.1 (pN path))) (λe=>by
  have h1:=C1 (l:=(bU F.1 (bg F (xl F.1 F.2.1 (pN path)))).1) (name:=et path) g3
  rw [e] at h1
  have:=h1.1
  have g3:0<=mI (bU F.1 (bg F (xl F.1 F.2.1 (pN path)))).1 (et path):=g3
  rw [e] at g3
  have:mI ([]:List fO) (et path)<0:=this
  omega)).1
 have hp:eC F path=(xl F.1 F.2.1 (pN path),0):=by
  unfold eC plE
  rw [show decide (((bH path).length:Int)=0)=false from decide_eq_false (by omega),show decide (xl F.1 F.2.1 (pN path)<0)=false from decide_eq_false (by show¬J7 F.1 F.2.1 (pN path) 0<0;omega),show decide ((bg F (xl F.1 F.2.1 (pN path))).1≠2)=false from decide_eq_false (by omega)];rfl
 rw [hp]
 refine⟨ζ,g3,?_⟩
 show J7 F.1 F.2.1 (bH path) 0=_
 rw [I6 hn];exact g4
def DL (F:gd) (path:ByteArray): -1<=bG F path/\bG F path<=15:=ajF _ _ _
def dF.vf {F:gd}{n:Nat}{i:Int}{l:List fO}(h:dF F n) (h0:0<=i) (h1:i<=15):dF (cC F i l) (n+123)/\(F.2.2=false->(cC F i l).2.2=false->∀k:Nat,k<16->(k:Int)≠i->getM (cC F i l).1 (cC F i l).2.1 k=getM F.1 F.2.1 k):=by
 obtain⟨j,rfl⟩:∃j:Nat,i=j:=⟨i.toNat,by omega⟩
 have:=h.write (i:=j) (l:=l) (by omega)
 exact⟨this.1,λa b k hk ft=>this.2 a b k hk (by omega)⟩
def dF.aiL {F:gd}{n:Nat}{i:Int}{nd:dN}{l:Int}(h:dF F n) (h0:0<i) (h1:i<=15) (hn:F.2.2=false->nd=bg F i):dF (oH F i (nd.1,l,nd.2.2)) (n+6):=by
 obtain⟨j,rfl⟩:∃j:Nat,i=j:=⟨i.toNat,by omega⟩
 refine h.aiN (by omega) (by omega) λhf=>?_
 rw [hn hf];exact (h.fs hf).bg j
def dF.free {F:gd}{n:Nat}(h:dF F n) (hf:F.2.2=false) (h0:0<=z1 F.1 F.2.1):z1 F.1 F.2.1<=15:=by
 have:=(aaM (h.fs hf).fi.tree h0).1;omega
def S4 {F:gd}{path:ByteArray}(h:decide ((dU F path).2>0)=false):1<=(bH path).length/\0<=(dU F path).1/\(dU F path).1<=15:=by
 obtain⟨h1,h2⟩:=agR h
 obtain⟨p1,p2,p3,p4,_⟩:=UX h1
 rw [h2,p2];exact⟨p1,p3,p4⟩
def dF.node {F:gd}{n:Nat}{id:Int}(h:dF F n) (hf:F.2.2=false) (h0:0<=id) (h1:id<=15):cx (bg F id)=true\/bg F id=dq:=by
 obtain⟨j,rfl⟩:∃j:Nat,id=j:=⟨id.toNat,by omega⟩
 have h2:=((h.fs hf).at (i:=j) (by omega)).2
 rw [show bg F (j:Int)=nodeAt F.1 F.2.1 j from (h.fs hf).bg (b:=F.2.2) j];exact h2
def dF.file {F:gd}{n:Nat}{id:Int}(h:dF F n) (hf:F.2.2=false) (h0:0<=id) (h1:id<=15) (hk:(bg F id).1=1):0<id/\cx (bg F id)=true:=by
 refine⟨?_,?_⟩
 ·rcases Int.lt_or_eq_of_le h0 with e |e
  ·exact e
  ·have h2:(nodeAt F.1 F.2.1 0).1=2:=(h.fs hf).root
   have h3:bg F ((0:Nat):Int)=nodeAt F.1 F.2.1 0:=(h.fs hf).bg (b:=F.2.2) 0
   rw [<-h3] at h2
   rw [<-e] at hk
   have hk:(bg F ((0:Nat):Int)).1=1:=hk
   omega
 ·rcases h.node hf h0 h1 with e |e
  ·exact e
  ·rw [e] at hk;exact absurd (show (0:Int)=1 from hk) (by decide)
def dF.aiM {F:gd}{n:Nat}{id:Int}(h:dF F n) (hf:F.2.2=false) (h0:0<=id) (h1:id<=15):0<=(bg F id).2.1/\(bg F id).2.1<=9:=by
 rcases h.node hf h0 h1 with e |e
 ·have:=(il e).2.1;omega
 ·rw [e];exact⟨by decide,by decide⟩
def dF.iL {F:gd}{n:Nat}{id a:Int}{text:ByteArray}(h:dF F n) (hf:F.2.2=false) (h0:0<=id) (h1:id<=15) (hk:(bg F id).1=1) (ha:0<=a) (ha1:a+text.size<=192):(pb F.1 (bg F id) a text).1.wg (n+96)/\dF (oH ((pb F.1 (bg F id) a text).1,F.2.1,!(pb F.1 (bg F id) a text).2.2) id (pb F.1 (bg F id) a text).2.1) (n+102):=by
 have hp:=(h.file hf h0 h1 hk).1
 obtain⟨j,rfl⟩:∃j:Nat,id=j:=⟨id.toNat,by omega⟩
 have e:bg F (j:Int)=nodeAt F.1 F.2.1 j:=(h.fs hf).bg (b:=F.2.2) j
 have hw:=(amN (nd:=bg F j) h.wg (qK F.1 F.2.1 j) ha ha1).1
 refine⟨hw,h.change hf (by omega) (by omega) hw λhz=>?_⟩
 have hB:=(h.fs hf).take (i:=j) (by omega)
 rw [<-e] at hB
 exact hB.iL ha ha1 hz
def dF.c13 {F:gd}{n:Nat}{id a:Int}(h:dF F n) (hf:F.2.2=false) (h0:0<=id) (h1:id<=15) (hk:(bg F id).1=1) (ha:0<=a) (ha1:a<=192):(jW F.1 (bg F id) a).1.wg (n+96)/\dF (oH ((jW F.1 (bg F id) a).1,F.2.1,!(jW F.1 (bg F id) a).2.2) id (jW F.1 (bg F id) a).2.1) (n+102):=by
 have hp:=h.file hf h0 h1 hk
 obtain⟨j,rfl⟩:∃j:Nat,id=j:=⟨id.toNat,by omega⟩
 have e:bg F (j:Int)=nodeAt F.1 F.2.1 j:=(h.fs hf).bg (b:=F.2.2) j
 have hw:=(anU (nd:=bg F j) h.wg hp.2 hk ha ha1).1
 refine⟨hw,h.change hf (by omega) (by have:=hp.1;omega) hw λhz=>?_⟩
 have hB:=(h.fs hf).take (i:=j) (by omega)
 rw [<-e] at hB
 exact hB.c13 hp.2 hk ha ha1 hz
def dF.afj {F:gd}{n:Nat}{i id:Int}{l:List fO}(h:dF F n) (hf:F.2.2=false) (h0:0<=i) (h1:i<=15) (k0:0<=id) (k1:id<=15) (ft:id≠i) (hz:(cC F i l).2.2=false):bg F id=bg (cC F i l) id:=by
 obtain⟨j,rfl⟩:∃j:Nat,id=j:=⟨id.toNat,by omega⟩
 have hw:=h.vf (l:=l) h0 h1
 have e1:bg F (j:Int)=nodeAt F.1 F.2.1 j:=(h.fs hf).bg (b:=F.2.2) j
 have e2:bg (cC F i l) (j:Int)=nodeAt (cC F i l).1 (cC F i l).2.1 j:=(hw.1.fs hz).bg (b:=(cC F i l).2.2) j
 rw [e1,e2]
 show (aG (getM _ _ j)).1=(aG (getM _ _ j)).1
 rw [hw.2 hf hz j (by omega) ft]
def ae3 {F:gd}{path:ByteArray}(h:0<bG F path) (hb:(bg F (bG F path)).1=2->¬0<(bg F (bG F path)).2.2.1):bG F path≠(eC F path).1:=λe=>by
 have h1:=(q7 h).2.1
 have h2:=aa5 (s:=F.1) (n:=bg F (eC F path).1) (λe2=>by
  have h3:=(C1 h1).1
  rw [e2] at h3 h1
  have:mI ([]:List fO) (et path)<0:=h3
  omega)
 rw [<-e] at h2
 exact hb h2.1 h2.2
def dF.apz {F:gd}{n:Nat}{id:Int}(h:dF F n) (h0:0<id) (h1:id<=15) (hf:F.2.2=false):PF F.1 (cK (bg F id))=true/\dF ((cG F.1 F.2.1 id).1,(cG F.1 F.2.1 id).2.1,!(cG F.1 F.2.1 id).2.2) (n+67):=by
 have hd:=adl h.wg h.ok (Int.le_of_lt h0) h1
 obtain⟨j,rfl⟩:∃j:Nat,id=j:=⟨id.toNat,by omega⟩
 have h2:=h.drop (i:=j) hf (by omega) (by omega)
 exact⟨h2.1,hd.1,hd.2,λhz=>h2.2 (cr hz)⟩
end GL
namespace GL
def Kept (O:Nat->Nat) (s u:ay):Prop:=Acc u O/\Kp O s u/\eB s u
def Kept.refl {O:Nat->Nat}{s:ay}(h:Acc s O):Kept O s s:=⟨h,Kp.refl _ _,eB.refl _⟩
def Kept.trans {O:Nat->Nat}{a b c:ay}(h:Kept O a b) (h2:Kept O b c):Kept O a c:=⟨h2.1,h.2.1.trans h2.2.1,h.2.2.trans h2.2.2⟩
structure TA (s:ay) (t:bf):Prop where
 tree:Tree s t t.d
 acc:∃X:Nat->Nat,Acc s (λr=>X r+bF (eu s t) r)
def FS.ta {s:ay}{t:bf}(h:FS s t):TA s t:=
 ⟨h.fi.tree,_,h.fi.acc.mono (O':=λr=>0+bF (eu s t) r) λr=>by show 0+bF (eu s t) r<=0+bF (eu s t) r+iS s t E0 r;omega⟩
def TA.next {s:ay}{t:bf}(h:TA s t) (ht:s.cz<1000000):TA (jR s) t:=by
 obtain⟨X,ha⟩:=h.acc
 obtain⟨h1,h2,h3,_⟩:=BZ ha ht
 have h4:=FK h.tree (by rw [h3];omega) h2 λr=>Nat.le_add_left _ _
 exact⟨h4.1,X,h1.mono λr=>by rw [show eu (jR s) t=eu s t from h4.2.1];exact ZB0 _⟩
def TA.put {s:ay}{t:bf}{k:Int}{text:ByteArray}(h:TA s t) (hk0:0<=k) (hk:k<=15) (hz:(aP s t k text).2.2=true):TA (aP s t k text).1 (aP s t k text).2.1:=by
 obtain⟨X,ha⟩:=h.acc
 obtain⟨d,hP⟩:=GS ha h.tree hk0 hk hz
 refine⟨hP.tree.at,X,hP.acc.mono λr=>?_⟩
 rw [LH hP.tree];exact ZB0 _
def TA.gk {s:ay}{t:bf}{n:Nat}(h:TA s t) (hw:s.wg n) (hn:n<=900000):s.gk:=by
 obtain⟨X,ha⟩:=h.acc
 exact⟨ha.wf.n,ZA9 hw.g (by omega),λp hp=>pI (ha.ok p (by simp [hp])).1,by have:=ha.cz;omega⟩
theorem NL:∀(l:List Pt) (s:ay),(ld l s).dead=s.dead
 |[],_=>rfl
 |p::l,s=>NL l (gZ s p.1.toNat)
def Z2 {s:ay}{n:Nat}{O:Nat->Nat}(h:Acc s O) (hw:s.wg n) (hn:n<=900000):(jR s).wg (n+1):=by
 have ht:s.cz<1000000:=by have:=hw.t;omega
 obtain⟨h1,_,e3,_⟩:=BZ h ht
 refine⟨h1.wf,ZA7 _,?_,?_⟩
 ·show (ld s.gone s).dead.length<=_;rw [NL];have:=hw.d;omega
 ·rw [e3];have:=hw.t;omega
def TA.aiC {s:ay}{t:bf}{n:Nat}(h:TA s t) (hw:s.wg n) (hn:n<=900000):TA (jR s) t/\(jR s).wg (n+1):=by
 obtain⟨X,ha⟩:=h.acc
 exact⟨h.next (by have:=hw.t;omega),Z2 ha hw hn⟩
end GL
namespace GL
def fsA (b0 b1 b2 b3 b4:Nat) (F:gd):List SV:=[.xs b0 1 0 F.1.rows.length,.xs b1 1 0 F.1.refs.length,.xs b2 1 0 F.1.last.length,.int F.1.cz,.xs b3 5 0 F.1.gone.length,.int F.1.cm,.xs b4 5 0 F.1.dead.length,.q F.1.same,.int F.2.1.1,.int F.2.1.2.1,.int F.2.1.2.2.1,.int F.2.1.2.2.2.1,.int F.2.1.2.2.2.2.1,.int F.2.1.2.2.2.2.2.1,.int F.2.1.2.2.2.2.2.2,.q F.2.2]
def fsO (F:gd):List AV:=[.a (fsA 1 2 3 4 5 F),.rs ab F.1.rows,.rs ag F.1.refs,.rs ag F.1.last,.rs ae F.1.gone,.rs ae F.1.dead]
def fsP (F:gd):List AV:=[.a (fsA 1 2 3 6 7 F),.rs ab F.1.rows,.rs ag F.1.refs,.rs ag F.1.last,.zz,.zz,.rs ae F.1.gone,.rs ae F.1.dead]
def fT (F:gd) (id:Int):Prop:=F.1.rd/\F.2.1.ok
def ra (F:gd) (id:Int):AV:=.o (ndA (cW F.1 F.2.1 id).1)
def tE (F:gd) (id:Int):List AV:=fsO F
def ef:cu where
 A:=[.b 0,.s .int]
 B:=[.a [.xb 1 ab,.xb 2 ag,.xb 3 ag,.int,.xb 4 ae,.int,.xb 5 ae,.bool,.int,.int,.int,.int,.int,.int,.int,.bool],.r ab,.r ag,.r ag,.r ae,.r ae]
 pre:=λx b=>fsW b/\fT (qh b) (x.2)
 r:=λx b _=>ra (qh b) (x.2)
 o:=λx b _=>tE (qh b) (x.2)
 ro:=true
def kP:Has Tryz.prog 123 ef:=by
 refine Has.fP zT zF zF (l:=[(158,kr)]) ⟨yq,aa⟩ Tryz.func123 ?_
 rintro⟨_,(id:Int)⟩ ⟨⟨(Fm1:Nat),(Fm2:Nat),(Fm3:Nat),(aQ:Int),(Fm4:Nat),(a6:Int),(Fm5:Nat),(aZ:Bool),(aY:Int),(aX:Int),(aW:Int),(aV:Int),(aU:Int),(aS:Int),(aR:Int),(a7:Bool)⟩,(aI:List ByteArray),(aJ:List Int),(aK:List Int),(aM:List Pt),(aN:List Pt)⟩ ⟨⟨(kn:Fm1=List.length aI),(km:Fm2=List.length aJ),(kl:Fm3=List.length aK),(kk:Fm4=List.length aM),(kj:Fm5=List.length aN)⟩,(hp:fT ((aI,aJ,aK,aQ,aM,a6,aN,aZ),(aY,aX,aW,aV,aU,aS,aR),a7) id)⟩
 subst kn km kl kk kj
 show vc _ _ _ _ (entry [.s (.bp 0 0),.int id] [.a [.xs 1 1 0 aI.length,.xs 2 1 0 aJ.length,.xs 3 1 0 aK.length,.int aQ,.xs 4 5 0 aM.length,.int a6,.xs 5 5 0 aN.length,.q aZ,.int aY,.int aX,.int aW,.int aV,.int aU,.int aS,.int aR,.q a7],.rs ab aI,.rs ag aJ,.rs ag aK,.rs ae aM,.rs ae aN]) _
 let A':=((aI,aJ,aK,aQ,aM,a6,aN,aZ),(aY,aX,aW,aV,aU,aS,aR),a7)
 obtain⟨dM,cn⟩:=hp
 refine⟨Sq0,Sq8,ζ,Sq8,Sq9,ζ,Sq9,Sq10,ζ,[.s 10,.b 0],Sq11,ζ,Sq0,Sq12,ζ,Sq12,Sq13,ζ,Sq13,Sq14,ζ,[.s 14,.b 0],Sq15,ζ,Sq1,Sq16,ζ,[.s 11,.s 15,.s 16,.b 1,.b 2,.b 3,.b 4,.b 5],Sq17,ζ,⟨⟨⟨⟨?_,?_⟩,⟨?_,?_⟩,⟨?_,?_⟩,aa,⟨?_,?_⟩,aa,⟨?_,?_⟩,tv2⟩,tv8,tv2⟩,?_,?_⟩,?_,λx1 w2=>⟨Sq17,Sq7,ζ,Sq7,Sq18,ζ,Sq7,Sq19,ζ,[.b 1005],[.s 5,.b 1005],ζ,[.s 5,.s 18,.b 1005],[.b 1005],ζ,Sq19,Sq6,ζ,?_⟩⟩
 all_goals first|refine aw ?_|refine ax ?_|exact bb|(dsimp only [kr,lW];omega)|exact ba|exact dM|exact cn|skip
 refine⟨[],[],_,_,_,ζ,aC,(),aa,?_,?_,ζ⟩
 ·(show _=ra A' id);unfold ra;first|rfl
 ·(show _=tE A' id);unfold tE;first|rfl
def ga (F:gd) (id:Int):Prop:=F.1.rd/\F.2.1.ok
def mQ (F:gd) (id:Int):AV:=.s (.vw aO (bU F.1 (bg F id)).1)
def ou (F:gd) (id:Int):List AV:=fsO F
def eG:cu where
 A:=[.b 0,.s .int]
 B:=[.a [.xb 1 ab,.xb 2 ag,.xb 3 ag,.int,.xb 4 ae,.int,.xb 5 ae,.bool,.int,.int,.int,.int,.int,.int,.int,.bool],.r ab,.r ag,.r ag,.r ae,.r ae]
 pre:=λx b=>fsW b/\ga (qh b) (x.2)
 r:=λx b _=>mQ (qh b) (x.2)
 o:=λx b _=>ou (qh b) (x.2)
 ro:=true
theorem lP:Has Tryz.prog 117 eG:=by
 refine Has.fP zT zF zF (l:=[(123,ef),(154,jy)]) ⟨kP,we,aa⟩ Tryz.func117 ?_
 rintro⟨_,(id:Int)⟩ ⟨⟨(Fm1:Nat),(Fm2:Nat),(Fm3:Nat),(aQ:Int),(Fm4:Nat),(a6:Int),(Fm5:Nat),(aZ:Bool),(aY:Int),(aX:Int),(aW:Int),(aV:Int),(aU:Int),(aS:Int),(aR:Int),(a7:Bool)⟩,(aI:List ByteArray),(aJ:List Int),(aK:List Int),(aM:List Pt),(aN:List Pt)⟩ ⟨⟨(kn:Fm1=List.length aI),(km:Fm2=List.length aJ),(kl:Fm3=List.length aK),(kk:Fm4=List.length aM),(kj:Fm5=List.length aN)⟩,(hp:ga ((aI,aJ,aK,aQ,aM,a6,aN,aZ),(aY,aX,aW,aV,aU,aS,aR),a7) id)⟩
 subst kn km kl kk kj
 show vc _ _ _ _ (entry [.s (.bp 0 0),.int id] [.a [.xs 1 1 0 aI.length,.xs 2 1 0 aJ.length,.xs 3 1 0 aK.length,.int aQ,.xs 4 5 0 aM.length,.int a6,.xs 5 5 0 aN.length,.q aZ,.int aY,.int aX,.int aW,.int aV,.int aU,.int aS,.int aR,.q a7],.rs ab aI,.rs ag aJ,.rs ag aK,.rs ae aM,.rs ae aN]) _
 let A':=((aI,aJ,aK,aQ,aM,a6,aN,aZ),(aY,aX,aW,aV,aU,aS,aR),a7)
 obtain⟨dM,cn⟩:=hp
 refine⟨Sq0,Sq8,ζ,Sq8,Sq9,ζ,Sq9,Sq10,ζ,[.s 10,.b 0],Sq11,ζ,Sq0,Sq12,ζ,Sq1,Sq13,ζ,[.s 12,.s 13,.b 0,.b 1,.b 2,.b 3,.b 4,.b 5],Sq14,ζ,⟨⟨tv3,⟨?_,?_,?_,?_,?_⟩,?_,?_⟩,λx1 w2=>?_⟩,?_,λx3 w4=>⟨[.s 11,.s 14,.b 1,.b 2,.b 3,.b 4,.b 5],Sq15,ζ,⟨⟨⟨⟨?_,?_⟩,⟨?_,?_⟩,⟨?_,?_⟩,aa,⟨?_,?_⟩,aa,⟨?_,?_⟩,tv2⟩,tv11,aa⟩,?_⟩,?_,λx5 w6=>⟨Sq15,Sq7,ζ,Sq7,Sq16,ζ,Sq7,Sq17,ζ,Sq16,Sq5,ζ,Sq17,Sq6,ζ,?_⟩⟩⟩
 all_goals first|refine aw ?_|refine ax ?_|exact bb|(dsimp only [ef,fT,jy,j7,qh];omega)|exact ba|exact dM|exact cn|exact⟨dM,cn⟩|exact λ_ _=>rfl|skip
 refine⟨[],[],_,_,_,ζ,aC,(),aa,?_,?_,ζ⟩
 ·(show _=mQ A' id);unfold mQ;first|rfl
 ·(show _=ou A' id);unfold ou;first|rfl
def iG (F:gd) (id:Int) (n:dN):Prop:=F.1.wg 1046000/\F.2.1.ok/\0<=id/\id<=15
def lr (F:gd) (id:Int) (n:dN):AV:=.t []
def np (F:gd) (id:Int) (n:dN):List AV:=fsP (oH F id n)
def fX:cu where
 A:=[.b 0,.s .int,.a [.int,.int,.int,.int,.int,.int,.int,.int,.int,.int]]
 B:=[.a [.xb 1 ab,.xb 2 ag,.xb 3 ag,.int,.xb 4 ae,.int,.xb 5 ae,.bool,.int,.int,.int,.int,.int,.int,.int,.bool],.r ab,.r ag,.r ag,.r ae,.r ae]
 pre:=λx b=>fsW b/\iG (qh b) (x.2.1) (x.2.2)
 r:=λx b _=>lr (qh b) (x.2.1) (x.2.2)
 o:=λx b _=>np (qh b) (x.2.1) (x.2.2)
 nf:=2
 mv:=true
def pM:Has Tryz.prog 118 fX:=by
 refine Has.ofZ zT zF zF (l:=[(27,yP)]) ⟨aau,aa⟩ Tryz.func118 ?_
 rintro⟨_,(id:Int),⟨(n1:Int),(n2:Int),(n3:Int),(n4:Int),(n5:Int),(n6:Int),(n7:Int),(n8:Int),(n9:Int),(cg:Int)⟩⟩ ⟨⟨(Fm1:Nat),(Fm2:Nat),(Fm3:Nat),(aQ:Int),(Fm4:Nat),(a6:Int),(Fm5:Nat),(aZ:Bool),(aY:Int),(aX:Int),(aW:Int),(aV:Int),(aU:Int),(aS:Int),(aR:Int),(a7:Bool)⟩,(aI:List ByteArray),(aJ:List Int),(aK:List Int),(aM:List Pt),(aN:List Pt)⟩ ⟨⟨(kn:Fm1=List.length aI),(km:Fm2=List.length aJ),(kl:Fm3=List.length aK),(kk:Fm4=List.length aM),(kj:Fm5=List.length aN)⟩,(hp:iG ((aI,aJ,aK,aQ,aM,a6,aN,aZ),(aY,aX,aW,aV,aU,aS,aR),a7) id (n1,n2,n3,n4,n5,n6,n7,n8,n9,cg))⟩
 subst kn km kl kk kj
 show vc _ _ _ _ (entry [.s (.bp 0 0),.int id,.a [.int n1,.int n2,.int n3,.int n4,.int n5,.int n6,.int n7,.int n8,.int n9,.int cg]] [.a [.xs 1 1 0 aI.length,.xs 2 1 0 aJ.length,.xs 3 1 0 aK.length,.int aQ,.xs 4 5 0 aM.length,.int a6,.xs 5 5 0 aN.length,.q aZ,.int aY,.int aX,.int aW,.int aV,.int aU,.int aS,.int aR,.q a7],.rs ab aI,.rs ag aJ,.rs ag aK,.rs ae aM,.rs ae aN]) _
 let A':=((aI,aJ,aK,aQ,aM,a6,aN,aZ),(aY,aX,aW,aV,aU,aS,aR),a7)
 let B':=(n1,n2,n3,n4,n5,n6,n7,n8,n9,cg)
 obtain⟨lf,cn,hi0,lQ⟩:=hp
 refine⟨λw1=>?_,λw2=>⟨Sq0,Sq14,ζ,Sq14,Sq15,ζ,Sq15,Sq16,ζ,[.s 16,.b 0],Sq17,ζ,Sq0,Sq18,ζ,Sq18,Sq19,ζ,Sq19,Sq20,ζ,[.s 20,.b 0],Sq21,ζ,Sq1,Sq22,ζ,[.s 5,.b 1005],Sq23,ζ,[.s 17,.s 21,.s 22,.s 23,.b 1,.b 2,.b 3,.b 4,.b 5,.b 1000250001,.b 1000250000],[.s 24,.b 1,.b 2,.b 3,.b 4,.b 5,.b 1000250000,.b 1000250001],ζ,⟨⟨tv9,tv8,aa,tv11,aa⟩,⟨?_,?_,?_,?_,?_⟩,?_,?_,?_,?_⟩,?_,λx3 w4=>⟨Sq24,Sq13,ζ,Sq13,Sq25,ζ,Sq13,Sq26,ζ,Sq13,Sq27,ζ,[.b 1006],[.s 6,.b 1006],ζ,[.b 1007],[.s 7,.b 1007],ζ,[.s 6,.s 25,.b 1006],[.b 1006],ζ,[.s 7,.s 26,.b 1007],[.b 1007],ζ,Sq27,Sq8,ζ,?_⟩⟩⟩
 all_goals first|refine aw ?_|refine ax ?_|exact bb|(dsimp only [yP,vL,iE];omega)|exact ba|exact lf|exact cn|skip
 ·refine⟨[4,5],[],_,_,_,ζ,aC,(),0,aa,?_,?_,ζ⟩
  ·(show _=lr A' id B');unfold lr;first|(rw [WU (F:=A') w1];rfl)|rfl
  ·(show _=np A' id B');unfold np;first|(rw [WU (F:=A') w1];rfl)|rfl
 ·refine⟨[1000250000,1000250001],[],_,_,_,ζ,aC,(),0,aa,?_,?_,ζ⟩
  ·(show _=lr A' id B');unfold lr;first|(rw [WS (F:=A') w2];rfl)|rfl
  ·(show _=np A' id B');unfold np;first|(rw [WS (F:=A') w2];rfl)|rfl
def jG (F:gd) (path:ByteArray):Prop:=F.1.rd/\F.2.1.ok/\path.size<=1000000
def eD (F:gd) (path:ByteArray):AV:=.t [.s (.int (eC F path).1),.s (.int (eC F path).2)]
def eY (F:gd) (path:ByteArray):List AV:=fsO F
def iK:cu where
 A:=[.b 0,.s .str]
 B:=[.a [.xb 1 ab,.xb 2 ag,.xb 3 ag,.int,.xb 4 ae,.int,.xb 5 ae,.bool,.int,.int,.int,.int,.int,.int,.int,.bool],.r ab,.r ag,.r ag,.r ae,.r ae]
 pre:=λx b=>fsW b/\jG (qh b) (x.2)
 r:=λx b _=>eD (qh b) (x.2)
 o:=λx b _=>eY (qh b) (x.2)
 ro:=true
theorem tI:Has Tryz.prog 124 iK:=by
 refine Has.fP zT zF zF (l:=[(131,fB),(157,uR),(123,ef)]) ⟨oz,SG,kP,aa⟩ Tryz.func124 ?_
 rintro⟨_,(path:ByteArray)⟩ ⟨⟨(Fm1:Nat),(Fm2:Nat),(Fm3:Nat),(aQ:Int),(Fm4:Nat),(a6:Int),(Fm5:Nat),(aZ:Bool),(aY:Int),(aX:Int),(aW:Int),(aV:Int),(aU:Int),(aS:Int),(aR:Int),(a7:Bool)⟩,(aI:List ByteArray),(aJ:List Int),(aK:List Int),(aM:List Pt),(aN:List Pt)⟩ ⟨⟨(kn:Fm1=List.length aI),(km:Fm2=List.length aJ),(kl:Fm3=List.length aK),(kk:Fm4=List.length aM),(kj:Fm5=List.length aN)⟩,(hp:jG ((aI,aJ,aK,aQ,aM,a6,aN,aZ),(aY,aX,aW,aV,aU,aS,aR),a7) path)⟩
 subst kn km kl kk kj
 show vc _ _ _ _ (entry [.s (.bp 0 0),.str path] [.a [.xs 1 1 0 aI.length,.xs 2 1 0 aJ.length,.xs 3 1 0 aK.length,.int aQ,.xs 4 5 0 aM.length,.int a6,.xs 5 5 0 aN.length,.q aZ,.int aY,.int aX,.int aW,.int aV,.int aU,.int aS,.int aR,.q a7],.rs ab aI,.rs ag aJ,.rs ag aK,.rs ae aM,.rs ae aN]) _
 let A':=((aI,aJ,aK,aQ,aM,a6,aN,aZ),(aY,aX,aW,aV,aU,aS,aR),a7)
 obtain⟨dM,cn,hps⟩:=hp
 have hnl:=rU (s:=path)
 have hln:(pN path).length<=1000000:=by rw [ZB6];omega
 refine⟨⟨tv2,?_⟩,λx1 w2=>⟨λw3=>?_,λw4=>⟨Sq0,Sq13,ζ,Sq13,Sq14,ζ,Sq14,Sq15,ζ,[.s 15,.b 0],Sq16,ζ,Sq0,Sq17,ζ,Sq17,Sq18,ζ,Sq18,Sq19,ζ,[.s 19,.b 0],Sq20,ζ,Sq6,Sq21,ζ,Sq6,Sq22,ζ,Sq22,Sq23,ζ,Sq23,Sq24,ζ,⟨?_,?_⟩,[.s 21,.s 24],Sq25,ζ,⟨?_,?_,?_⟩,[.s 16,.s 20,.s 25,.b 1,.b 2,.b 3,.b 4,.b 5],Sq26,ζ,⟨⟨⟨⟨?_,?_⟩,⟨?_,?_⟩,⟨?_,?_⟩,aa,⟨?_,?_⟩,aa,⟨?_,?_⟩,tv2⟩,tv8,tv2⟩,?_,?_,?_⟩,?_,λx5 w6=>⟨Sq26,Sq7,ζ,λw7=>?_,λw8=>⟨⟨⟨tv3,⟨?_,?_,?_,?_,?_⟩,?_,?_⟩,λx9 dB=>?_⟩,λlJ dW=>⟨λiL=>?_,λgY=>?_⟩⟩⟩⟩⟩⟩
 all_goals first|refine aw ?_|refine ax ?_|exact bb|(dsimp only [fB,gq,uR,sP,ef,fT,qh];omega)|exact ba|exact dM|exact cn|exact⟨dM,cn⟩|exact λ_ _=>rfl|skip
 ·have e:eC A' path=(0,3):=by unfold eC;rw [w3];rfl
  refine⟨[],[],_,_,_,ζ,aC,(),aa,?_,?_,ζ⟩
  ·(show _=eD A' path);unfold eD;first|(rw [e];rfl)|rfl
  ·(show _=eY A' path);unfold eY;first|(rw [e];rfl)|rfl
 ·exact hln
 ·have e:eC A' path=(0,2):=by unfold eC plE;rw [w4,show decide (xl A'.1 A'.2.1 (pN path)<0)=true from w7];rfl
  refine⟨[],[],_,_,_,ζ,aC,(),aa,?_,?_,ζ⟩
  ·(show _=eD A' path);unfold eD;first|(rw [e];rfl)|rfl
  ·(show _=eY A' path);unfold eY;first|(rw [e];rfl)|rfl
 ·have e:eC A' path=(0,4):=by unfold eC plE;rw [w4,show decide (xl A'.1 A'.2.1 (pN path)<0)=false from w8,show decide ((bg A' (xl A'.1 A'.2.1 (pN path))).1≠2)=true from iL];rfl
  refine⟨[],[],_,_,_,ζ,aC,(),aa,?_,?_,ζ⟩
  ·(show _=eD A' path);unfold eD;first|(rw [e];rfl)|rfl
  ·(show _=eY A' path);unfold eY;first|(rw [e];rfl)|rfl
 ·have e:eC A' path=(xl A'.1 A'.2.1 (pN path),0):=by unfold eC plE;rw [w4,show decide (xl A'.1 A'.2.1 (pN path)<0)=false from w8,show decide ((bg A' (xl A'.1 A'.2.1 (pN path))).1≠2)=false from gY];rfl
  refine⟨[],[],_,_,_,ζ,aC,(),aa,?_,?_,ζ⟩
  ·(show _=eD A' path);unfold eD;first|(rw [e];rfl)|rfl
  ·(show _=eY A' path);unfold eY;first|(rw [e];rfl)|rfl
def gK (F:gd) (path:ByteArray):Prop:=F.1.rd/\F.2.1.ok/\path.size<=1000000
def re (F:gd) (path:ByteArray):AV:=.s (.int (bG F path))
def tF (F:gd) (path:ByteArray):List AV:=fsO F
def fc:cu where
 A:=[.b 0,.s .str]
 B:=[.a [.xb 1 ab,.xb 2 ag,.xb 3 ag,.int,.xb 4 ae,.int,.xb 5 ae,.bool,.int,.int,.int,.int,.int,.int,.int,.bool],.r ab,.r ag,.r ag,.r ae,.r ae]
 pre:=λx b=>fsW b/\gK (qh b) (x.2)
 r:=λx b _=>re (qh b) (x.2)
 o:=λx b _=>tF (qh b) (x.2)
 ro:=true
def nt:Has Tryz.prog 122 fc:=by
 refine Has.fP zT zF zF (l:=[(131,fB),(157,uR)]) ⟨oz,SG,aa⟩ Tryz.func122 ?_
 rintro⟨_,(path:ByteArray)⟩ ⟨⟨(Fm1:Nat),(Fm2:Nat),(Fm3:Nat),(aQ:Int),(Fm4:Nat),(a6:Int),(Fm5:Nat),(aZ:Bool),(aY:Int),(aX:Int),(aW:Int),(aV:Int),(aU:Int),(aS:Int),(aR:Int),(a7:Bool)⟩,(aI:List ByteArray),(aJ:List Int),(aK:List Int),(aM:List Pt),(aN:List Pt)⟩ ⟨⟨(kn:Fm1=List.length aI),(km:Fm2=List.length aJ),(kl:Fm3=List.length aK),(kk:Fm4=List.length aM),(kj:Fm5=List.length aN)⟩,(hp:gK ((aI,aJ,aK,aQ,aM,a6,aN,aZ),(aY,aX,aW,aV,aU,aS,aR),a7) path)⟩
 subst kn km kl kk kj
 show vc _ _ _ _ (entry [.s (.bp 0 0),.str path] [.a [.xs 1 1 0 aI.length,.xs 2 1 0 aJ.length,.xs 3 1 0 aK.length,.int aQ,.xs 4 5 0 aM.length,.int a6,.xs 5 5 0 aN.length,.q aZ,.int aY,.int aX,.int aW,.int aV,.int aU,.int aS,.int aR,.q a7],.rs ab aI,.rs ag aJ,.rs ag aK,.rs ae aM,.rs ae aN]) _
 let A':=((aI,aJ,aK,aQ,aM,a6,aN,aZ),(aY,aX,aW,aV,aU,aS,aR),a7)
 obtain⟨dM,cn,hps⟩:=hp
 have hnl:=rU (s:=path)
 refine⟨Sq0,Sq5,ζ,Sq5,Sq6,ζ,Sq6,Sq7,ζ,[.s 7,.b 0],Sq8,ζ,Sq0,Sq9,ζ,Sq9,Sq10,ζ,Sq10,Sq11,ζ,[.s 11,.b 0],Sq12,ζ,Sq1,Sq13,ζ,Sq13,Sq14,ζ,⟨tv2,?_⟩,?_,λx1 w2=>⟨[.s 8,.s 12,.s 14,.b 1,.b 2,.b 3,.b 4,.b 5],Sq15,ζ,⟨⟨⟨⟨?_,?_⟩,⟨?_,?_⟩,⟨?_,?_⟩,aa,⟨?_,?_⟩,aa,⟨?_,?_⟩,tv2⟩,tv8,tv2⟩,?_,?_,?_⟩,?_,λx3 w4=>⟨Sq15,Sq4,ζ,?_⟩⟩⟩
 all_goals first|refine aw ?_|refine ax ?_|exact bb|(dsimp only [fB,gq,uR,sP];omega)|exact ba|exact dM|exact cn|exact ZA9 hnl hps|skip
 refine⟨[],[],_,_,_,ζ,aC,(),aa,?_,?_,ζ⟩
 ·(show _=re A' path);unfold re;first|rfl
 ·(show _=tF A' path);unfold tF;first|rfl
def lM (F:gd) (path:ByteArray):Prop:=F.1.rd/\F.2.1.ok/\path.size<=1000000
def gh (F:gd) (path:ByteArray):AV:=.t [.s (.int (dU F path).1),.s (.int (dU F path).2)]
def gL (F:gd) (path:ByteArray):List AV:=fsO F
def lE:cu where
 A:=[.b 0,.s .str]
 B:=[.a [.xb 1 ab,.xb 2 ag,.xb 3 ag,.int,.xb 4 ae,.int,.xb 5 ae,.bool,.int,.int,.int,.int,.int,.int,.int,.bool],.r ab,.r ag,.r ag,.r ae,.r ae]
 pre:=λx b=>fsW b/\lM (qh b) (x.2)
 r:=λx b _=>gh (qh b) (x.2)
 o:=λx b _=>gL (qh b) (x.2)
 ro:=true
theorem AF:Has Tryz.prog 115 lE:=by
 refine Has.fP zT zF zF (l:=[(124,iK),(122,fc)]) ⟨tI,nt,aa⟩ Tryz.func115 ?_
 rintro⟨_,(path:ByteArray)⟩ ⟨⟨(Fm1:Nat),(Fm2:Nat),(Fm3:Nat),(aQ:Int),(Fm4:Nat),(a6:Int),(Fm5:Nat),(aZ:Bool),(aY:Int),(aX:Int),(aW:Int),(aV:Int),(aU:Int),(aS:Int),(aR:Int),(a7:Bool)⟩,(aI:List ByteArray),(aJ:List Int),(aK:List Int),(aM:List Pt),(aN:List Pt)⟩ ⟨⟨(kn:Fm1=List.length aI),(km:Fm2=List.length aJ),(kl:Fm3=List.length aK),(kk:Fm4=List.length aM),(kj:Fm5=List.length aN)⟩,(hp:lM ((aI,aJ,aK,aQ,aM,a6,aN,aZ),(aY,aX,aW,aV,aU,aS,aR),a7) path)⟩
 subst kn km kl kk kj
 show vc _ _ _ _ (entry [.s (.bp 0 0),.str path] [.a [.xs 1 1 0 aI.length,.xs 2 1 0 aJ.length,.xs 3 1 0 aK.length,.int aQ,.xs 4 5 0 aM.length,.int a6,.xs 5 5 0 aN.length,.q aZ,.int aY,.int aX,.int aW,.int aV,.int aU,.int aS,.int aR,.q a7],.rs ab aI,.rs ag aJ,.rs ag aK,.rs ae aM,.rs ae aN]) _
 let A':=((aI,aJ,aK,aQ,aM,a6,aN,aZ),(aY,aX,aW,aV,aU,aS,aR),a7)
 obtain⟨dM,cn,hps⟩:=hp
 refine⟨⟨⟨tv3,⟨?_,?_,?_,?_,?_⟩,?_,?_,?_⟩,λx1 w2=>?_⟩,λx3 w4=>⟨λw5=>?_,λw6=>⟨⟨⟨tv3,⟨?_,?_,?_,?_,?_⟩,?_,?_,?_⟩,λx7 w8=>?_⟩,λx9 dB=>⟨λiP=>?_,λdW=>?_⟩⟩⟩⟩
 all_goals first|refine aw ?_|refine ax ?_|exact bb|(dsimp only [iK,jG,fc,gK,qh];omega)|exact ba|exact dM|exact cn|exact⟨dM,cn,hps⟩|exact λ_ _=>rfl|skip
 ·have e:dU A' path=(0,(eC A' path).2):=by unfold dU;rw [show decide ((eC A' path).2>0)=true from w5];rfl
  refine⟨[],[],_,_,_,ζ,aC,(),aa,?_,?_,ζ⟩
  ·(show _=gh A' path);unfold gh;first|(rw [e];rfl)|rfl
  ·(show _=gL A' path);unfold gL;first|(rw [e];rfl)|rfl
 ·have e:dU A' path=(0,3):=by unfold dU;rw [show decide ((eC A' path).2>0)=false from w6,show decide (bG A' path>=0)=true from iP];rfl
  refine⟨[],[],_,_,_,ζ,aC,(),aa,?_,?_,ζ⟩
  ·(show _=gh A' path);unfold gh;first|(rw [e];rfl)|rfl
  ·(show _=gL A' path);unfold gL;first|(rw [e];rfl)|rfl
 ·have e:dU A' path=((eC A' path).1,0):=by unfold dU;rw [show decide ((eC A' path).2>0)=false from w6,show decide (bG A' path>=0)=false from dW];rfl
  refine⟨[],[],_,_,_,ζ,aC,(),aa,?_,?_,ζ⟩
  ·(show _=gh A' path);unfold gh;first|(rw [e];rfl)|rfl
  ·(show _=gL A' path);unfold gL;first|(rw [e];rfl)|rfl
end GL
namespace GL
attribute [local irreducible] eg cW eS oH aP aB
def ik (F:gd) (id:Int) (l:List fO):Prop:=F.1.wg 1040000/\F.2.1.ok/\(0<=id/\id<=15)/\QK l
def jE (F:gd) (id:Int) (l:List fO):AV:=.t []
def kg (F:gd) (id:Int) (l:List fO):List AV:=fsP (cC F id l)
def fN:cu where
 A:=[.b 0,.s .int,.s (.vz aO)]
 B:=[.a [.xb 1 ab,.xb 2 ag,.xb 3 ag,.int,.xb 4 ae,.int,.xb 5 ae,.bool,.int,.int,.int,.int,.int,.int,.int,.bool],.r ab,.r ag,.r ag,.r ae,.r ae]
 pre:=λx b=>fsW b/\ik (qh b) (x.2.1) (x.2.2)
 r:=λx b _=>jE (qh b) (x.2.1) (x.2.2)
 o:=λx b _=>kg (qh b) (x.2.1) (x.2.2)
 nf:=2
 mv:=true
theorem o0:Has Tryz.prog 119 fN:=by
 refine Has.ofZ zT zF zF (l:=[(123,ef),(155,sf),(156,WX),(118,fX)]) ⟨kP,OE,alo,pM,aa⟩ Tryz.func119 ?_
 rintro⟨_,(id:Int),(l:List fO)⟩ ⟨⟨(Fm1:Nat),(Fm2:Nat),(Fm3:Nat),(aQ:Int),(Fm4:Nat),(a6:Int),(Fm5:Nat),(aZ:Bool),(aY:Int),(aX:Int),(aW:Int),(aV:Int),(aU:Int),(aS:Int),(aR:Int),(a7:Bool)⟩,(aI:List ByteArray),(aJ:List Int),(aK:List Int),(aM:List Pt),(aN:List Pt)⟩ ⟨⟨(kn:Fm1=List.length aI),(km:Fm2=List.length aJ),(kl:Fm3=List.length aK),(kk:Fm4=List.length aM),(kj:Fm5=List.length aN)⟩,(hp:ik ((aI,aJ,aK,aQ,aM,a6,aN,aZ),(aY,aX,aW,aV,aU,aS,aR),a7) id l)⟩
 subst kn km kl kk kj
 show vc _ _ _ _ (entry [.s (.bp 0 0),.int id,.s (.vz aO l)] [.a [.xs 1 1 0 aI.length,.xs 2 1 0 aJ.length,.xs 3 1 0 aK.length,.int aQ,.xs 4 5 0 aM.length,.int a6,.xs 5 5 0 aN.length,.q aZ,.int aY,.int aX,.int aW,.int aV,.int aU,.int aS,.int aR,.q a7],.rs ab aI,.rs ag aJ,.rs ag aK,.rs ae aM,.rs ae aN]) _
 let A':=((aI,aJ,aK,aQ,aM,a6,aN,aZ),(aY,aX,aW,aV,aU,aS,aR),a7)
 obtain⟨lf,cn,⟨hi0,lQ⟩,hl⟩:=hp
 have hl:QK l:=hl
 have lf:ay.wg A'.1 1040000:=lf
 have cn:bf.ok A'.2.1:=cn
 have hbo:=abd (text:=eS l) lf (qK A'.1 A'.2.1 id)
 refine⟨λw1=>?_,λw2=>⟨⟨⟨tv3,⟨?_,?_,?_,?_,?_⟩,?_,?_⟩,λx3 w4=>?_⟩,λx5 w6=>⟨⟨tv2,?_⟩,λx7 w8=>⟨Sq0,Sq21,ζ,Sq21,Sq22,ζ,Sq22,Sq23,ζ,[.s 23,.b 0],Sq24,ζ,Sq6,Sq25,ζ,[.s 25,.b 1006],Sq26,ζ,Sq7,Sq27,ζ,[.s 24,.s 26,.s 27,.b 1,.b 2,.b 3,.b 4,.b 5,.b 1000290001,.b 1000290000],[.s 28,.b 1,.b 2,.b 3,.b 4,.b 5,.b 1000290000,.b 1000290001],ζ,⟨⟨tv9,tv8,tv2⟩,⟨?_,?_,?_,?_,?_⟩,?_,?_,?_⟩,?_,λx9 dB=>⟨Sq28,Sq20,ζ,Sq20,Sq29,ζ,Sq20,Sq30,ζ,Sq20,Sq31,ζ,[.b 1008],[.s 8,.b 1008],ζ,[.b 1009],[.s 9,.b 1009],ζ,[.s 8,.s 29,.b 1008],[.b 1008],ζ,[.s 9,.s 30,.b 1009],[.b 1009],ζ,Sq31,Sq10,ζ,⟨⟨aa,aa,tv11,aa⟩,⟨?_,?_,?_,?_,?_⟩,?_,?_,?_,?_⟩,λlJ dW=>?_⟩⟩⟩⟩⟩
 all_goals first|refine aw ?_|refine ax ?_|exact bb|(dsimp only [ef,fT,sf,rE,WX,G1,fX,iG,iE,qh];omega)|exact ba|exact lf.wf.rd|exact cn|exact⟨lf.wf.rd,cn⟩|exact λ_ _=>rfl|exact hl.p|exact qK _ _ _|exact hl.size|skip
 ·refine⟨[4,5],[],_,_,_,ζ,aC,(),0,aa,?_,?_,ζ⟩
  ·(show _=jE A' id l);unfold jE;first|(rw [PD (F:=A') w1];rfl)|rfl
  ·(show _=kg A' id l);unfold kg;first|(rw [PD (F:=A') w1];rfl)|rfl
 ·exact lf.mono (by decide)
 ·exact hbo.1.mono (by decide)
 ·refine⟨[1000500000,1000500001],[],_,_,_,ζ,aC,(),0,aa,?_,?_,ζ⟩
  ·(show _=jE A' id l);unfold jE;first|(exact Eq.trans rfl (congrArg fsP (PC (F:=A') (id:=id) (l:=l) w2).symm))|rfl
  ·(show _=kg A' id l);unfold kg;first|(exact Eq.trans rfl (congrArg fsP (PC (F:=A') (id:=id) (l:=l) w2).symm))|rfl
end GL
namespace GL
attribute [local irreducible] eg cW bU oH aP aB cC dU eC bG xl z1 sI bH
def rB (F:gd) (path:ByteArray) (kind:Int):Prop:=dF F 1000000/\F.2.2=false/\path.size<=1000
def MU (F:gd) (path:ByteArray) (kind:Int) (z:gd×Int):Prop:=∀n,dF F n->dF z.1 (n+300)
def L9 (F:gd) (path:ByteArray) (kind:Int) (z:gd×Int):AV:=.s (.int z.2)
def QQ (F:gd) (path:ByteArray) (kind:Int) (z:gd×Int):List AV:=fsP z.1
def wE:cu where
 A:=[.b 0,.s .str,.s .int]
 B:=[.a [.xb 1 ab,.xb 2 ag,.xb 3 ag,.int,.xb 4 ae,.int,.xb 5 ae,.bool,.int,.int,.int,.int,.int,.int,.int,.bool],.r ab,.r ag,.r ag,.r ae,.r ae]
 pre:=λx b=>fsW b/\rB (qh b) (x.2.1) (x.2.2)
 α:=λ_ _=>gd×Int
 φ:=λx b z=>MU (qh b) (x.2.1) (x.2.2) z
 r:=λx b z=>L9 (qh b) (x.2.1) (x.2.2) z
 o:=λx b z=>QQ (qh b) (x.2.1) (x.2.2) z
 nf:=2
 mv:=true
theorem V3:Has Tryz.prog 76 wE:=by
 refine Has.ofZ zT zF zF (l:=[(115,lE),(116,IJ),(117,eG),(118,fX),(121,kY),(120,si),(119,fN)]) ⟨AF,agy,lP,pM,zL,OF,o0,aa⟩ Tryz.func76 ?_
 rintro⟨_,(path:ByteArray),(kind:Int)⟩ ⟨⟨(Fm1:Nat),(Fm2:Nat),(Fm3:Nat),(aQ:Int),(Fm4:Nat),(a6:Int),(Fm5:Nat),(aZ:Bool),(aY:Int),(aX:Int),(aW:Int),(aV:Int),(aU:Int),(aS:Int),(aR:Int),(a7:Bool)⟩,(aI:List ByteArray),(aJ:List Int),(aK:List Int),(aM:List Pt),(aN:List Pt)⟩ ⟨⟨(kn:Fm1=List.length aI),(km:Fm2=List.length aJ),(kl:Fm3=List.length aK),(kk:Fm4=List.length aM),(kj:Fm5=List.length aN)⟩,(hp:rB ((aI,aJ,aK,aQ,aM,a6,aN,aZ),(aY,aX,aW,aV,aU,aS,aR),a7) path kind)⟩
 subst kn km kl kk kj
 show vc _ _ _ _ (entry [.s (.bp 0 0),.str path,.int kind] [.a [.xs 1 1 0 aI.length,.xs 2 1 0 aJ.length,.xs 3 1 0 aK.length,.int aQ,.xs 4 5 0 aM.length,.int a6,.xs 5 5 0 aN.length,.q aZ,.int aY,.int aX,.int aW,.int aV,.int aU,.int aS,.int aR,.q a7],.rs ab aI,.rs ag aJ,.rs ag aK,.rs ae aM,.rs ae aN]) _
 let A':=((aI,aJ,aK,aQ,aM,a6,aN,aZ),(aY,aX,aW,aV,aU,aS,aR),a7)
 obtain⟨hF,hfu,hps⟩:=hp
 have hF:dF A' 1000000:=hF
 have dM:ay.rd A'.1:=hF.wg.wf.rd
 have cn:bf.ok A'.2.1:=hF.ok
 have hp6:path.size<=1000000:=ZA9 hps (by decide)
 have h0:decide (z1 A'.1 A'.2.1<0)=false->0<=z1 A'.1 A'.2.1:=λh=>ZH9.1 (aD h)
 have AI:decide (z1 A'.1 A'.2.1<0)=false->z1 A'.1 A'.2.1<=15:=λh=>hF.free hfu (h0 h)
 have jV:decide ((dU A' path).2>0)=false->1<=(bH path).length/\0<=(dU A' path).1/\(dU A' path).1<=15:=S4
 have hen:∀nd,(bU A'.1 nd).1.length<=1000:=λnd=>ZA9 (r9 _ nd).len (by decide)
 have hmk:decide (z1 A'.1 A'.2.1<0)=false->dF (oH A' (z1 A'.1 A'.2.1) (kind,1,0,qS)) 1000006:=λh=>hF.make hfu (h0 h)
 have hew:decide ((dU A' path).2>0)=false->decide (z1 A'.1 A'.2.1<0)=false->QK (sI (bU A'.1 (bg A' (dU A' path).1)).1 (et path,z1 A'.1 A'.2.1)):=λh h2=>(r9 _ _).add (ZA9 (QA (jV h).1) hps) ⟨h0 h2,ZE9 (AI h2) (by decide)⟩
 refine⟨⟨⟨tv3,⟨?_,?_,?_,?_,?_⟩,?_,?_,?_⟩,λx1 w2=>?_⟩,λx3 w4=>⟨λw5=>?_,λw6=>⟨Sq0,Sq20,ζ,Sq20,Sq21,ζ,Sq21,Sq22,ζ,[.s 22,.b 0],Sq23,ζ,Sq0,Sq24,ζ,Sq24,Sq25,ζ,Sq25,Sq26,ζ,[.s 26,.b 0],Sq27,ζ,[.s 23,.s 27,.b 1,.b 2,.b 3,.b 4,.b 5],Sq28,ζ,⟨⟨⟨⟨?_,?_⟩,⟨?_,?_⟩,⟨?_,?_⟩,aa,⟨?_,?_⟩,aa,⟨?_,?_⟩,tv2⟩,tv8,aa⟩,?_,?_⟩,?_,λx7 w8=>⟨Sq28,Sq9,ζ,⟨⟨tv3,⟨?_,?_,?_,?_,?_⟩,?_,?_⟩,λx9 dB=>?_⟩,λlJ dW=>⟨aa,λiL=>?_,λgY=>⟨λnG=>?_,λkC=>⟨⟨⟨aa,aa,tv11,aa⟩,⟨?_,?_,?_,?_,?_⟩,?_,?_,?_,?_⟩,λx17 qU=>⟨⟨tv2,?_,?_⟩,λx19 tl=>⟨⟨⟨aa,tv3,aa⟩,?_⟩,λx21 DB=>⟨⟨⟨aa,aa,⟨?_,?_⟩,aa⟩,⟨?_,?_,?_,?_,?_⟩,?_,?_,⟨?_,?_⟩,?_⟩,λx23 tZ=>?_⟩⟩⟩⟩⟩⟩⟩⟩⟩⟩
 all_goals first|refine aw ?_|refine ax ?_|exact bb|(dsimp only [lE,lM,IJ,xV,eG,ga,fX,iG,kY,my,si,rF,fN,ik,qh];omega)|exact ba|exact dM|exact cn|exact hp6|exact⟨dM,cn⟩|exact⟨dM,cn,hp6⟩|exact λ_ _=>rfl|exact hF.wg.mono (by decide)|exact h0 gY|exact AI gY|exact (jV w6).1|exact (jV w6).2.1|exact (jV w6).2.2|exact hen _|exact (hmk gY).wg.mono (by decide)|exact (hmk gY).ok|exact hew w6 gY|skip
 ·refine⟨[4,5],[],_,_,_,ζ,bZ,(A',(dU A' path).2),0,λn h=>h.mono (by omega),ζ,ζ,ζ⟩
 ·refine⟨[4,5],[],_,_,_,ζ,bZ,(A',6),0,λn h=>h.mono (by omega),ζ,ζ,ζ⟩
 ·refine⟨[4,5],[],_,_,_,ζ,bZ,(A',6),0,λn h=>h.mono (by omega),ζ,ζ,ζ⟩
 ·refine⟨[1000530000,1000530001],[],_,_,_,ζ,bZ,(cC (oH A' (z1 A'.1 A'.2.1) (kind,1,0,qS)) (dU A' path).1 (sI (bU A'.1 (bg A' (dU A' path).1)).1 (et path,z1 A'.1 A'.2.1)),0),0,λn h=>((h.make (kind:=kind) hfu (h0 gY)).vf (jV w6).2.1 (jV w6).2.2).1.mono (by omega),ζ,ζ,ζ⟩
end GL
namespace GL
attribute [local irreducible] eg cW bU oH aP aB cC dU eC bG xl z1 sI bH pb jW cG eZ mI
def oj (F:gd) (o:Opr):Prop:=dF F 1000000/\F.2.2=false/\o.2.1.size<=1000/\0<=o.2.2.2.1/\o.2.2.2.1<=192/\o.2.2.2.2.size<=1000
def G6 (F:gd) (o:Opr) (z:gd×Int):Prop:=∀n,dF F n->dF z.1 (n+300)
def GD (F:gd) (o:Opr) (z:gd×Int):AV:=.s (.int z.2)
def J1 (F:gd) (o:Opr) (z:gd×Int):List AV:=fsP z.1
def se:cu where
 A:=[.b 0,.a [.int,.str,.str,.int,.str]]
 B:=[.a [.xb 1 ab,.xb 2 ag,.xb 3 ag,.int,.xb 4 ae,.int,.xb 5 ae,.bool,.int,.int,.int,.int,.int,.int,.int,.bool],.r ab,.r ag,.r ag,.r ae,.r ae]
 pre:=λx b=>fsW b/\oj (qh b) (x.2)
 α:=λ_ _=>gd×Int
 φ:=λx b z=>G6 (qh b) (x.2) z
 r:=λx b z=>GD (qh b) (x.2) z
 o:=λx b z=>J1 (qh b) (x.2) z
 nf:=2
 mv:=true
theorem OD:Has Tryz.prog 80 se:=by
 refine Has.ofZ zT zF zF (l:=[(122,fc),(123,ef),(129,CS),(130,PZ),(118,fX)]) ⟨nt,kP,acN,ai6,pM,aa⟩ Tryz.func80 ?_
 rintro⟨_,⟨(o1:Int),(o2:ByteArray),(o3:ByteArray),(o4:Int),(o5:ByteArray)⟩⟩ ⟨⟨(Fm1:Nat),(Fm2:Nat),(Fm3:Nat),(aQ:Int),(Fm4:Nat),(a6:Int),(Fm5:Nat),(aZ:Bool),(aY:Int),(aX:Int),(aW:Int),(aV:Int),(aU:Int),(aS:Int),(aR:Int),(a7:Bool)⟩,(aI:List ByteArray),(aJ:List Int),(aK:List Int),(aM:List Pt),(aN:List Pt)⟩ ⟨⟨(kn:Fm1=List.length aI),(km:Fm2=List.length aJ),(kl:Fm3=List.length aK),(kk:Fm4=List.length aM),(kj:Fm5=List.length aN)⟩,(hp:oj ((aI,aJ,aK,aQ,aM,a6,aN,aZ),(aY,aX,aW,aV,aU,aS,aR),a7) (o1,o2,o3,o4,o5))⟩
 subst kn km kl kk kj
 show vc _ _ _ _ (entry [.s (.bp 0 0),.a [.int o1,.str o2,.str o3,.int o4,.str o5]] [.a [.xs 1 1 0 aI.length,.xs 2 1 0 aJ.length,.xs 3 1 0 aK.length,.int aQ,.xs 4 5 0 aM.length,.int a6,.xs 5 5 0 aN.length,.q aZ,.int aY,.int aX,.int aW,.int aV,.int aU,.int aS,.int aR,.q a7],.rs ab aI,.rs ag aJ,.rs ag aK,.rs ae aM,.rs ae aN]) _
 let A':=((aI,aJ,aK,aQ,aM,a6,aN,aZ),(aY,aX,aW,aV,aU,aS,aR),a7)
 obtain⟨hF,hfu,hps,ha0,ha1,htx⟩:=hp
 have hF:dF A' 1000000:=hF
 have dM:ay.rd A'.1:=hF.wg.wf.rd
 have cn:bf.ok A'.2.1:=hF.ok
 have hp6:o2.size<=1000000:=ZA9 hps (by decide)
 have h0:decide (bG A' o2<0)=false->0<=bG A' o2:=λh=>ZH9.1 (aD h)
 have AI:bG A' o2<=15:=(DL _ _).2
 have hk1:decide ((bg A' (bG A' o2)).1≠1)=false->(bg A' (bG A' o2)).1=1:=λh=>ZE6.1 (aD h)
 have tV:decide (bG A' o2<0)=false->decide ((bg A' (bG A' o2)).1≠1)=false->cx (bg A' (bG A' o2))=true:=λh h2=>(hF.file hfu (h0 h) AI (hk1 h2)).2
 have hw:=λh h2 (h3:o4+o5.size<=192)=>hF.iL (text:=o5) hfu (h0 h) AI (hk1 h2) ha0 h3
 have hc:=λh h2=>hF.c13 hfu (h0 h) AI (hk1 h2) ha0 ha1
 have anO:decide (o4+(o5.size:Int)>192)=false->o4+(o5.size:Int)<=192:=λh=>ZH9.1 (aD h)
 refine⟨⟨⟨tv3,⟨?_,?_,?_,?_,?_⟩,?_,?_,?_⟩,λx1 w2=>?_⟩,λx3 w4=>⟨λw5=>?_,λw6=>⟨⟨⟨tv3,⟨?_,?_,?_,?_,?_⟩,?_,?_⟩,λx7 w8=>?_⟩,λx9 dB=>⟨λiP=>?_,λdW=>⟨⟨?_,?_⟩,λiL=>?_,λgY=>⟨λnG=>⟨Sq0,Sq31,ζ,Sq0,Sq32,ζ,Sq32,Sq33,ζ,Sq33,Sq34,ζ,[.s 34,.b 0],Sq35,ζ,[.s 6,.b 1006],Sq36,ζ,Sq3,Sq37,ζ,[.s 37,.b 1003],Sq38,ζ,Sq3,Sq39,ζ,[.s 39,.b 1003],Sq40,ζ,[.s 35,.s 36,.s 38,.s 40,.b 1,.b 2,.b 3,.b 4,.b 5,.b 1000420001,.b 1000420000],[.s 41,.b 1,.b 2,.b 3,.b 4,.b 5,.b 1000420000,.b 1000420001],ζ,⟨⟨tv9,tv11,tv3⟩,⟨?_,?_,?_,?_,?_⟩,?_,?_,?_,?_⟩,?_,λx16 xh=>⟨Sq41,Sq30,ζ,Sq30,Sq42,ζ,Sq30,Sq43,ζ,Sq30,Sq44,ζ,Sq31,Sq45,ζ,Sq45,Sq46,ζ,[.s 46,.s 42,.b 0],[.b 0],ζ,[.s 6,.s 43,.b 1006],[.b 1006],ζ,Sq44,Sq7,ζ,⟨⟨aa,aa,tv11,aa⟩,⟨?_,?_,?_,?_,?_⟩,?_,?_,?_,?_⟩,λsA o9=>?_⟩⟩,λtl=>⟨Sq0,Sq48,ζ,Sq0,Sq49,ζ,Sq49,Sq50,ζ,Sq50,Sq51,ζ,[.s 51,.b 0],Sq52,ζ,[.s 6,.b 1006],Sq53,ζ,Sq3,Sq54,ζ,[.s 54,.b 1003],Sq55,ζ,[.s 52,.s 53,.s 55,.b 1,.b 2,.b 3,.b 4,.b 5,.b 1000570001,.b 1000570000],[.s 56,.b 1,.b 2,.b 3,.b 4,.b 5,.b 1000570000,.b 1000570001],ζ,⟨⟨tv9,tv11,tv2⟩,⟨?_,?_,?_,?_,?_⟩,?_,?_,?_,?_,?_⟩,?_,λx21 DB=>⟨Sq56,Sq47,ζ,Sq47,Sq57,ζ,Sq47,Sq58,ζ,Sq47,Sq59,ζ,Sq48,Sq60,ζ,Sq60,Sq61,ζ,[.s 61,.s 57,.b 0],[.b 0],ζ,[.s 6,.s 58,.b 1006],[.b 1006],ζ,Sq59,Sq7,ζ,⟨⟨aa,aa,tv11,aa⟩,⟨?_,?_,?_,?_,?_⟩,?_,?_,?_,?_⟩,λx23 tZ=>?_⟩⟩⟩⟩⟩⟩⟩⟩
 all_goals first|refine aw ?_|refine ax ?_|exact bb|(dsimp only [fc,gK,ef,fT,CS,vJ,PZ,BP,fX,iG,iE,qh];omega)|exact ba|exact dM|exact cn|exact hp6|exact⟨dM,cn⟩|exact⟨dM,cn,hp6⟩|exact λ_ _=>rfl|exact hF.wg.mono (by decide)|exact h0 w6|exact AI|exact anO gY|exact NJ (tV w6 dW)|exact tV w6 dW|exact hk1 dW|exact (hw w6 dW (anO gY)).1.mono (by decide)|exact (hc w6 dW).1.mono (by decide)|skip
 ·refine⟨[4,5],[],_,_,_,ζ,bZ,(A',2),0,λn h=>h.mono (by omega),ζ,ζ,ζ⟩
 ·refine⟨[4,5],[],_,_,_,ζ,bZ,(A',4),0,λn h=>h.mono (by omega),ζ,ζ,ζ⟩
 ·refine⟨[4,5],[],_,_,_,ζ,bZ,(A',6),0,λn h=>h.mono (by omega),ζ,ζ,ζ⟩
 ·refine⟨[1000710000,1000710001],[],_,_,_,ζ,bZ,(oH ((pb A'.1 (bg A' (bG A' o2)) o4 o5).1,A'.2.1,!(pb A'.1 (bg A' (bG A' o2)) o4 o5).2.2) (bG A' o2) (pb A'.1 (bg A' (bG A' o2)) o4 o5).2.1,0),0,λn h=>(h.iL (text:=o5) hfu (h0 w6) AI (hk1 dW) ha0 (anO gY)).2.mono (by omega),ζ,ζ,ζ⟩
 ·refine⟨[1000710000,1000710001],[],_,_,_,ζ,bZ,(oH ((jW A'.1 (bg A' (bG A' o2)) o4).1,A'.2.1,!(jW A'.1 (bg A' (bG A' o2)) o4).2.2) (bG A' o2) (jW A'.1 (bg A' (bG A' o2)) o4).2.1,0),0,λn h=>(h.c13 hfu (h0 w6) AI (hk1 dW) ha0 ha1).2.mono (by omega),ζ,ζ,ζ⟩
end GL
namespace GL
attribute [local irreducible] eg cW bU oH aP aB cC dU eC bG xl z1 sI bH pb jW cG eZ mI
def rD (F:gd) (path:ByteArray):Prop:=dF F 1000000/\F.2.2=false/\path.size<=1000
def MW (F:gd) (path:ByteArray) (z:gd×Int):Prop:=∀n,dF F n->dF z.1 (n+300)
def MB (F:gd) (path:ByteArray) (z:gd×Int):AV:=.s (.int z.2)
def QS (F:gd) (path:ByteArray) (z:gd×Int):List AV:=fsP z.1
def wG:cu where
 A:=[.b 0,.s .str]
 B:=[.a [.xb 1 ab,.xb 2 ag,.xb 3 ag,.int,.xb 4 ae,.int,.xb 5 ae,.bool,.int,.int,.int,.int,.int,.int,.int,.bool],.r ab,.r ag,.r ag,.r ae,.r ae]
 pre:=λx b=>fsW b/\rD (qh b) (x.2)
 α:=λ_ _=>gd×Int
 φ:=λx b z=>MW (qh b) (x.2) z
 r:=λx b z=>MB (qh b) (x.2) z
 o:=λx b z=>QS (qh b) (x.2) z
 nf:=2
 mv:=true
theorem V5:Has Tryz.prog 77 wG:=by
 refine Has.ofZ zT zF zF (l:=[(122,fc),(123,ef),(124,iK),(117,eG),(121,kY),(126,qA),(125,uU),(119,fN),(118,fX),(127,IK)]) ⟨nt,kP,tI,lP,zL,KP,SK,o0,pM,agz,aa⟩ Tryz.func77 ?_
 rintro⟨_,(path:ByteArray)⟩ ⟨⟨(Fm1:Nat),(Fm2:Nat),(Fm3:Nat),(aQ:Int),(Fm4:Nat),(a6:Int),(Fm5:Nat),(aZ:Bool),(aY:Int),(aX:Int),(aW:Int),(aV:Int),(aU:Int),(aS:Int),(aR:Int),(a7:Bool)⟩,(aI:List ByteArray),(aJ:List Int),(aK:List Int),(aM:List Pt),(aN:List Pt)⟩ ⟨⟨(kn:Fm1=List.length aI),(km:Fm2=List.length aJ),(kl:Fm3=List.length aK),(kk:Fm4=List.length aM),(kj:Fm5=List.length aN)⟩,(hp:rD ((aI,aJ,aK,aQ,aM,a6,aN,aZ),(aY,aX,aW,aV,aU,aS,aR),a7) path)⟩
 subst kn km kl kk kj
 show vc _ _ _ _ (entry [.s (.bp 0 0),.str path] [.a [.xs 1 1 0 aI.length,.xs 2 1 0 aJ.length,.xs 3 1 0 aK.length,.int aQ,.xs 4 5 0 aM.length,.int a6,.xs 5 5 0 aN.length,.q aZ,.int aY,.int aX,.int aW,.int aV,.int aU,.int aS,.int aR,.q a7],.rs ab aI,.rs ag aJ,.rs ag aK,.rs ae aM,.rs ae aN]) _
 let A':=((aI,aJ,aK,aQ,aM,a6,aN,aZ),(aY,aX,aW,aV,aU,aS,aR),a7)
 obtain⟨hF,hfu,hps⟩:=hp
 have hF:dF A' 1000000:=hF
 have dM:ay.rd A'.1:=hF.wg.wf.rd
 have cn:bf.ok A'.2.1:=hF.ok
 have hp6:path.size<=1000000:=ZA9 hps (by decide)
 have h0:decide (bG A' path<0)=false->decide (bG A' path=0)=false->0<bG A' path:=λh h2=>by have:=aD h;have:=aD h2;omega
 have AI:bG A' path<=15:=(DL _ _).2
 have tU:=λ(h:0<bG A' path)=>UX (q7 h).1
 have hpb:0<bG A' path->0<=(eC A' path).1/\(eC A' path).1<=15:=λh=>by rw [(tU h).2.1];exact⟨(tU h).2.2.1,(tU h).2.2.2.1⟩
 have hen:∀nd,(bU A'.1 nd).1.length<=1000:=λnd=>ZA9 (r9 _ nd).len (by decide)
 have AH:=λ(h:0<bG A' path)=>(q7 h).2.1
 have hal:=λ(h:0<bG A' path)=>(C1 (AH h)).1
 have hwr:=λn (hF:dF A' n) (h:0<bG A' path)=>hF.vf (l:=eZ (bU A'.1 (bg A' (eC A' path).1)).1 (mI (bU A'.1 (bg A' (eC A' path).1)).1 (et path)).toNat) (hpb h).1 (hpb h).2
 have hlk:=λ(h:0<bG A' path)=>hF.aiM hfu (Int.le_of_lt h) AI
 have hnA:0<bG A' path->decide ((bg A' (bG A' path)).2.2.1>0)=false->bG A' path≠(eC A' path).1:=λh h2=>ae3 h λ_=>aD h2
 have hnB:0<bG A' path->decide ((bg A' (bG A' path)).1=2)=false->bG A' path≠(eC A' path).1:=λh h2=>ae3 h λe=>absurd e (aD h2)
 have hls:=λn (hF:dF A' n) h=>λ(ft:bG A' path≠(eC A' path).1)=>(hwr n hF h).1.aiL (l:=(bg A' (bG A' path)).2.1-1) (nd:=bg A' (bG A' path)) h AI λhz=>hF.afj hfu (hpb h).1 (hpb h).2 (Int.le_of_lt h) AI ft hz
 have hdr:=λn (hF:dF A' n) h=>(hwr n hF h).1.apz h AI
 refine⟨⟨⟨tv3,⟨?_,?_,?_,?_,?_⟩,?_,?_,?_⟩,λx1 w2=>?_⟩,λx3 w4=>⟨λw5=>?_,λw6=>⟨⟨⟨tv3,⟨?_,?_,?_,?_,?_⟩,?_,?_⟩,λx7 w8=>?_⟩,λx9 dB=>⟨aa,λiP=>?_,λdW=>⟨aa,λiL=>⟨λgY=>?_,λnG=>⟨⟨⟨tv3,⟨?_,?_,?_,?_,?_⟩,?_,?_,?_⟩,λx16 xh=>?_⟩,λsA o9=>⟨⟨⟨tv3,⟨?_,?_,?_,?_,?_⟩,?_,?_⟩,λx20 FW=>?_⟩,λx22 zi=>⟨⟨tv2,?_,?_⟩,λFP FV=>⟨⟨tv3,?_⟩,λtk w27=>⟨⟨tv3,?_,?_,?_⟩,λx28 w29=>⟨⟨⟨aa,aa,⟨?_,?_⟩,aa⟩,⟨?_,?_,?_,?_,?_⟩,?_,?_,⟨?_,?_⟩,?_⟩,λx30 w31=>⟨⟨?_,?_⟩,λw32=>⟨⟨⟨aa,aa,tv11,aa⟩,⟨?_,?_,?_,?_,?_⟩,?_,?_,?_,?_⟩,λx33 w34=>?_⟩,λw35=>⟨λw36=>⟨Sq0,Sq68,ζ,Sq68,Sq69,ζ,Sq69,Sq70,ζ,[.s 70,.b 0],Sq71,ζ,Sq0,Sq72,ζ,Sq72,Sq73,ζ,Sq73,Sq74,ζ,[.s 74,.b 0],Sq75,ζ,Sq5,Sq76,ζ,[.s 71,.s 75,.s 76,.b 1,.b 2,.b 3,.b 1000510000,.b 1000510001,.b 1000780001,.b 1000780000],[.s 77,.b 1,.b 2,.b 3,.b 1000510000,.b 1000510001,.b 1000780000,.b 1000780001],ζ,⟨⟨tv9,tv8,tv2⟩,⟨?_,?_,?_,?_,?_⟩,?_,?_,?_,?_,?_⟩,?_,λx37 w38=>⟨Sq77,Sq67,ζ,Sq67,Sq78,ζ,Sq67,Sq79,ζ,Sq67,Sq80,ζ,[.b 1010],[.s 10,.b 1010],ζ,[.b 1011],[.s 11,.b 1011],ζ,[.s 10,.s 78,.b 1010],[.b 1010],ζ,[.s 11,.s 79,.b 1011],[.b 1011],ζ,Sq80,Sq12,ζ,?_⟩⟩,λw39=>?_⟩⟩⟩⟩⟩⟩⟩⟩⟩,λw40=>⟨⟨⟨tv3,⟨?_,?_,?_,?_,?_⟩,?_,?_,?_⟩,λx41 w42=>?_⟩,λx43 w44=>⟨⟨⟨tv3,⟨?_,?_,?_,?_,?_⟩,?_,?_⟩,λx45 w46=>?_⟩,λx47 w48=>⟨⟨tv2,?_,?_⟩,λx49 w50=>⟨⟨tv3,?_⟩,λx51 w52=>⟨⟨tv3,?_,?_,?_⟩,λx53 w54=>⟨⟨⟨aa,aa,⟨?_,?_⟩,aa⟩,⟨?_,?_,?_,?_,?_⟩,?_,?_,⟨?_,?_⟩,?_⟩,λx55 w56=>⟨⟨?_,?_⟩,λw57=>⟨⟨⟨aa,aa,tv11,aa⟩,⟨?_,?_,?_,?_,?_⟩,?_,?_,?_,?_⟩,λx58 w59=>?_⟩,λw60=>⟨λw61=>⟨Sq0,Sq68,ζ,Sq68,Sq69,ζ,Sq69,Sq70,ζ,[.s 70,.b 0],Sq71,ζ,Sq0,Sq72,ζ,Sq72,Sq73,ζ,Sq73,Sq74,ζ,[.s 74,.b 0],Sq75,ζ,Sq5,Sq76,ζ,[.s 71,.s 75,.s 76,.b 1,.b 2,.b 3,.b 1000510000,.b 1000510001,.b 1000780001,.b 1000780000],[.s 77,.b 1,.b 2,.b 3,.b 1000510000,.b 1000510001,.b 1000780000,.b 1000780001],ζ,⟨⟨tv9,tv8,tv2⟩,⟨?_,?_,?_,?_,?_⟩,?_,?_,?_,?_,?_⟩,?_,λx62 w63=>⟨Sq77,Sq67,ζ,Sq67,Sq78,ζ,Sq67,Sq79,ζ,Sq67,Sq80,ζ,[.b 1010],[.s 10,.b 1010],ζ,[.b 1011],[.s 11,.b 1011],ζ,[.s 10,.s 78,.b 1010],[.b 1010],ζ,[.s 11,.s 79,.b 1011],[.b 1011],ζ,Sq80,Sq12,ζ,?_⟩⟩,λw64=>?_⟩⟩⟩⟩⟩⟩⟩⟩⟩⟩⟩⟩⟩
 all_goals first|refine aw ?_|refine ax ?_|exact bb|(dsimp only [fc,gK,ef,fT,iK,jG,eG,ga,kY,my,qA,qF,uU,sS,fN,ik,fX,iG,IK,xW,iE,qh];omega)|exact ba|exact dM|exact cn|exact hp6|exact⟨dM,cn⟩|exact⟨dM,cn,hp6⟩|exact λ_ _=>rfl|exact hF.wg.mono (by decide)|exact AI|exact (tU (h0 w6 dW)).1|exact hen _|exact ZA9 (hen _) (by decide)|exact AH (h0 w6 dW)|exact hal (h0 w6 dW)|exact (hpb (h0 w6 dW)).1|exact (hpb (h0 w6 dW)).2|exact ((r9 _ _).less _).w|exact (hwr _ hF (h0 w6 dW)).1.wg.mono (by decide)|exact (hwr _ hF (h0 w6 dW)).1.ok|exact Int.le_of_lt (h0 w6 dW)|(have:=(hlk (h0 w6 dW)).1;show gz<=(bg A' (bG A' path)).2.1-1;unfold gz;omega)|(have:=(hlk (h0 w6 dW)).2;show (bg A' (bG A' path)).2.1-1<=imax;unfold imax;omega)|exact (hdr _ hF (h0 w6 dW) (pJ w36)).1|exact (hdr _ hF (h0 w6 dW) (pJ w61)).1|skip
 ·refine⟨[4,5],[],_,_,_,ζ,bZ,(A',2),0,λn h=>h.mono (by omega),ζ,ζ,ζ⟩
 ·refine⟨[4,5],[],_,_,_,ζ,bZ,(A',5),0,λn h=>h.mono (by omega),ζ,ζ,ζ⟩
 ·refine⟨[4,5],[],_,_,_,ζ,bZ,(A',5),0,λn h=>h.mono (by omega),ζ,ζ,ζ⟩
 ·refine⟨[1000620000,1000620001],[],_,_,_,ζ,bZ,(oH (cC A' (eC A' path).1 (eZ (bU A'.1 (bg A' (eC A' path).1)).1 (mI (bU A'.1 (bg A' (eC A' path).1)).1 (et path)).toNat)) (bG A' path) ((bg A' (bG A' path)).1,(bg A' (bG A' path)).2.1-1,(bg A' (bG A' path)).2.2),0),0,λn h=>(hls _ h (h0 w6 dW) (hnA (h0 w6 dW) nG)).mono (by omega),ζ,ζ,ζ⟩
 ·refine⟨[1000780000,1000780001],[],_,_,_,ζ,bZ,(((cG (cC A' (eC A' path).1 (eZ (bU A'.1 (bg A' (eC A' path).1)).1 (mI (bU A'.1 (bg A' (eC A' path).1)).1 (et path)).toNat)).1 (cC A' (eC A' path).1 (eZ (bU A'.1 (bg A' (eC A' path).1)).1 (mI (bU A'.1 (bg A' (eC A' path).1)).1 (et path)).toNat)).2.1 (bG A' path)).1,(cG (cC A' (eC A' path).1 (eZ (bU A'.1 (bg A' (eC A' path).1)).1 (mI (bU A'.1 (bg A' (eC A' path).1)).1 (et path)).toNat)).1 (cC A' (eC A' path).1 (eZ (bU A'.1 (bg A' (eC A' path).1)).1 (mI (bU A'.1 (bg A' (eC A' path).1)).1 (et path)).toNat)).2.1 (bG A' path)).2.1,!(cG (cC A' (eC A' path).1 (eZ (bU A'.1 (bg A' (eC A' path).1)).1 (mI (bU A'.1 (bg A' (eC A' path).1)).1 (et path)).toNat)).1 (cC A' (eC A' path).1 (eZ (bU A'.1 (bg A' (eC A' path).1)).1 (mI (bU A'.1 (bg A' (eC A' path).1)).1 (et path)).toNat)).2.1 (bG A' path)).2.2),0),0,λn h=>(hdr _ h (h0 w6 dW) (pJ w36)).2.mono (by omega),ζ,ζ,ζ⟩
 ·refine⟨[1000510000,1000510001],[],_,_,_,ζ,bZ,((cC A' (eC A' path).1 (eZ (bU A'.1 (bg A' (eC A' path).1)).1 (mI (bU A'.1 (bg A' (eC A' path).1)).1 (et path)).toNat)),0),0,λn h=>(hwr _ h (h0 w6 dW)).1.mono (by omega),ζ,ζ,ζ⟩
 ·refine⟨[1000620000,1000620001],[],_,_,_,ζ,bZ,(oH (cC A' (eC A' path).1 (eZ (bU A'.1 (bg A' (eC A' path).1)).1 (mI (bU A'.1 (bg A' (eC A' path).1)).1 (et path)).toNat)) (bG A' path) ((bg A' (bG A' path)).1,(bg A' (bG A' path)).2.1-1,(bg A' (bG A' path)).2.2),0),0,λn h=>(hls _ h (h0 w6 dW) (hnB (h0 w6 dW) w40)).mono (by omega),ζ,ζ,ζ⟩
 ·refine⟨[1000780000,1000780001],[],_,_,_,ζ,bZ,(((cG (cC A' (eC A' path).1 (eZ (bU A'.1 (bg A' (eC A' path).1)).1 (mI (bU A'.1 (bg A' (eC A' path).1)).1 (et path)).toNat)).1 (cC A' (eC A' path).1 (eZ (bU A'.1 (bg A' (eC A' path).1)).1 (mI (bU A'.1 (bg A' (eC A' path).1)).1 (et path)).toNat)).2.1 (bG A' path)).1,(cG (cC A' (eC A' path).1 (eZ (bU A'.1 (bg A' (eC A' path).1)).1 (mI (bU A'.1 (bg A' (eC A' path).1)).1 (et path)).toNat)).1 (cC A' (eC A' path).1 (eZ (bU A'.1 (bg A' (eC A' path).1)).1 (mI (bU A'.1 (bg A' (eC A' path).1)).1 (et path)).toNat)).2.1 (bG A' path)).2.1,!(cG (cC A' (eC A' path).1 (eZ (bU A'.1 (bg A' (eC A' path).1)).1 (mI (bU A'.1 (bg A' (eC A' path).1)).1 (et path)).toNat)).1 (cC A' (eC A' path).1 (eZ (bU A'.1 (bg A' (eC A' path).1)).1 (mI (bU A'.1 (bg A' (eC A' path).1)).1 (et path)).toNat)).2.1 (bG A' path)).2.2),0),0,λn h=>(hdr _ h (h0 w6 dW) (pJ w61)).2.mono (by omega),ζ,ζ,ζ⟩
 ·refine⟨[1000510000,1000510001],[],_,_,_,ζ,bZ,((cC A' (eC A' path).1 (eZ (bU A'.1 (bg A' (eC A' path).1)).1 (mI (bU A'.1 (bg A' (eC A' path).1)).1 (et path)).toNat)),0),0,λn h=>(hwr _ h (h0 w6 dW)).1.mono (by omega),ζ,ζ,ζ⟩
end GL
namespace GL
attribute [local irreducible] eg cW bU oH aP aB cC dU eC bG xl z1 sI bH eZ mI qV
def rC (F:gd) (path:ByteArray) (sD:ByteArray):Prop:=dF F 1000000/\F.2.2=false/\path.size<=1000/\sD.size<=1000
def MV (F:gd) (path:ByteArray) (sD:ByteArray) (z:gd×Int):Prop:=∀n,dF F n->dF z.1 (n+300)
def MA (F:gd) (path:ByteArray) (sD:ByteArray) (z:gd×Int):AV:=.s (.int z.2)
def QR (F:gd) (path:ByteArray) (sD:ByteArray) (z:gd×Int):List AV:=fsP z.1
def wF:cu where
 A:=[.b 0,.s .str,.s .str]
 B:=[.a [.xb 1 ab,.xb 2 ag,.xb 3 ag,.int,.xb 4 ae,.int,.xb 5 ae,.bool,.int,.int,.int,.int,.int,.int,.int,.bool],.r ab,.r ag,.r ag,.r ae,.r ae]
 pre:=λx b=>fsW b/\rC (qh b) (x.2.1) (x.2.2)
 α:=λ_ _=>gd×Int
 φ:=λx b z=>MV (qh b) (x.2.1) (x.2.2) z
 r:=λx b z=>MA (qh b) (x.2.1) (x.2.2) z
 o:=λx b z=>QR (qh b) (x.2.1) (x.2.2) z
 nf:=2
 mv:=true
theorem V4:Has Tryz.prog 78 wF:=by
 refine Has.ofZ zT zF zF (l:=[(122,fc),(123,ef),(115,lE),(117,eG),(118,fX),(121,kY),(120,si),(119,fN)]) ⟨nt,kP,AF,lP,pM,zL,OF,o0,aa⟩ Tryz.func78 ?_
 rintro⟨_,(path:ByteArray),(sD:ByteArray)⟩ ⟨⟨(Fm1:Nat),(Fm2:Nat),(Fm3:Nat),(aQ:Int),(Fm4:Nat),(a6:Int),(Fm5:Nat),(aZ:Bool),(aY:Int),(aX:Int),(aW:Int),(aV:Int),(aU:Int),(aS:Int),(aR:Int),(a7:Bool)⟩,(aI:List ByteArray),(aJ:List Int),(aK:List Int),(aM:List Pt),(aN:List Pt)⟩ ⟨⟨(kn:Fm1=List.length aI),(km:Fm2=List.length aJ),(kl:Fm3=List.length aK),(kk:Fm4=List.length aM),(kj:Fm5=List.length aN)⟩,(hp:rC ((aI,aJ,aK,aQ,aM,a6,aN,aZ),(aY,aX,aW,aV,aU,aS,aR),a7) path sD)⟩
 subst kn km kl kk kj
 show vc _ _ _ _ (entry [.s (.bp 0 0),.str path,.str sD] [.a [.xs 1 1 0 aI.length,.xs 2 1 0 aJ.length,.xs 3 1 0 aK.length,.int aQ,.xs 4 5 0 aM.length,.int a6,.xs 5 5 0 aN.length,.q aZ,.int aY,.int aX,.int aW,.int aV,.int aU,.int aS,.int aR,.q a7],.rs ab aI,.rs ag aJ,.rs ag aK,.rs ae aM,.rs ae aN]) _
 let A':=((aI,aJ,aK,aQ,aM,a6,aN,aZ),(aY,aX,aW,aV,aU,aS,aR),a7)
 obtain⟨hF,hfu,hps,hpt⟩:=hp
 have hF:dF A' 1000000:=hF
 have dM:ay.rd A'.1:=hF.wg.wf.rd
 have cn:bf.ok A'.2.1:=hF.ok
 have hp6:path.size<=1000000:=ZA9 hps (by decide)
 have ht6:sD.size<=1000000:=ZA9 hpt (by decide)
 have h0:decide (bG A' path<0)=false->0<=bG A' path:=λh=>ZH9.1 (aD h)
 have AI:bG A' path<=15:=(DL _ _).2
 have hk1:decide ((bg A' (bG A' path)).1≠1)=false->(bg A' (bG A' path)).1=1:=λh=>ZE6.1 (aD h)
 have hen:∀nd,(bU A'.1 nd).1.length<=1000:=λnd=>ZA9 (r9 _ nd).len (by decide)
 have hlk:=λh=>hF.aiM hfu (h0 h) AI
 have hls:=λn (hF:dF A' n) h h2=>hF.aiL (l:=(bg A' (bG A' path)).2.1+1) (nd:=bg A' (bG A' path)) (hF.file hfu (h0 h) AI (hk1 h2)).1 AI λ_=>rfl
 have jV:decide ((dU A' sD).2>0)=false->1<=(bH sD).length/\0<=(dU A' sD).1/\(dU A' sD).1<=15:=S4
 have hew:decide ((dU A' sD).2>0)=false->decide (bG A' path<0)=false->QK (sI (bU A'.1 (bg A' (dU A' sD).1)).1 (et sD,bG A' path)):=λh h2=>(r9 _ _).add (ZA9 (QA (jV h).1) hpt) ⟨h0 h2,ZE9 AI (by decide)⟩
 refine⟨⟨⟨tv3,⟨?_,?_,?_,?_,?_⟩,?_,?_,?_⟩,λx1 w2=>?_⟩,λx3 w4=>⟨λw5=>?_,λw6=>⟨⟨⟨tv3,⟨?_,?_,?_,?_,?_⟩,?_,?_⟩,λx7 w8=>?_⟩,λx9 dB=>⟨λiP=>?_,λdW=>⟨⟨⟨tv3,⟨?_,?_,?_,?_,?_⟩,?_,?_,?_⟩,λtY gY=>?_⟩,λnN kC=>⟨λxh=>?_,λqU=>⟨⟨⟨tv3,⟨?_,?_,?_,?_,?_⟩,?_,?_⟩,λx19 tl=>?_⟩,λx21 DB=>⟨aa,λzi=>?_,λtZ=>⟨λFV=>?_,λw26=>⟨⟨?_,?_⟩,⟨⟨aa,aa,tv11,aa⟩,⟨?_,?_,?_,?_,?_⟩,?_,?_,?_,?_⟩,λx27 w28=>⟨⟨tv2,?_,?_⟩,λx29 w30=>⟨⟨⟨aa,tv3,aa⟩,?_⟩,λx31 w32=>⟨⟨⟨aa,aa,⟨?_,?_⟩,aa⟩,⟨?_,?_,?_,?_,?_⟩,?_,?_,⟨?_,?_⟩,?_⟩,λx33 w34=>?_⟩⟩⟩⟩⟩⟩⟩⟩⟩⟩⟩⟩⟩
 all_goals first|refine aw ?_|refine ax ?_|exact bb|(dsimp only [fc,gK,ef,fT,lE,lM,eG,ga,fX,iG,kY,my,si,rF,fN,ik,qh];omega)|exact ba|exact dM|exact cn|exact hp6|exact ht6|exact⟨dM,cn⟩|exact⟨dM,cn,hp6⟩|exact⟨dM,cn,ht6⟩|exact λ_ _=>rfl|exact hF.wg.mono (by decide)|exact h0 w6|exact AI|exact hen _|(have:=(hlk w6).1;show gz<=(bg A' (bG A' path)).2.1+1;unfold gz;omega)|(have:=(hlk w6).2;show (bg A' (bG A' path)).2.1+1<=imax;unfold imax;omega)|exact (hls _ hF w6 dW).wg.mono (by decide)|exact (hls _ hF w6 dW).ok|exact (jV qU).1|exact (jV qU).2.1|exact (jV qU).2.2|exact hew qU w6|skip
 ·refine⟨[4,5],[],_,_,_,ζ,bZ,(A',2),0,λn h=>h.mono (by omega),ζ,ζ,ζ⟩
 ·refine⟨[4,5],[],_,_,_,ζ,bZ,(A',4),0,λn h=>h.mono (by omega),ζ,ζ,ζ⟩
 ·refine⟨[4,5],[],_,_,_,ζ,bZ,(A',(dU A' sD).2),0,λn h=>h.mono (by omega),ζ,ζ,ζ⟩
 ·refine⟨[4,5],[],_,_,_,ζ,bZ,(A',6),0,λn h=>h.mono (by omega),ζ,ζ,ζ⟩
 ·refine⟨[4,5],[],_,_,_,ζ,bZ,(A',6),0,λn h=>h.mono (by omega),ζ,ζ,ζ⟩
 ·refine⟨[1000600000,1000600001],[],_,_,_,ζ,bZ,(cC (oH A' (bG A' path) ((bg A' (bG A' path)).1,(bg A' (bG A' path)).2.1+1,(bg A' (bG A' path)).2.2)) (dU A' sD).1 (sI (bU A'.1 (bg A' (dU A' sD).1)).1 (et sD,bG A' path)),0),0,λn h=>((hls _ h w6 dW).vf (jV qU).2.1 (jV qU).2.2).1.mono (by omega),ζ,ζ,ζ⟩
end GL
namespace GL
attribute [local irreducible] eg cW bU oH aP aB cC dU eC bG xl z1 sI bH eZ mI qV
def rA (F:gd) (path:ByteArray) (sD:ByteArray):Prop:=dF F 1000000/\F.2.2=false/\path.size<=1000/\sD.size<=1000
def MT (F:gd) (path:ByteArray) (sD:ByteArray) (z:gd×Int):Prop:=∀n,dF F n->dF z.1 (n+300)
def L8 (F:gd) (path:ByteArray) (sD:ByteArray) (z:gd×Int):AV:=.s (.int z.2)
def QP (F:gd) (path:ByteArray) (sD:ByteArray) (z:gd×Int):List AV:=fsP z.1
def wD:cu where
 A:=[.b 0,.s .str,.s .str]
 B:=[.a [.xb 1 ab,.xb 2 ag,.xb 3 ag,.int,.xb 4 ae,.int,.xb 5 ae,.bool,.int,.int,.int,.int,.int,.int,.int,.bool],.r ab,.r ag,.r ag,.r ae,.r ae]
 pre:=λx b=>fsW b/\rA (qh b) (x.2.1) (x.2.2)
 α:=λ_ _=>gd×Int
 φ:=λx b z=>MT (qh b) (x.2.1) (x.2.2) z
 r:=λx b z=>L8 (qh b) (x.2.1) (x.2.2) z
 o:=λx b z=>QP (qh b) (x.2.1) (x.2.2) z
 nf:=2
 mv:=true
theorem V2:Has Tryz.prog 79 wD:=by
 refine Has.ofZ zT zF zF (l:=[(122,fc),(128,yT),(124,iK),(117,eG),(121,kY),(126,qA),(125,uU),(120,si),(119,fN)]) ⟨nt,aaw,tI,lP,zL,KP,SK,OF,o0,aa⟩ Tryz.func79 ?_
 rintro⟨_,(path:ByteArray),(sD:ByteArray)⟩ ⟨⟨(Fm1:Nat),(Fm2:Nat),(Fm3:Nat),(aQ:Int),(Fm4:Nat),(a6:Int),(Fm5:Nat),(aZ:Bool),(aY:Int),(aX:Int),(aW:Int),(aV:Int),(aU:Int),(aS:Int),(aR:Int),(a7:Bool)⟩,(aI:List ByteArray),(aJ:List Int),(aK:List Int),(aM:List Pt),(aN:List Pt)⟩ ⟨⟨(kn:Fm1=List.length aI),(km:Fm2=List.length aJ),(kl:Fm3=List.length aK),(kk:Fm4=List.length aM),(kj:Fm5=List.length aN)⟩,(hp:rA ((aI,aJ,aK,aQ,aM,a6,aN,aZ),(aY,aX,aW,aV,aU,aS,aR),a7) path sD)⟩
 subst kn km kl kk kj
 show vc _ _ _ _ (entry [.s (.bp 0 0),.str path,.str sD] [.a [.xs 1 1 0 aI.length,.xs 2 1 0 aJ.length,.xs 3 1 0 aK.length,.int aQ,.xs 4 5 0 aM.length,.int a6,.xs 5 5 0 aN.length,.q aZ,.int aY,.int aX,.int aW,.int aV,.int aU,.int aS,.int aR,.q a7],.rs ab aI,.rs ag aJ,.rs ag aK,.rs ae aM,.rs ae aN]) _
 let A':=((aI,aJ,aK,aQ,aM,a6,aN,aZ),(aY,aX,aW,aV,aU,aS,aR),a7)
 obtain⟨hF,hfu,hps,hpt⟩:=hp
 have hF:dF A' 1000000:=hF
 have dM:ay.rd A'.1:=hF.wg.wf.rd
 have cn:bf.ok A'.2.1:=hF.ok
 have hp6:path.size<=1000000:=ZA9 hps (by decide)
 have ht6:sD.size<=1000000:=ZA9 hpt (by decide)
 have h0:decide (bG A' path<0)=false->decide (bG A' path=0)=false->0<bG A' path:=λh h2=>by have:=aD h;have:=aD h2;omega
 have AI:bG A' path<=15:=(DL _ _).2
 have tU:=λ(h:0<bG A' path)=>UX (q7 h).1
 have hpb:0<bG A' path->0<=(eC A' path).1/\(eC A' path).1<=15:=λh=>by rw [(tU h).2.1];exact⟨(tU h).2.2.1,(tU h).2.2.2.1⟩
 have hto:decide ((eC A' sD).2>0)=false->1<=(bH sD).length/\0<=(eC A' sD).1/\(eC A' sD).1<=15:=λh=>by
  have h1:=UX h
  rw [h1.2.1];exact⟨h1.1,h1.2.2.1,h1.2.2.2.1⟩
 have hen:∀s nd,(bU s nd).1.length<=1000:=λs nd=>ZA9 (r9 s nd).len (by decide)
 have hln:∀s nd i,(eZ (bU s nd).1 i).length<=1000:=λs nd i=>ZA9 ((r9 s nd).less i).len (by decide)
 have AH:=λ(h:0<bG A' path)=>(q7 h).2.1
 have hal:=λ(h:0<bG A' path)=>(C1 (AH h)).1
 have hwr:=λn (hF:dF A' n) (h:0<bG A' path)=>(hF.vf (l:=(eZ (bU A'.1 (bg A' (eC A' path).1)).1 (mI (bU A'.1 (bg A' (eC A' path).1)).1 (et path)).toNat)) (hpb h).1 (hpb h).2).1
 have hea:decide ((eC A' sD).2>0)=false->0<bG A' path->∀l,XD l->QK (sI l (et sD,bG A' path)):=λh h2 l hv=>hv.add (ZA9 (QA (hto h).1) hpt) ⟨Int.le_of_lt h2,ZE9 AI (by decide)⟩
 refine⟨⟨⟨tv3,⟨?_,?_,?_,?_,?_⟩,?_,?_,?_⟩,λx1 w2=>?_⟩,λx3 w4=>⟨λw5=>?_,λw6=>⟨λw7=>?_,λw8=>⟨⟨⟨tv3,⟨?_,?_,?_,?_,?_⟩,?_,?_,?_⟩,λx9 dB=>?_⟩,λlJ dW=>⟨λiL=>?_,λgY=>⟨⟨tv3,?_,?_⟩,λnN kC=>⟨λxh=>?_,λqU=>⟨⟨⟨tv3,⟨?_,?_,?_,?_,?_⟩,?_,?_,?_⟩,λx19 tl=>?_⟩,λx21 DB=>⟨λzi=>?_,λtZ=>⟨⟨⟨tv3,⟨?_,?_,?_,?_,?_⟩,?_,?_,?_⟩,λx25 w26=>?_⟩,λx27 w28=>⟨aa,λw29=>⟨⟨⟨tv3,⟨?_,?_,?_,?_,?_⟩,?_,?_⟩,λx30 w31=>?_⟩,λx32 w33=>⟨λw34=>?_,λw35=>⟨⟨⟨tv3,⟨?_,?_,?_,?_,?_⟩,?_,?_⟩,λx36 w37=>?_⟩,λx38 w39=>⟨⟨tv2,?_,?_⟩,λx40 w41=>⟨⟨tv3,?_⟩,λx42 w43=>⟨⟨tv3,?_,?_,?_⟩,λx44 w45=>⟨⟨tv2,?_,?_⟩,λx46 w47=>⟨λw48=>⟨⟨⟨⟨?_,?_⟩,tv3,aa⟩,?_⟩,λx49 w50=>⟨⟨⟨aa,aa,⟨?_,?_⟩,aa⟩,⟨?_,?_,?_,?_,?_⟩,?_,?_,⟨?_,?_⟩,?_⟩,λx51 w52=>?_⟩⟩,λw53=>⟨⟨⟨aa,aa,⟨?_,?_⟩,aa⟩,⟨?_,?_,?_,?_,?_⟩,?_,?_,⟨?_,?_⟩,?_⟩,λx54 w55=>⟨Sq0,Sq83,ζ,Sq8,Sq84,ζ,Sq0,Sq85,ζ,Sq8,Sq86,ζ,[.s 85,.s 86,.b 0,.b 1,.b 2,.b 3,.b 1000830000,.b 1000830001],Sq87,ζ,⟨⟨tv3,⟨?_,?_,?_,?_,?_⟩,?_,?_⟩,λx56 w57=>?_⟩,?_,λx58 w59=>⟨[.s 13,.b 1013],Sq88,ζ,[.s 87,.s 88,.b 900000],[.s 89,.b 900000],ζ,⟨⟨aa,tv3,aa⟩,?_⟩,?_,λx60 w61=>⟨[.s 83,.s 84,.s 89,.b 0,.b 1,.b 2,.b 3,.b 1000830000,.b 1000830001,.b 900000,.b 1000910001,.b 1000910000],[.s 90,.b 0,.b 1,.b 2,.b 3,.b 1000830000,.b 1000830001,.b 1000910000,.b 1000910001],ζ,⟨⟨aa,aa,⟨?_,?_⟩,aa⟩,⟨?_,?_,?_,?_,?_⟩,?_,?_,⟨?_,?_⟩,?_⟩,?_,λx62 w63=>?_⟩⟩⟩⟩⟩⟩⟩⟩⟩⟩⟩⟩,λw64=>⟨⟨⟨tv3,⟨?_,?_,?_,?_,?_⟩,?_,?_⟩,λx65 w66=>?_⟩,λx67 w68=>⟨⟨tv2,?_,?_⟩,λx69 w70=>⟨⟨tv3,?_⟩,λx71 w72=>⟨⟨tv3,?_,?_,?_⟩,λx73 w74=>⟨⟨tv2,?_,?_⟩,λx75 w76=>⟨λw77=>⟨⟨⟨⟨?_,?_⟩,tv3,aa⟩,?_⟩,λx78 w79=>⟨⟨⟨aa,aa,⟨?_,?_⟩,aa⟩,⟨?_,?_,?_,?_,?_⟩,?_,?_,⟨?_,?_⟩,?_⟩,λx80 w81=>?_⟩⟩,λw82=>⟨⟨⟨aa,aa,⟨?_,?_⟩,aa⟩,⟨?_,?_,?_,?_,?_⟩,?_,?_,⟨?_,?_⟩,?_⟩,λx83 w84=>⟨Sq0,Sq83,ζ,Sq8,Sq84,ζ,Sq0,Sq85,ζ,Sq8,Sq86,ζ,[.s 85,.s 86,.b 0,.b 1,.b 2,.b 3,.b 1000830000,.b 1000830001],Sq87,ζ,⟨⟨tv3,⟨?_,?_,?_,?_,?_⟩,?_,?_⟩,λx85 w86=>?_⟩,?_,λx87 w88=>⟨[.s 13,.b 1013],Sq88,ζ,[.s 87,.s 88,.b 900000],[.s 89,.b 900000],ζ,⟨⟨aa,tv3,aa⟩,?_⟩,?_,λx89 w90=>⟨[.s 83,.s 84,.s 89,.b 0,.b 1,.b 2,.b 3,.b 1000830000,.b 1000830001,.b 900000,.b 1000910001,.b 1000910000],[.s 90,.b 0,.b 1,.b 2,.b 3,.b 1000830000,.b 1000830001,.b 1000910000,.b 1000910001],ζ,⟨⟨aa,aa,⟨?_,?_⟩,aa⟩,⟨?_,?_,?_,?_,?_⟩,?_,?_,⟨?_,?_⟩,?_⟩,?_,λx91 w92=>?_⟩⟩⟩⟩⟩⟩⟩⟩⟩⟩⟩⟩⟩⟩⟩⟩⟩⟩⟩⟩⟩
 all_goals first|refine aw ?_|refine ax ?_|exact bb|(dsimp only [fc,gK,yT,tD,iK,jG,eG,ga,kY,my,qA,qF,uU,sS,si,rF,fN,ik,qh];omega)|exact ba|exact dM|exact cn|exact hp6|exact ht6|exact⟨dM,cn⟩|exact⟨dM,cn,hp6⟩|exact⟨dM,cn,ht6⟩|exact λ_ _=>rfl|exact hF.wg.mono (by decide)|exact AI|exact hen _ _|exact ZA9 (hen _ _) (by decide)|exact (tU (h0 w6 w8)).1|exact AH (h0 w6 w8)|exact hal (h0 w6 w8)|exact (hto tZ).1|exact hln _ _ _|exact (hto tZ).2.1|exact (hto tZ).2.2|exact (hpb (h0 w6 w8)).1|exact (hpb (h0 w6 w8)).2|exact ((r9 _ _).less _).w|exact hea tZ (h0 w6 w8) _ ((r9 _ _).less _)|exact hea tZ (h0 w6 w8) _ (r9 _ _)|exact (hwr _ hF (h0 w6 w8)).wg.mono (by decide)|exact (hwr _ hF (h0 w6 w8)).ok|exact (hwr _ hF (h0 w6 w8)).wg.wf.rd|skip
 ·refine⟨[4,5],[],_,_,_,ζ,bZ,(A',2),0,λn h=>h.mono (by omega),ζ,ζ,ζ⟩
 ·refine⟨[4,5],[],_,_,_,ζ,bZ,(A',5),0,λn h=>h.mono (by omega),ζ,ζ,ζ⟩
 ·refine⟨[4,5],[],_,_,_,ζ,bZ,(A',3),0,λn h=>h.mono (by omega),ζ,ζ,ζ⟩
 ·refine⟨[4,5],[],_,_,_,ζ,bZ,(A',5),0,λn h=>h.mono (by omega),ζ,ζ,ζ⟩
 ·refine⟨[4,5],[],_,_,_,ζ,bZ,(A',(eC A' sD).2),0,λn h=>h.mono (by omega),ζ,ζ,ζ⟩
 ·refine⟨[4,5],[],_,_,_,ζ,bZ,(A',6),0,λn h=>h.mono (by omega),ζ,ζ,ζ⟩
 ·refine⟨[1000790000,1000790001],[],_,_,_,ζ,bZ,(cC A' (eC A' sD).1 (sI (eZ (bU A'.1 (bg A' (eC A' path).1)).1 (mI (bU A'.1 (bg A' (eC A' path).1)).1 (et path)).toNat) (et sD,bG A' path)),0),0,λn h=>(h.vf (hto tZ).2.1 (hto tZ).2.2).1.mono (by omega),ζ,ζ,ζ⟩
 ·refine⟨[1000910000,1000910001],[],_,_,_,ζ,bZ,(cC (cC A' (eC A' path).1 (eZ (bU A'.1 (bg A' (eC A' path).1)).1 (mI (bU A'.1 (bg A' (eC A' path).1)).1 (et path)).toNat)) (eC A' sD).1 (sI (bU (cC A' (eC A' path).1 (eZ (bU A'.1 (bg A' (eC A' path).1)).1 (mI (bU A'.1 (bg A' (eC A' path).1)).1 (et path)).toNat)).1 (bg (cC A' (eC A' path).1 (eZ (bU A'.1 (bg A' (eC A' path).1)).1 (mI (bU A'.1 (bg A' (eC A' path).1)).1 (et path)).toNat)) (eC A' sD).1)).1 (et sD,bG A' path)),0),0,λn h=>((hwr _ h (h0 w6 w8)).vf (hto tZ).2.1 (hto tZ).2.2).1.mono (by omega),ζ,ζ,ζ⟩
 ·refine⟨[1000790000,1000790001],[],_,_,_,ζ,bZ,(cC A' (eC A' sD).1 (sI (eZ (bU A'.1 (bg A' (eC A' path).1)).1 (mI (bU A'.1 (bg A' (eC A' path).1)).1 (et path)).toNat) (et sD,bG A' path)),0),0,λn h=>(h.vf (hto tZ).2.1 (hto tZ).2.2).1.mono (by omega),ζ,ζ,ζ⟩
 ·refine⟨[1000910000,1000910001],[],_,_,_,ζ,bZ,(cC (cC A' (eC A' path).1 (eZ (bU A'.1 (bg A' (eC A' path).1)).1 (mI (bU A'.1 (bg A' (eC A' path).1)).1 (et path)).toNat)) (eC A' sD).1 (sI (bU (cC A' (eC A' path).1 (eZ (bU A'.1 (bg A' (eC A' path).1)).1 (mI (bU A'.1 (bg A' (eC A' path).1)).1 (et path)).toNat)).1 (bg (cC A' (eC A' path).1 (eZ (bU A'.1 (bg A' (eC A' path).1)).1 (mI (bU A'.1 (bg A' (eC A' path).1)).1 (et path)).toNat)) (eC A' sD).1)).1 (et sD,bG A' path)),0),0,λn h=>((hwr _ h (h0 w6 w8)).vf (hto tZ).2.1 (hto tZ).2.2).1.mono (by omega),ζ,ζ,ζ⟩
end GL
namespace GL
def uu (S:ay) (t:bf) (o:Opr):Prop:=FS S t/\S.wg 1000000/\o.2.1.size<=1000/\o.2.2.1.size<=1000/\0<=o.2.2.2.1/\o.2.2.2.1<=192/\o.2.2.2.2.size<=1000
def afH (S:ay) (t:bf) (o:Opr) (z:ay×bf×Int):Prop:=FS z.1 z.2.1/\∀n,S.wg n->z.1.wg (n+300)
def afy (S:ay) (t:bf) (o:Opr) (z:ay×bf×Int):AV:=.t [.a (nH 5 6 7 8 9 z.1),trA z.2.1,.s (.int z.2.2)]
def aib (S:ay) (t:bf) (o:Opr) (z:ay×bf×Int):List AV:=[.zz,.zz,.zz,.zz,.zz,.rs ab z.1.rows,.rs ag z.1.refs,.rs ag z.1.last,.rs ae z.1.gone,.rs ae z.1.dead]
def wH:cu where
 A:=[.a (stB 0 1 2 3 4),.a [.int,.int,.int,.int,.int,.int,.int],.a [.int,.str,.str,.int,.str]]
 B:=[.r ab,.r ag,.r ag,.r ae,.r ae]
 pre:=λx b=>stW x.1 b/\uu (iE x.1 b) (x.2.1) (x.2.2)
 α:=λ_ _=>ay×bf×Int
 φ:=λx b z=>afH (iE x.1 b) (x.2.1) (x.2.2) z
 r:=λx b z=>afy (iE x.1 b) (x.2.1) (x.2.2) z
 o:=λx b z=>aib (iE x.1 b) (x.2.1) (x.2.2) z
 nf:=5
 mv:=true
def V6:Has Tryz.prog 43 wH:=by
 refine Has.ofZ zT zF zF (l:=[(47,kq),(76,wE),(80,se),(77,wG),(78,wF),(79,wD)]) ⟨OC,V3,OD,V5,V4,V2,aa⟩ Tryz.func43 ?_
 rintro⟨⟨(C7:Nat),(C6:Nat),(C5:Nat),(ao:Int),(C4:Nat),(aq:Int),(C3:Nat),(ar:Bool)⟩,⟨(t1:Int),(t2:Int),(t3:Int),(t4:Int),(t5:Int),(t6:Int),(t7:Int)⟩,⟨(o1:Int),(o2:ByteArray),(o3:ByteArray),(o4:Int),(o5:ByteArray)⟩⟩ ⟨(aj:List ByteArray),(ak:List Int),(an:List Int),(ah:List Pt),(ai:List Pt)⟩ ⟨⟨(gR:C7=List.length aj),(gQ:C6=List.length ak),(gP:C5=List.length an),(gO:C4=List.length ah),(gN:C3=List.length ai)⟩,(hp:uu (aj,ak,an,ao,ah,aq,ai,ar) (t1,t2,t3,t4,t5,t6,t7) (o1,o2,o3,o4,o5))⟩
 subst gR gQ gP gO gN
 show vc _ _ _ _ (entry [.a [.xs 0 1 0 aj.length,.xs 1 1 0 ak.length,.xs 2 1 0 an.length,.int ao,.xs 3 5 0 ah.length,.int aq,.xs 4 5 0 ai.length,.q ar],.a [.int t1,.int t2,.int t3,.int t4,.int t5,.int t6,.int t7],.a [.int o1,.str o2,.str o3,.int o4,.str o5]] [.rs ab aj,.rs ag ak,.rs ag an,.rs ae ah,.rs ae ai]) _
 obtain⟨xk,lf,hs1,hs2,ha0,ha1,htx⟩:=hp
 have xk:FS (aj,ak,an,ao,ah,aq,ai,ar) (t1,t2,t3,t4,t5,t6,t7):=xk
 have lf:ay.wg (aj,ak,an,ao,ah,aq,ai,ar) 1000000:=lf
 have hsm:ay.small (aj,ak,an,ao,ah,aq,ai,ar):=⟨by have:=lf.wf.n.1;omega,by have:=lf.wf.n.2.1;omega,by have:=lf.wf.n.2.2;omega,lf.g,lf.d⟩
 have hF:dF ((aj,ak,an,ao,ah,aq,ai,ar),(t1,t2,t3,t4,t5,t6,t7),false) 1000000:=⟨lf,xk.fi.tree.ok,λ_=>xk⟩
 have yx:∀x:gd×Int,(∀n,dF ((aj,ak,an,ao,ah,aq,ai,ar),(t1,t2,t3,t4,t5,t6,t7),false) n->dF x.1 (n+300))->(x.1.2.2=false->FS x.1.1 x.1.2.1)/\∀n,ay.wg (aj,ak,an,ao,ah,aq,ai,ar) n->x.1.1.wg (n+300):=λx h=>⟨(h _ hF).fs,λn hn=>(h n ⟨hn,hF.ok,λ_=>xk⟩).wg⟩
 refine⟨[.s 3,.b 1003],Sq11,ζ,[.s 11,.b 0,.b 1,.b 2,.b 3,.b 4,.b 130004,.b 130003,.b 130002,.b 130001,.b 130000],[.s 12,.b 130000,.b 130001,.b 130002,.b 130003,.b 130004],ζ,⟨⟨⟨⟨?_,?_⟩,⟨?_,?_⟩,⟨?_,?_⟩,aa,⟨?_,?_⟩,aa,⟨?_,?_⟩,tv2⟩,aa⟩,?_,?_,?_,?_,?_⟩,?_,λx1 w2=>⟨[.s 4,.b 1004],Sq13,ζ,[.s 12,.s 13],Sq14,ζ,[.s 14,.b 1015],[.s 15,.b 1015],ζ,Sq15,Sq9,ζ,λw3=>⟨⟨tv4,⟨?_,?_,?_,?_,?_⟩,?_,?_,?_⟩,λx4 w5=>⟨aa,λw6=>⟨λw7=>⟨λw8=>⟨[.s 3,.b 1003],Sq65,ζ,[.s 4,.b 1004],Sq66,ζ,Sq10,Sq67,ζ,[.s 6,.s 65,.b 1006],[.b 1006],ζ,[.s 7,.s 66,.b 1007],[.b 1007],ζ,Sq67,Sq8,ζ,?_⟩,λw9=>⟨Sq9,Sq68,ζ,Sq68,Sq69,ζ,Sq69,Sq70,ζ,[.s 70,.b 1015],Sq71,ζ,Sq9,Sq72,ζ,Sq72,Sq73,ζ,Sq73,Sq74,ζ,[.s 74,.b 1015],Sq75,ζ,Sq10,Sq76,ζ,[.s 6,.s 71,.b 1006],[.b 1006],ζ,[.s 7,.s 75,.b 1007],[.b 1007],ζ,Sq76,Sq8,ζ,?_⟩⟩,λdB=>⟨λiP=>⟨[.s 3,.b 1003],Sq65,ζ,[.s 4,.b 1004],Sq66,ζ,Sq10,Sq67,ζ,[.s 6,.s 65,.b 1006],[.b 1006],ζ,[.s 7,.s 66,.b 1007],[.b 1007],ζ,Sq67,Sq8,ζ,?_⟩,λdW=>⟨Sq9,Sq68,ζ,Sq68,Sq69,ζ,Sq69,Sq70,ζ,[.s 70,.b 1015],Sq71,ζ,Sq9,Sq72,ζ,Sq72,Sq73,ζ,Sq73,Sq74,ζ,[.s 74,.b 1015],Sq75,ζ,Sq10,Sq76,ζ,[.s 6,.s 71,.b 1006],[.b 1006],ζ,[.s 7,.s 75,.b 1007],[.b 1007],ζ,Sq76,Sq8,ζ,?_⟩⟩⟩,λiL=>⟨λgY=>⟨[.s 3,.b 1003],Sq65,ζ,[.s 4,.b 1004],Sq66,ζ,Sq10,Sq67,ζ,[.s 6,.s 65,.b 1006],[.b 1006],ζ,[.s 7,.s 66,.b 1007],[.b 1007],ζ,Sq67,Sq8,ζ,?_⟩,λnG=>⟨Sq9,Sq68,ζ,Sq68,Sq69,ζ,Sq69,Sq70,ζ,[.s 70,.b 1015],Sq71,ζ,Sq9,Sq72,ζ,Sq72,Sq73,ζ,Sq73,Sq74,ζ,[.s 74,.b 1015],Sq75,ζ,Sq10,Sq76,ζ,[.s 6,.s 71,.b 1006],[.b 1006],ζ,[.s 7,.s 75,.b 1007],[.b 1007],ζ,Sq76,Sq8,ζ,?_⟩⟩⟩⟩,λkC=>⟨λxh=>⟨⟨tv4,⟨?_,?_,?_,?_,?_⟩,?_,?_,?_⟩,λsA o9=>⟨aa,λtl=>⟨λFW=>⟨λDB=>⟨[.s 3,.b 1003],Sq65,ζ,[.s 4,.b 1004],Sq66,ζ,Sq10,Sq67,ζ,[.s 6,.s 65,.b 1006],[.b 1006],ζ,[.s 7,.s 66,.b 1007],[.b 1007],ζ,Sq67,Sq8,ζ,?_⟩,λzi=>⟨Sq9,Sq68,ζ,Sq68,Sq69,ζ,Sq69,Sq70,ζ,[.s 70,.b 1015],Sq71,ζ,Sq9,Sq72,ζ,Sq72,Sq73,ζ,Sq73,Sq74,ζ,[.s 74,.b 1015],Sq75,ζ,Sq10,Sq76,ζ,[.s 6,.s 71,.b 1006],[.b 1006],ζ,[.s 7,.s 75,.b 1007],[.b 1007],ζ,Sq76,Sq8,ζ,?_⟩⟩,λtZ=>⟨λFV=>⟨[.s 3,.b 1003],Sq65,ζ,[.s 4,.b 1004],Sq66,ζ,Sq10,Sq67,ζ,[.s 6,.s 65,.b 1006],[.b 1006],ζ,[.s 7,.s 66,.b 1007],[.b 1007],ζ,Sq67,Sq8,ζ,?_⟩,λw26=>⟨Sq9,Sq68,ζ,Sq68,Sq69,ζ,Sq69,Sq70,ζ,[.s 70,.b 1015],Sq71,ζ,Sq9,Sq72,ζ,Sq72,Sq73,ζ,Sq73,Sq74,ζ,[.s 74,.b 1015],Sq75,ζ,Sq10,Sq76,ζ,[.s 6,.s 71,.b 1006],[.b 1006],ζ,[.s 7,.s 75,.b 1007],[.b 1007],ζ,Sq76,Sq8,ζ,?_⟩⟩⟩,λw27=>⟨λw28=>⟨[.s 3,.b 1003],Sq65,ζ,[.s 4,.b 1004],Sq66,ζ,Sq10,Sq67,ζ,[.s 6,.s 65,.b 1006],[.b 1006],ζ,[.s 7,.s 66,.b 1007],[.b 1007],ζ,Sq67,Sq8,ζ,?_⟩,λw29=>⟨Sq9,Sq68,ζ,Sq68,Sq69,ζ,Sq69,Sq70,ζ,[.s 70,.b 1015],Sq71,ζ,Sq9,Sq72,ζ,Sq72,Sq73,ζ,Sq73,Sq74,ζ,[.s 74,.b 1015],Sq75,ζ,Sq10,Sq76,ζ,[.s 6,.s 71,.b 1006],[.b 1006],ζ,[.s 7,.s 75,.b 1007],[.b 1007],ζ,Sq76,Sq8,ζ,?_⟩⟩⟩⟩,λw30=>⟨λw31=>⟨⟨tv3,⟨?_,?_,?_,?_,?_⟩,?_,?_,?_⟩,λx32 w33=>⟨aa,λw34=>⟨λw35=>⟨λw36=>⟨[.s 3,.b 1003],Sq65,ζ,[.s 4,.b 1004],Sq66,ζ,Sq10,Sq67,ζ,[.s 6,.s 65,.b 1006],[.b 1006],ζ,[.s 7,.s 66,.b 1007],[.b 1007],ζ,Sq67,Sq8,ζ,?_⟩,λw37=>⟨Sq9,Sq68,ζ,Sq68,Sq69,ζ,Sq69,Sq70,ζ,[.s 70,.b 1015],Sq71,ζ,Sq9,Sq72,ζ,Sq72,Sq73,ζ,Sq73,Sq74,ζ,[.s 74,.b 1015],Sq75,ζ,Sq10,Sq76,ζ,[.s 6,.s 71,.b 1006],[.b 1006],ζ,[.s 7,.s 75,.b 1007],[.b 1007],ζ,Sq76,Sq8,ζ,?_⟩⟩,λw38=>⟨λw39=>⟨[.s 3,.b 1003],Sq65,ζ,[.s 4,.b 1004],Sq66,ζ,Sq10,Sq67,ζ,[.s 6,.s 65,.b 1006],[.b 1006],ζ,[.s 7,.s 66,.b 1007],[.b 1007],ζ,Sq67,Sq8,ζ,?_⟩,λw40=>⟨Sq9,Sq68,ζ,Sq68,Sq69,ζ,Sq69,Sq70,ζ,[.s 70,.b 1015],Sq71,ζ,Sq9,Sq72,ζ,Sq72,Sq73,ζ,Sq73,Sq74,ζ,[.s 74,.b 1015],Sq75,ζ,Sq10,Sq76,ζ,[.s 6,.s 71,.b 1006],[.b 1006],ζ,[.s 7,.s 75,.b 1007],[.b 1007],ζ,Sq76,Sq8,ζ,?_⟩⟩⟩,λw41=>⟨λw42=>⟨[.s 3,.b 1003],Sq65,ζ,[.s 4,.b 1004],Sq66,ζ,Sq10,Sq67,ζ,[.s 6,.s 65,.b 1006],[.b 1006],ζ,[.s 7,.s 66,.b 1007],[.b 1007],ζ,Sq67,Sq8,ζ,?_⟩,λw43=>⟨Sq9,Sq68,ζ,Sq68,Sq69,ζ,Sq69,Sq70,ζ,[.s 70,.b 1015],Sq71,ζ,Sq9,Sq72,ζ,Sq72,Sq73,ζ,Sq73,Sq74,ζ,[.s 74,.b 1015],Sq75,ζ,Sq10,Sq76,ζ,[.s 6,.s 71,.b 1006],[.b 1006],ζ,[.s 7,.s 75,.b 1007],[.b 1007],ζ,Sq76,Sq8,ζ,?_⟩⟩⟩⟩,λw44=>⟨λw45=>⟨⟨tv4,⟨?_,?_,?_,?_,?_⟩,?_,?_,?_,?_⟩,λx46 w47=>⟨aa,λw48=>⟨λw49=>⟨λw50=>⟨[.s 3,.b 1003],Sq65,ζ,[.s 4,.b 1004],Sq66,ζ,Sq10,Sq67,ζ,[.s 6,.s 65,.b 1006],[.b 1006],ζ,[.s 7,.s 66,.b 1007],[.b 1007],ζ,Sq67,Sq8,ζ,?_⟩,λw51=>⟨Sq9,Sq68,ζ,Sq68,Sq69,ζ,Sq69,Sq70,ζ,[.s 70,.b 1015],Sq71,ζ,Sq9,Sq72,ζ,Sq72,Sq73,ζ,Sq73,Sq74,ζ,[.s 74,.b 1015],Sq75,ζ,Sq10,Sq76,ζ,[.s 6,.s 71,.b 1006],[.b 1006],ζ,[.s 7,.s 75,.b 1007],[.b 1007],ζ,Sq76,Sq8,ζ,?_⟩⟩,λw52=>⟨λw53=>⟨[.s 3,.b 1003],Sq65,ζ,[.s 4,.b 1004],Sq66,ζ,Sq10,Sq67,ζ,[.s 6,.s 65,.b 1006],[.b 1006],ζ,[.s 7,.s 66,.b 1007],[.b 1007],ζ,Sq67,Sq8,ζ,?_⟩,λw54=>⟨Sq9,Sq68,ζ,Sq68,Sq69,ζ,Sq69,Sq70,ζ,[.s 70,.b 1015],Sq71,ζ,Sq9,Sq72,ζ,Sq72,Sq73,ζ,Sq73,Sq74,ζ,[.s 74,.b 1015],Sq75,ζ,Sq10,Sq76,ζ,[.s 6,.s 71,.b 1006],[.b 1006],ζ,[.s 7,.s 75,.b 1007],[.b 1007],ζ,Sq76,Sq8,ζ,?_⟩⟩⟩,λw55=>⟨λw56=>⟨[.s 3,.b 1003],Sq65,ζ,[.s 4,.b 1004],Sq66,ζ,Sq10,Sq67,ζ,[.s 6,.s 65,.b 1006],[.b 1006],ζ,[.s 7,.s 66,.b 1007],[.b 1007],ζ,Sq67,Sq8,ζ,?_⟩,λw57=>⟨Sq9,Sq68,ζ,Sq68,Sq69,ζ,Sq69,Sq70,ζ,[.s 70,.b 1015],Sq71,ζ,Sq9,Sq72,ζ,Sq72,Sq73,ζ,Sq73,Sq74,ζ,[.s 74,.b 1015],Sq75,ζ,Sq10,Sq76,ζ,[.s 6,.s 71,.b 1006],[.b 1006],ζ,[.s 7,.s 75,.b 1007],[.b 1007],ζ,Sq76,Sq8,ζ,?_⟩⟩⟩⟩,λw58=>⟨λw59=>⟨⟨tv4,⟨?_,?_,?_,?_,?_⟩,?_,?_,?_,?_⟩,λx60 w61=>⟨aa,λw62=>⟨λw63=>⟨λw64=>⟨[.s 3,.b 1003],Sq65,ζ,[.s 4,.b 1004],Sq66,ζ,Sq10,Sq67,ζ,[.s 6,.s 65,.b 1006],[.b 1006],ζ,[.s 7,.s 66,.b 1007],[.b 1007],ζ,Sq67,Sq8,ζ,?_⟩,λw65=>⟨Sq9,Sq68,ζ,Sq68,Sq69,ζ,Sq69,Sq70,ζ,[.s 70,.b 1015],Sq71,ζ,Sq9,Sq72,ζ,Sq72,Sq73,ζ,Sq73,Sq74,ζ,[.s 74,.b 1015],Sq75,ζ,Sq10,Sq76,ζ,[.s 6,.s 71,.b 1006],[.b 1006],ζ,[.s 7,.s 75,.b 1007],[.b 1007],ζ,Sq76,Sq8,ζ,?_⟩⟩,λw66=>⟨λw67=>⟨[.s 3,.b 1003],Sq65,ζ,[.s 4,.b 1004],Sq66,ζ,Sq10,Sq67,ζ,[.s 6,.s 65,.b 1006],[.b 1006],ζ,[.s 7,.s 66,.b 1007],[.b 1007],ζ,Sq67,Sq8,ζ,?_⟩,λw68=>⟨Sq9,Sq68,ζ,Sq68,Sq69,ζ,Sq69,Sq70,ζ,[.s 70,.b 1015],Sq71,ζ,Sq9,Sq72,ζ,Sq72,Sq73,ζ,Sq73,Sq74,ζ,[.s 74,.b 1015],Sq75,ζ,Sq10,Sq76,ζ,[.s 6,.s 71,.b 1006],[.b 1006],ζ,[.s 7,.s 75,.b 1007],[.b 1007],ζ,Sq76,Sq8,ζ,?_⟩⟩⟩,λw69=>⟨λw70=>⟨[.s 3,.b 1003],Sq65,ζ,[.s 4,.b 1004],Sq66,ζ,Sq10,Sq67,ζ,[.s 6,.s 65,.b 1006],[.b 1006],ζ,[.s 7,.s 66,.b 1007],[.b 1007],ζ,Sq67,Sq8,ζ,?_⟩,λw71=>⟨Sq9,Sq68,ζ,Sq68,Sq69,ζ,Sq69,Sq70,ζ,[.s 70,.b 1015],Sq71,ζ,Sq9,Sq72,ζ,Sq72,Sq73,ζ,Sq73,Sq74,ζ,[.s 74,.b 1015],Sq75,ζ,Sq10,Sq76,ζ,[.s 6,.s 71,.b 1006],[.b 1006],ζ,[.s 7,.s 75,.b 1007],[.b 1007],ζ,Sq76,Sq8,ζ,?_⟩⟩⟩⟩,λw72=>⟨⟨⟨aa,tv6,aa⟩,⟨?_,?_,?_,?_,?_⟩,?_,?_,?_,?_,?_,?_⟩,λx73 w74=>⟨aa,λw75=>⟨λw76=>⟨λw77=>⟨[.s 3,.b 1003],Sq65,ζ,[.s 4,.b 1004],Sq66,ζ,Sq10,Sq67,ζ,[.s 6,.s 65,.b 1006],[.b 1006],ζ,[.s 7,.s 66,.b 1007],[.b 1007],ζ,Sq67,Sq8,ζ,?_⟩,λw78=>⟨Sq9,Sq68,ζ,Sq68,Sq69,ζ,Sq69,Sq70,ζ,[.s 70,.b 1015],Sq71,ζ,Sq9,Sq72,ζ,Sq72,Sq73,ζ,Sq73,Sq74,ζ,[.s 74,.b 1015],Sq75,ζ,Sq10,Sq76,ζ,[.s 6,.s 71,.b 1006],[.b 1006],ζ,[.s 7,.s 75,.b 1007],[.b 1007],ζ,Sq76,Sq8,ζ,?_⟩⟩,λw79=>⟨λw80=>⟨[.s 3,.b 1003],Sq65,ζ,[.s 4,.b 1004],Sq66,ζ,Sq10,Sq67,ζ,[.s 6,.s 65,.b 1006],[.b 1006],ζ,[.s 7,.s 66,.b 1007],[.b 1007],ζ,Sq67,Sq8,ζ,?_⟩,λw81=>⟨Sq9,Sq68,ζ,Sq68,Sq69,ζ,Sq69,Sq70,ζ,[.s 70,.b 1015],Sq71,ζ,Sq9,Sq72,ζ,Sq72,Sq73,ζ,Sq73,Sq74,ζ,[.s 74,.b 1015],Sq75,ζ,Sq10,Sq76,ζ,[.s 6,.s 71,.b 1006],[.b 1006],ζ,[.s 7,.s 75,.b 1007],[.b 1007],ζ,Sq76,Sq8,ζ,?_⟩⟩⟩,λw82=>⟨λw83=>⟨[.s 3,.b 1003],Sq65,ζ,[.s 4,.b 1004],Sq66,ζ,Sq10,Sq67,ζ,[.s 6,.s 65,.b 1006],[.b 1006],ζ,[.s 7,.s 66,.b 1007],[.b 1007],ζ,Sq67,Sq8,ζ,?_⟩,λw84=>⟨Sq9,Sq68,ζ,Sq68,Sq69,ζ,Sq69,Sq70,ζ,[.s 70,.b 1015],Sq71,ζ,Sq9,Sq72,ζ,Sq72,Sq73,ζ,Sq73,Sq74,ζ,[.s 74,.b 1015],Sq75,ζ,Sq10,Sq76,ζ,[.s 6,.s 71,.b 1006],[.b 1006],ζ,[.s 7,.s 75,.b 1007],[.b 1007],ζ,Sq76,Sq8,ζ,?_⟩⟩⟩⟩⟩⟩⟩⟩⟩⟩
 all_goals first|refine aw ?_|refine ax ?_|exact bb|(dsimp only [kq,rz,wE,rB,se,oj,wG,rD,wF,rC,wD,rA,qh];omega)|exact ba|exact hsm|exact hF|exact⟨hF,rfl,hs1⟩|exact⟨hF,rfl,hs1,hs2⟩|exact hs1|exact hs2|exact hsm.1|exact hsm.2.1|exact hsm.2.2.1|exact hsm.2.2.2.1|exact hsm.2.2.2.2|exact ha0|exact ha1|exact htx|skip
 ·refine⟨[0,1,2,3,4],[],_,_,_,ζ,bZ,((aj,ak,an,ao,ah,aq,ai,ar),(t1,t2,t3,t4,t5,t6,t7),7),0,⟨xk,λn h=>h.mono (by omega)⟩,ζ,ζ,ζ⟩
 ·exact absurd (show true=false from w9) Bool.noConfusion
 ·refine⟨[0,1,2,3,4],[],_,_,_,ζ,bZ,((aj,ak,an,ao,ah,aq,ai,ar),(t1,t2,t3,t4,t5,t6,t7),x4.2),0,⟨xk,λn h=>h.mono (by omega)⟩,ζ,ζ,ζ⟩
 ·refine⟨[130000,130001,130002,1000270000,1000270001],[0,1,2,3,4],_,_,_,ζ,bZ,(x4.1.1,x4.1.2.1,x4.2),0,⟨(yx x4 w5).1 dB,(yx x4 w5).2⟩,ζ,ζ,ζ⟩
 ·refine⟨[0,1,2,3,4],[],_,_,_,ζ,bZ,((aj,ak,an,ao,ah,aq,ai,ar),(t1,t2,t3,t4,t5,t6,t7),x4.2),0,⟨xk,λn h=>h.mono (by omega)⟩,ζ,ζ,ζ⟩
 ·exact absurd (aD iL) (aD nG)
 ·refine⟨[0,1,2,3,4],[],_,_,_,ζ,bZ,((aj,ak,an,ao,ah,aq,ai,ar),(t1,t2,t3,t4,t5,t6,t7),7),0,⟨xk,λn h=>h.mono (by omega)⟩,ζ,ζ,ζ⟩
 ·exact absurd (show true=false from zi) Bool.noConfusion
 ·refine⟨[0,1,2,3,4],[],_,_,_,ζ,bZ,((aj,ak,an,ao,ah,aq,ai,ar),(t1,t2,t3,t4,t5,t6,t7),sA.2),0,⟨xk,λn h=>h.mono (by omega)⟩,ζ,ζ,ζ⟩
 ·refine⟨[130000,130001,130002,1000330000,1000330001],[0,1,2,3,4],_,_,_,ζ,bZ,(sA.1.1,sA.1.2.1,sA.2),0,⟨(yx sA o9).1 tZ,(yx sA o9).2⟩,ζ,ζ,ζ⟩
 ·refine⟨[0,1,2,3,4],[],_,_,_,ζ,bZ,((aj,ak,an,ao,ah,aq,ai,ar),(t1,t2,t3,t4,t5,t6,t7),sA.2),0,⟨xk,λn h=>h.mono (by omega)⟩,ζ,ζ,ζ⟩
 ·exact absurd (aD w27) (aD w29)
 ·refine⟨[0,1,2,3,4],[],_,_,_,ζ,bZ,((aj,ak,an,ao,ah,aq,ai,ar),(t1,t2,t3,t4,t5,t6,t7),7),0,⟨xk,λn h=>h.mono (by omega)⟩,ζ,ζ,ζ⟩
 ·exact absurd (show true=false from w37) Bool.noConfusion
 ·refine⟨[0,1,2,3,4],[],_,_,_,ζ,bZ,((aj,ak,an,ao,ah,aq,ai,ar),(t1,t2,t3,t4,t5,t6,t7),x32.2),0,⟨xk,λn h=>h.mono (by omega)⟩,ζ,ζ,ζ⟩
 ·refine⟨[130000,130001,130002,1000390000,1000390001],[0,1,2,3,4],_,_,_,ζ,bZ,(x32.1.1,x32.1.2.1,x32.2),0,⟨(yx x32 w33).1 w38,(yx x32 w33).2⟩,ζ,ζ,ζ⟩
 ·refine⟨[0,1,2,3,4],[],_,_,_,ζ,bZ,((aj,ak,an,ao,ah,aq,ai,ar),(t1,t2,t3,t4,t5,t6,t7),x32.2),0,⟨xk,λn h=>h.mono (by omega)⟩,ζ,ζ,ζ⟩
 ·exact absurd (aD w41) (aD w43)
 ·refine⟨[0,1,2,3,4],[],_,_,_,ζ,bZ,((aj,ak,an,ao,ah,aq,ai,ar),(t1,t2,t3,t4,t5,t6,t7),7),0,⟨xk,λn h=>h.mono (by omega)⟩,ζ,ζ,ζ⟩
 ·exact absurd (show true=false from w51) Bool.noConfusion
 ·refine⟨[0,1,2,3,4],[],_,_,_,ζ,bZ,((aj,ak,an,ao,ah,aq,ai,ar),(t1,t2,t3,t4,t5,t6,t7),x46.2),0,⟨xk,λn h=>h.mono (by omega)⟩,ζ,ζ,ζ⟩
 ·refine⟨[130000,130001,130002,1000470000,1000470001],[0,1,2,3,4],_,_,_,ζ,bZ,(x46.1.1,x46.1.2.1,x46.2),0,⟨(yx x46 w47).1 w52,(yx x46 w47).2⟩,ζ,ζ,ζ⟩
 ·refine⟨[0,1,2,3,4],[],_,_,_,ζ,bZ,((aj,ak,an,ao,ah,aq,ai,ar),(t1,t2,t3,t4,t5,t6,t7),x46.2),0,⟨xk,λn h=>h.mono (by omega)⟩,ζ,ζ,ζ⟩
 ·exact absurd (aD w55) (aD w57)
 ·refine⟨[0,1,2,3,4],[],_,_,_,ζ,bZ,((aj,ak,an,ao,ah,aq,ai,ar),(t1,t2,t3,t4,t5,t6,t7),7),0,⟨xk,λn h=>h.mono (by omega)⟩,ζ,ζ,ζ⟩
 ·exact absurd (show true=false from w65) Bool.noConfusion
 ·refine⟨[0,1,2,3,4],[],_,_,_,ζ,bZ,((aj,ak,an,ao,ah,aq,ai,ar),(t1,t2,t3,t4,t5,t6,t7),x60.2),0,⟨xk,λn h=>h.mono (by omega)⟩,ζ,ζ,ζ⟩
 ·refine⟨[130000,130001,130002,1000550000,1000550001],[0,1,2,3,4],_,_,_,ζ,bZ,(x60.1.1,x60.1.2.1,x60.2),0,⟨(yx x60 w61).1 w66,(yx x60 w61).2⟩,ζ,ζ,ζ⟩
 ·refine⟨[0,1,2,3,4],[],_,_,_,ζ,bZ,((aj,ak,an,ao,ah,aq,ai,ar),(t1,t2,t3,t4,t5,t6,t7),x60.2),0,⟨xk,λn h=>h.mono (by omega)⟩,ζ,ζ,ζ⟩
 ·exact absurd (aD w69) (aD w71)
 ·refine⟨[0,1,2,3,4],[],_,_,_,ζ,bZ,((aj,ak,an,ao,ah,aq,ai,ar),(t1,t2,t3,t4,t5,t6,t7),7),0,⟨xk,λn h=>h.mono (by omega)⟩,ζ,ζ,ζ⟩
 ·exact absurd (show true=false from w78) Bool.noConfusion
 ·refine⟨[0,1,2,3,4],[],_,_,_,ζ,bZ,((aj,ak,an,ao,ah,aq,ai,ar),(t1,t2,t3,t4,t5,t6,t7),x73.2),0,⟨xk,λn h=>h.mono (by omega)⟩,ζ,ζ,ζ⟩
 ·refine⟨[130000,130001,130002,1000210000,1000210001],[0,1,2,3,4],_,_,_,ζ,bZ,(x73.1.1,x73.1.2.1,x73.2),0,⟨(yx x73 w74).1 w79,(yx x73 w74).2⟩,ζ,ζ,ζ⟩
 ·refine⟨[0,1,2,3,4],[],_,_,_,ζ,bZ,((aj,ak,an,ao,ah,aq,ai,ar),(t1,t2,t3,t4,t5,t6,t7),x73.2),0,⟨xk,λn h=>h.mono (by omega)⟩,ζ,ζ,ζ⟩
 ·exact absurd (aD w82) (aD w84)
end GL
namespace GL
def lh (same:Bool):ay:=(List.replicate 64 ⟨#[]⟩,List.replicate 64 0,List.replicate 64 0,1,[],0,[],same)
def vR:Prop:=True
def vB:AV:=.a [.xs 0 1 0 64,.xs 1 1 0 64]
def yh:List AV:=[.rs ag (List.replicate 64 0),.rs ag (List.replicate 64 0)]
def CZ:cu where
 A:=[]
 B:=[]
 pre:=λx b=>vR
 r:=λx b _=>vB
 o:=λx b _=>yh
 nf:=2
def acT:Has Tryz.prog 75 CZ:=by
 refine Has.fP zT zF zF (l:=[]) trivial Tryz.func75 ?_
 rintro _ _ (hp:vR)
 show vc _ _ _ _ (entry [] []) _
 refine⟨[.b 1001],[.s 1,.b 1001],ζ,⟨?_,?_,?_⟩,[.b 1002],[.s 2,.b 1002],ζ,⟨?_,?_,?_⟩,[.s 1,.s 2],Sq3,ζ,[.s 0,.s 3,.b 1000],[.b 1000],ζ,?_⟩
 all_goals first|refine aw ?_|refine ax ?_|exact bb|exact ba|skip
 refine⟨[1001,1002],[],_,_,_,ζ,aC,(),aa,?_,?_,ζ⟩
 ·(show _=vB);unfold vB;first|rfl
 ·(show _=yh);unfold yh;first|rfl
def nc (same:Bool):Prop:=True
def vA (same:Bool):AV:=.a (nH 0 1 2 3 4 (lh same))
def yg (same:Bool):List AV:=[.rs ab (lh same).rows,.rs ag (lh same).refs,.rs ag (lh same).last,.rs ae (lh same).gone,.rs ae (lh same).dead]
def mf:cu where
 A:=[.s .bool]
 B:=[]
 pre:=λx b=>nc x
 r:=λx b _=>vA x
 o:=λx b _=>yg x
 nf:=5
def B7:Has Tryz.prog 41 mf:=by
 refine Has.fP zT zF zF (l:=[(75,CZ)]) ⟨acT,aa⟩ Tryz.func41 ?_
 rintro (same:Bool) _ (hp:nc same)
 show vc _ _ _ _ (entry [.q same] []) _
 refine⟨[.b 1003],[.s 3,.b 1003],ζ,⟨?_,?_,?_⟩,[.b 50001,.b 50000],[.s 4,.b 50000,.b 50001],ζ,tv2,?_,λx1 w2=>⟨[.b 1005],[.s 5,.b 1005],ζ,aa,[.b 1006],[.s 6,.b 1006],ζ,aa,Sq0,Sq7,ζ,[.s 3,.s 4,.s 5,.s 6,.s 7],Sq8,ζ,[.s 2,.s 8,.b 1002],[.b 1002],ζ,?_⟩⟩
 all_goals first|refine aw ?_|refine ax ?_|exact bb|(dsimp only [CZ,vR];omega)|exact ba|skip
 refine⟨[1003,50000,50001,1005,1006],[],_,_,_,ζ,aC,(),aa,?_,?_,ζ⟩
 ·(show _=vA same);unfold vA;first|rfl
 ·(show _=yg same);unfold yg;first|rfl
