/- Part 13 of the proof of a drawn law. -/
import Derived.Test.YtnkbdhldiinfdaaGreatDoorPaj
import Derived.Test.YtnkbdhldiinfdaaGreatDoorPak
import Derived.Test.YtnkbdhldiinfdaaGreatDoorPal
set_option maxHeartbeats 20000000
set_option maxRecDepth 100000
set_option linter.all false
namespace Go.Proofs.YtnkbdhldiinfdaaGreatDoor
namespace GL
def dx:List Pt→ay→ay
 |[],s=>s
 |p::l,s=>dx l (cM s p)
theorem C0:∀{l:List Pt}{s:ay},s.wf→(dx l s).wf∧(dx l s).gone.length≤s.gone.length+l.length∧(dx l s).dead.length≤s.dead.length+l.length
 |[],s,h=>⟨h,ZB5 _,ZB5 _⟩
 |o::l,s,h=>by
  have h1:=C0 (l:=l) (qq (p:=o) h)
  have h2:=pg s o
  rw [ZA1]
  exact⟨h1.1,by have:=h1.2.1;show (dx l (cM s o)).gone.length≤_;omega,by have:=h1.2.2;show (dx l (cM s o)).dead.length≤_;omega⟩
theorem wV (s:ay) (p:Pt):(cM s p).cg=s.cg:=by
 unfold cM
 cases au p with
 |true=>rfl
 |false=>
  cases decide (p.2.1≤s.bZ) with
  |true=>rfl
  |false=>
   cases decide (p.2.1<s.cg) with
   |true=>rfl
   |false=>rfl
theorem yL:∀(l:List Pt) (s:ay),(dx l s).cg=s.cg
 |[],_=>rfl
 |p::l,s=>(yL l (cM s p)).trans (wV s p)
theorem I5:∀(l stays:List Pt) (s:ay),(dX l stays s).cg=s.cg
 |[],_,_=>rfl
 |p::l,stays,s=>by
  refine (I5 l stays _).trans ?_
  cases gW stays p with
  |true=>rfl
  |false=>exact wV s p
theorem IB {s:ay}{t:bf}{l:List Pt}{many:Int}(h:s.wf):(bQ s t l many).1.cg=s.cg:=by
 unfold bQ
 have h1:=wM (f:=3) (t:=t) (d:=bj many) (lv:=1) (l:=l.take many.toNat) (sy:=[]) h
 cases hf:mm 3 s t (bj many) 1 (l.take many.toNat) [] with
 |mk s' r=>
  rw [hf] at h1
  cases r with
  |none=>exact h1.cg
  |some q=>obtain⟨x,y⟩:=q;exact (I5 _ _ s').trans h1.cg
theorem CL {s:ay}{t:bf}{l:List Pt}{many:Int}(h:s.wf) (hz:(bQ s t l many).2.2=false):um s (bQ s t l many).1:=by
 unfold bQ at hz ⊢
 have h1:=wM (f:=3) (t:=t) (d:=bj many) (lv:=1) (l:=l.take many.toNat) (sy:=[]) h
 cases hf:mm 3 s t (bj many) 1 (l.take many.toNat) [] with
 |mk s' r=>
  rw [hf] at h1 hz
  cases r with
  |none=>exact h1
  |some q=>cases hz
def UF (s:ay) (t:bf) (many:Int):ay×bf×Bool:=
 bif !(bQ s t (aB s t) many).2.2 then ((bQ s t (aB s t) many).1,t,false)
 else (dx ((aB s t).drop many.toNat) (bQ s t (aB s t) many).1,(bQ s t (aB s t) many).2.1,true)
def cF (s:ay) (t:bf) (many:Int):ay×bf×Bool:=bif decide (many=t.many) then (s,t,true) else UF s t many
theorem ae0 {s:ay}{t:bf}{many:Int}(h:decide (many=t.many)=true):cF s t many=(s,t,true):=by unfold cF;rw [h];rfl
theorem aeZ {s:ay}{t:bf}{many:Int}(h:decide (many=t.many)=false) (h2:(!(bQ s t (aB s t) many).2.2)=true):cF s t many=((bQ s t (aB s t) many).1,t,false):=by unfold cF UF;rw [h,h2];rfl
theorem aeY {s:ay}{t:bf}{many:Int}(h:decide (many=t.many)=false) (h2:(!(bQ s t (aB s t) many).2.2)=false):cF s t many=(dx ((aB s t).drop many.toNat) (bQ s t (aB s t) many).1,(bQ s t (aB s t) many).2.1,true):=by unfold cF UF;rw [h,h2];rfl
theorem acP (a b l:Int) (s:ByteArray):aZ (gv a b l s).1=true:=by
 cases h1:ik s.size 1 128 with
 |false=>rw [BX h1];decide
 |true=>cases h2:aZ (a,b,(s.size:Int),qN s,l) with
  |false=>rw [BW h2];decide
  |true=>rw [BV h1 h2];exact h2
theorem FW (s:ay) (text:ByteArray) (lv:Int):aZ (bd s text lv).2.1=true:=by
 cases h:decide (da s text lv<0) with
 |true=>rw [nA rfl h];rfl
 |false=>cases h2: !(gv (da s text lv) s.cg lv text).2 with
  |true=>rw [mz rfl h h2];rfl
  |false=>rw [o8 rfl h h2];exact acP _ _ _ _
theorem aeB {s:ay}{l:List Pt}{lv:Int}{o:Pt}(h:aZ o=true):aZ (ee s l lv o).2.1=true:=by
 cases h1:nV l with
 |true=>rw [JG h1];rfl
 |false=>cases h2:fD s l o with
  |true=>rw [JF h1 h2];exact h
  |false=>rw [tS h1 h2];exact FW _ _ _
theorem M1 {lv:Int}{ka l:List Pt}(hw:∀q∈ka,aZ q=true):∀{f:Nat}{s s':ay}{i:Nat}{nx sy n y:List Pt},fI f s lv ka l i nx sy=(s',some (n,y))→(∀q∈nx,aZ q=true)→∀q∈n,aZ q=true
 |0,s,s',i,nx,sy,n,y,h,hn=>by cases h;exact hn
 |f+1,s,s',i,nx,sy,n,y,h,hn=>by
  unfold fI at h
  cases hc:decide ((i:Int)*4<l.length) with
  |false=>rw [hc] at h;cases h;exact hn
  |true=>
   rw [hc,cond_true] at h
   cases hf: !(ee s (qO l i) lv (nth ae ka i)).2.2 with
   |true=>rw [hf] at h;cases h
   |false=>
    rw [hf,cond_false] at h
    refine M1 hw h λq hq=>?_
    rcases ZB4.1 hq with hq |hq
    ·exact hn q hq
    ·rw [ZC7.1 hq];exact aeB (oC hw i)
theorem S8 {t:bf}{d:Int}(ht:t.rd):∀{f:Nat}{s s':ay}{lv:Int}{l sy n y:List Pt},mm f s t d lv l sy=(s',some (n,y))→(∀q∈l,aZ q=true)→∀q∈n,aZ q=true
 |0,s,s',lv,l,sy,n,y,h,hn=>by cases h;exact hn
 |f+1,s,s',lv,l,sy,n,y,h,hn=>by
  unfold mm at h
  cases hc:decide (lv≤d) with
  |false=>rw [hc] at h;cases h;exact hn
  |true=>
   rw [hc,cond_true] at h
   cases hf:fI 5 s lv (dL s t d lv) (eK l) 0 [] sy with
   |mk u r=>
    rw [hf] at h
    cases r with
    |none=>cases h
    |some q=>exact S8 ht h (M1 (Y7 ht) hf λ_ h=>by cases h)
structure bf.ok (t:bf):Prop where
 rd:t.rd
 m0:0≤t.many
 m1:t.many≤16
theorem P7:ny.ok:=⟨⟨by decide,by decide⟩,by decide,by decide⟩
theorem S7 {s:ay}{t:bf}{l:List Pt}{many:Int}(ht:t.rd) (hl:∀q∈l,aZ q=true) (h0:0≤many) (h1:many≤16):(bQ s t l many).2.1.ok:=by
 unfold bQ
 cases hf:mm 3 s t (bj many) 1 (l.take many.toNat) [] with
 |mk u r=>
  cases r with
  |none=>exact P7
  |some q=>
   have h:=S8 ht hf λq hq=>hl q (ZE6 hq)
   refine⟨⟨(pn many).2,?_⟩,h0,h1⟩
   show aZ (rootOf q.1)=true
   unfold rootOf
   cases decide ((q.1.length:Int)>0) with
   |true=>exact oC h 0
   |false=>rfl
theorem uQ {s:ay}{t:bf}(h:t.rd) {k:Nat}{p:Pt}(hp:aZ p=true):∀q∈(aB s t).set k p,aZ q=true:=by
 intro q hq
 rcases List.mem_or_eq_of_mem_set hq with hq |hq
 ·exact lA h q hq
 ·rw [hq];exact hp
structure ay.wg (s:ay) (n:Nat):Prop where
 wf:s.wf
 g:s.gone.length≤n
 d:s.dead.length≤n
 t:s.cg≤((1000+n:Nat):Int)
theorem ay.wg.mono {s:ay}{n m:Nat}(h:s.wg n) (hm:n≤m):s.wg m:=⟨h.wf,ZB0 h.g hm,ZB0 h.d hm,by have:=h.t;omega⟩
theorem um.wg {s u:ay}{n:Nat}(h:um s u) (hs:s.wg n):u.wg n:=⟨h.wf,by rw [h.gone];exact hs.g,by rw [h.dead];exact hs.d,by rw [h.cg];exact hs.t⟩
theorem OC {s:ay}{t:bf}{l:List Pt}{k:Nat}{p old:Pt}{many:Int}{n:Nat}(hs:s.wg n) (ht:t.rd) (hl:∀q∈l.set k p,aZ q=true) (h0:0≤many) (h1:many≤16):(pS s t l k p many old).1.wg (n+6)∧(pS s t l k p many old).2.1.ok∧((pS s t l k p many old).2.2=false→um s (pS s t l k p many old).1):=by
 have h2:=FF (t:=t) (l:=l.set k p) (many:=many) hs.wf
 have h3:=S7 (s:=s) ht hl h0 h1
 have hg:=hs.g;have hd:=hs.d
 unfold pS
 cases hz: !(bQ s t (l.set k p) many).2.2 with
 |true=>
  have h4:=CL hs.wf (KA hz)
  exact⟨(h4.wg hs).mono (by omega),h3,λ_=>h4⟩
 |false=>
  refine⟨?_,h3,λh=>by cases h⟩
  cases !(ptrEq p old) with
  |true=>
   have h5:=pg (bQ s t (l.set k p) many).1 old
   exact⟨qq h2.1,by show (cM _ old).gone.length≤_;omega,by show (cM _ old).dead.length≤_;omega,by show (cM _ old).cg≤_;rw [wV,IB hs.wf];have:=hs.t;omega⟩
  |false=>exact⟨h2.1,by show (bQ s t (l.set k p) many).1.gone.length≤_;omega,by show (bQ s t (l.set k p) many).1.dead.length≤_;omega,by show (bQ s t (l.set k p) many).1.cg≤_;rw [IB hs.wf];have:=hs.t;omega⟩
theorem nq {s:ay}{t:bf}{k:Int}{text:ByteArray}{n:Nat}(hs:s.wg n) (ht:t.ok) (hk0:0≤k) (hk:k≤15):(aY s t k text).1.wg (n+6)∧(aY s t k text).2.1.ok∧((aY s t k text).2.2=false→um s (aY s t k text).1):=by
 have xB:0≤bN t k:=by unfold bN;have:=ht.m0;omega
 have EW:bN t k≤16:=by unfold bN;have:=ht.m1;omega
 have hold:aZ (dV s t k)=true:=oC (lA ht.rd) _
 have hrefl:um s s:=⟨hs.wf,rfl,rfl,rfl,rfl,rfl⟩
 unfold aY
 cases decide (gU s t k=text)&&decide (bN t k=t.many) with
 |true=>exact⟨hs.mono (by omega),ht,λh=>by cases h⟩
 |false=>
  cases decide (gU s t k≠text) with
  |true=>
   cases decide (text≠⟨#[]⟩) with
   |true=>
    have hw:=DL (text:=text) (lv:=0) hs.wf
    cases hz: !(bd s text 0).2.2 with
    |true=>exact⟨hs.mono (by omega),ht,λ_=>hrefl⟩
    |false=>
     have h:=OC (old:=dV s t k) (hw.wg hs) ht.rd (uQ (s:=s) (k:=k.toNat) ht.rd (FW s text 0)) xB EW
     exact⟨h.1,h.2.1,λhh=>hw.trans (h.2.2 hh)⟩
   |false=>exact OC hs ht.rd (uQ ht.rd (by decide)) xB EW
  |false=>exact OC hs ht.rd (uQ ht.rd hold) xB EW
theorem FR {s:ay}{t:bf}{many:Int}{n:Nat}(hs:s.wg n) (ht:t.ok) (h0:0≤many) (h1:many≤16):(cF s t many).1.wg (n+21)∧(cF s t many).2.1.ok∧((cF s t many).2.2=false→um s (cF s t many).1):=by
 have h2:=FF (t:=t) (l:=aB s t) (many:=many) hs.wf
 have h3:=S7 (s:=s) ht.rd (lA (s:=s) ht.rd) h0 h1
 have hg:=hs.g;have hd:=hs.d
 unfold cF
 cases decide (many=t.many) with
 |true=>exact⟨hs.mono (by omega),ht,λh=>by cases h⟩
 |false=>
  show (UF s t many).1.wg (n+21)∧(UF s t many).2.1.ok∧((UF s t many).2.2=false→um s (UF s t many).1)
  unfold UF
  cases hz: !(bQ s t (aB s t) many).2.2 with
  |true=>
   have h4:=CL hs.wf (KA hz)
   exact⟨(h4.wg hs).mono (by omega),ht,λ_=>h4⟩
  |false=>
   have h5:=C0 (l:=(aB s t).drop many.toNat) h2.1
   have h6:((aB s t).drop many.toNat).length≤16:=by rw [ZC8,gi ht.rd];omega
   refine⟨⟨h5.1,?_,?_,?_⟩,h3,λh=>by cases h⟩
   ·show (dx ((aB s t).drop many.toNat) (bQ s t (aB s t) many).1).gone.length≤_;omega
   ·show (dx ((aB s t).drop many.toNat) (bQ s t (aB s t) many).1).dead.length≤_;omega
   ·show (dx ((aB s t).drop many.toNat) (bQ s t (aB s t) many).1).cg≤_;rw [yL,IB hs.wf];have:=hs.t;omega
end GL
namespace GL
theorem size_pos {s:ByteArray}(h:s≠⟨#[]⟩):1≤s.size:=by
 cases s with
 |mk a=>
  refine Nat.one_le_iff_ne_zero.2 λe=>h ?_
  have:a= #[]:=Array.eq_empty_of_size_eq_zero e
  rw [this]
def pcF:Nat→ByteArray→List ByteArray
 |0,_=>[]
 |f+1,s=>bif decide ((s.size:Int)>128) then s.extract 0 128::pcF f (s.extract 128 s.size) else bif decide (s≠⟨#[]⟩) then [s] else []
def kC (s:ByteArray):List ByteArray:=pcF (s.size+1) s
theorem acV {f:Nat}{s:ByteArray}(h:decide ((s.size:Int)>128)=true):pcF (f+1) s=s.extract 0 128::pcF f (s.extract 128 s.size):=by rw [pcF,h];rfl
theorem acU {f:Nat}{s:ByteArray}(h:decide ((s.size:Int)>128)=false) (h2:decide (s≠⟨#[]⟩)=true):pcF (f+1) s=[s]:=by rw [pcF,h,h2];rfl
theorem acT {f:Nat}{s:ByteArray}(h:decide ((s.size:Int)>128)=false) (h2:decide (s≠⟨#[]⟩)=false):pcF (f+1) s=[]:=by rw [pcF,h,h2];rfl
theorem YL {u:ByteArray}(h:(u.size:Int)>0):(u.extract 0 ((u.size:Int)-1).toNat).size+1=u.size:=by
 rw [ZC5,Nat.min_eq_left (by omega)];omega
def lI (s:ByteArray):Prop:=s.size≤1000000
def lC (s:ByteArray):AV:=.s (.xs 0 1 0 (kC s).length)
def nQ (s:ByteArray):List AV:=[.rs ab (kC s)]
def qw:cn where
 A:=[.s .str]
 B:=[]
 pre:=λx b=>lI x
 r:=λx b _=>lC x
 o:=λx b _=>nQ x
 nf:=1
theorem IE:Has Tryz.prog 228 qw:=by
 refine Has.fm zT zF zF (l:=[]) trivial Tryz.func228 ?_
 rintro (s:ByteArray) _ (hp:lI s)
 show vc _ _ _ _ (entry [.str s] []) _
 unfold lI at hp
 refine⟨aa,?_⟩
 all_goals first|refine aw ?_|refine ax ?_|exact a8|exact a7|skip
 refine cN (l:=[]) (ex:=zT) (wr:=zF) (pt:=zF) trivial [] (λy:Nat×List ByteArray×ByteArray=>[(.s 0,.str y.2.2),(.s 3,.s (.xs 1004 1 0 y.2.1.length)),(.b 1004,.rs ab y.2.1)]) (λy=>y.2.2.size<y.1∧y.1≤s.size+1∧y.2.1.length+y.1≤s.size+1∧y.2.1++pcF y.1 y.2.2=kC s) (λy=>y.1) (s.size+1,[],s) [] ⟨ZD9 _,ZB5 _,by show 0+(s.size+1)≤s.size+1;omega,rfl⟩ dM ?_
 rintro⟨f,out,u⟩ ⟨(hf:u.size<f),(hf1:f≤s.size+1),(hol:out.length+f≤s.size+1),(he:out++pcF f u=kC s)⟩
 refine⟨λw1=>⟨⟨?_,?_,?_⟩,aa,⟨⟨?_,?_⟩,?_,?_⟩,⟨?_,?_,?_⟩,?_⟩,λw2=>⟨λw3=>⟨aa,⟨⟨?_,?_⟩,?_,?_⟩,?_⟩,λw4=>?_⟩⟩
 all_goals first|refine aw ?_|refine ax ?_|exact a8|exact a7|skip
 ·obtain⟨g,rfl⟩:∃g,f=g+1:=⟨f-1,by omega⟩
  have dj:decide ((u.size:Int)>128)=true:=w1
  have ame:=aJ dj
  refine⟨(g,out++[u.extract 0 128],u.extract 128 u.size),[(1004,1012)],?_,?_,?_⟩
  rotate_right
  ·exact bV
  ·refine⟨by show (u.extract 128 u.size).size<g;rw [ZC5];omega,by show g≤s.size+1;omega,by show (out++[u.extract 0 128]).length+g≤s.size+1;rw [ZA0];show out.length+1+g≤_;omega,?_⟩
   rw [←he,acV dj,ZD2];rfl
  ·exact ZD9 g
 ·obtain⟨g,rfl⟩:∃g,f=g+1:=⟨f-1,by omega⟩
  have e:kC s=out++[u]:=by rw [←he,acU w2 w3]
  refine⟨[1020],[],_,_,_,ζ,az,(),aa,?_,?_,ζ⟩
  ·(show _=lC s);unfold lC;first|(rw [e,ZA0];rfl)|(rw [e];rfl)|rfl
  ·(show _=nQ s);unfold nQ;first|(rw [e,ZA0];rfl)|(rw [e];rfl)|rfl
 ·obtain⟨g,rfl⟩:∃g,f=g+1:=⟨f-1,by omega⟩
  have e:kC s=out:=by rw [←he,acT w2 w4,ZE5]
  refine⟨[1004],[],_,_,_,ζ,az,(),aa,?_,?_,ζ⟩
  ·(show _=lC s);unfold lC;first|(rw [e];rfl)|rfl
  ·(show _=nQ s);unfold nQ;first|(rw [e];rfl)|rfl
def zrB (s:ByteArray):Bool:=decide ((s.size:Int)>0)&&decide (bL s ((s.size:Int)-1).toNat=0)
def zrF:Nat→ByteArray→ByteArray
 |0,s=>s
 |f+1,s=>bif zrB s then zrF f (s.extract 0 ((s.size:Int)-1).toNat) else s
def zrM (s:ByteArray):ByteArray:=zrF (s.size+1) s
theorem agz {f:Nat}{s:ByteArray}(h:zrB s=true):zrF (f+1) s=zrF f (s.extract 0 ((s.size:Int)-1).toNat):=by rw [zrF,h];rfl
theorem acj {f:Nat}{s:ByteArray}(h:zrB s=false):zrF (f+1) s=s:=by rw [zrF,h];rfl
def qb (s:ByteArray):Prop:=s.size≤1000000
def pM (s:ByteArray):AV:=.s (.str (zrM s))
def abj (s:ByteArray):List AV:=[]
def vU:cn where
 A:=[.s .str]
 B:=[]
 pre:=λx b=>qb x
 r:=λx b _=>pM x
 o:=λx b _=>abj x
theorem TD:Has Tryz.prog 230 vU:=by
 refine Has.fm zT zF zF (l:=[]) trivial Tryz.func230 ?_
 rintro (s:ByteArray) _ (hp:qb s)
 show vc _ _ _ _ (entry [.str s] []) _
 unfold qb at hp
 refine cN (l:=[]) (ex:=zT) (wr:=zF) (pt:=zF) trivial [] (λy:Nat×ByteArray=>[(.s 0,.str y.2)]) (λy=>y.2.size<y.1∧y.2.size≤1000000∧zrF y.1 y.2=zrM s) (λy=>y.1) (s.size+1,s) [] ⟨ZD9 _,hp,rfl⟩ dM ?_
 rintro⟨f,u⟩ ⟨(hf:u.size<f),(hu:u.size≤1000000),(he:zrF f u=zrM s)⟩
 obtain⟨g,rfl⟩:∃g,f=g+1:=⟨f-1,by omega⟩
 refine⟨aa,λw1=>⟨⟨?_,?_⟩,⟨?_,?_⟩,λw2=>⟨⟨?_,?_⟩,⟨?_,?_,?_⟩,?_⟩,λw3=>?_⟩,λw4=>?_⟩
 all_goals first|refine aw ?_|refine ax ?_|exact a8|exact a7|skip
 ·have hb:zrB u=true:=by unfold zrB;rw [w1,w2];rfl
  have h1:(u.size:Int)>0:=aJ w1
  refine⟨(g,u.extract 0 ((u.size:Int)-1).toNat),[],?_,?_,?_⟩
  rotate_right
  ·exact bV
  ·exact⟨by show (u.extract 0 ((u.size:Int)-1).toNat).size<g;have:=YL h1;omega,by show (u.extract 0 ((u.size:Int)-1).toNat).size≤1000000;have:=YL h1;omega,by rw [←he,agz hb]⟩
  ·exact ZD9 g
 ·have hb:zrB u=false:=by unfold zrB;rw [w1,show decide (bL u ((u.size:Int)-1).toNat=0)=false from w3];rfl
  have e:zrM s=u:=by rw [←he,acj hb]
  refine⟨[],[],_,_,_,ζ,az,(),aa,?_,?_,ζ⟩
  ·(show _=pM s);unfold pM;first|(rw [e];rfl)|rfl
  ·rfl
 ·have hb:zrB u=false:=by unfold zrB;rw [show decide ((u.size:Int)>0)=false from w4];rfl
  have e:zrM s=u:=by rw [←he,acj hb]
  refine⟨[],[],_,_,_,ζ,az,(),aa,?_,?_,ζ⟩
  ·(show _=pM s);unfold pM;first|(rw [e];rfl)|rfl
  ·rfl
def kG (n:Int):ByteArray:=fa (List.replicate (max 0 n).toNat 0)
def jP (n:Int):Prop:=n≤100000
def s4 (n:Int):AV:=.s (.str (kG n))
def R1 (n:Int):List AV:=[]
def iF:cn where
 A:=[.s .int]
 B:=[]
 pre:=λx b=>jP x
 r:=λx b _=>s4 x
 o:=λx b _=>R1 x
theorem tI:Has Tryz.prog 214 iF:=by
 refine Has.fm zT zF zF (l:=[]) trivial Tryz.func214 ?_
 rintro (n:Int) _ (hp:jP n)
 show vc _ _ _ _ (entry [.int n] []) _
 have hn:n≤100000:=hp
 refine⟨⟨?_,⟨?_,?_⟩⟩,⟨⟨?_,?_⟩,?_⟩⟩
 all_goals first|refine aw ?_|refine ax ?_|exact a8|exact a7|skip
 refine⟨[],[],_,_,_,ζ,az,(),aa,?_,?_,ζ⟩
 ·(show _=s4 n);unfold s4;first|rfl
 ·rfl
end GL
namespace GL
def LU (s:ByteArray) (k:Nat):Bool:=decide (bL s k<97)||decide (bL s k>122)
def nmF:Nat→ByteArray→Nat→Bool
 |0,_,_=>true
 |f+1,s,k=>bif LU s k then false else nmF f s (k+1)
def fC (s:ByteArray):Bool:=nmF s.size s 0&&ik s.size 1 4
theorem agJ {f:Nat}{s:ByteArray}{k:Nat}(h:LU s k=true):nmF (f+1) s k=false:=by rw [nmF,h];rfl
theorem aiZ {f:Nat}{s:ByteArray}{k:Nat}(h:LU s k=false):nmF (f+1) s k=nmF f s (k+1):=by rw [nmF,h];rfl
theorem SR {s:ByteArray}(h:nmF s.size s 0=false):fC s=false:=by unfold fC;rw [h];rfl
theorem adz {s:ByteArray}(h:nmF s.size s 0=true):fC s=ik s.size 1 4:=by unfold fC;rw [h];rfl
def mP (s:ByteArray):Prop:=s.size≤1000000
def kH (s:ByteArray):AV:=.s (.q (fC s))
def abu (s:ByteArray):List AV:=[]
def oi:cn where
 A:=[.s .str]
 B:=[]
 pre:=λx b=>mP x
 r:=λx b _=>kH x
 o:=λx b _=>abu x
theorem zM:Has Tryz.prog 188 oi:=by
 refine Has.fm zT zF zF (l:=[(35,hZ)]) ⟨iA,aa⟩ Tryz.func188 ?_
 rintro (s:ByteArray) _ (hp:mP s)
 show vc _ _ _ _ (entry [.str s] []) _
 unfold mP at hp
 refine cN (l:=[(35,hZ)]) (ex:=zT) (wr:=zF) (pt:=zF) ⟨iA,aa⟩ [.s 0] (λy:Nat×Nat=>[(.s 3,.int y.1)]) (λy=>y.1+y.2=s.size∧nmF y.2 s y.1=nmF s.size s 0) (λy=>y.2) (0,s.size) [] ⟨ZA6 _,rfl⟩ dM ?_
 rintro⟨k,f⟩ ⟨(hk:k+f=s.size),(he:nmF f s k=nmF s.size s 0)⟩
 have hb:=xf s k
 have bU:decide ((k:Int)<s.size)=true→∃g,f=g+1:=λh=>⟨f-1,by have:=aJ h;omega⟩
 refine⟨λw1=>⟨⟨?_,?_⟩,aa,λw2=>?_,λw3=>⟨⟨?_,?_⟩,λw4=>?_,λw5=>⟨⟨?_,?_⟩,?_⟩⟩⟩,λw6=>⟨⟨tv4,aa⟩,λx7 w8=>?_⟩⟩
 all_goals first|refine aw ?_|refine ax ?_|exact a8|exact a7|skip
 ·obtain⟨g,rfl⟩:=bU w1
  have e:fC s=false:=SR (by rw [←he];exact agJ (by unfold LU;rw [show decide (bL s k<97)=true from w2];rfl))
  refine⟨[],[],_,_,_,ζ,az,(),aa,?_,?_,ζ⟩
  ·(show _=kH s);unfold kH;first|(rw [e];rfl)|rfl
  ·rfl
 ·obtain⟨g,rfl⟩:=bU w1
  have e:fC s=false:=SR (by rw [←he];exact agJ (by unfold LU;rw [show decide (bL s k>122)=true from w4,ZC4]))
  refine⟨[],[],_,_,_,ζ,az,(),aa,?_,?_,ζ⟩
  ·(show _=kH s);unfold kH;first|(rw [e];rfl)|rfl
  ·rfl
 ·obtain⟨g,rfl⟩:=bU w1
  refine⟨(k+1,g),[],?_,?_,?_⟩
  rotate_right
  ·exact bV
  ·exact⟨by show k+1+g=s.size;omega,by rw [←he];exact (aiZ (by unfold LU;rw [show decide (bL s k<97)=false from w3,show decide (bL s k>122)=false from w5];rfl)).symm⟩
  ·exact ZD9 g
 ·have hf:f=0:=by have:=aA (p:=(k:Int)<s.size) w6;omega
  subst hf
  have e:fC s=ik s.size 1 4:=adz (by rw [←he];rfl)
  refine⟨[],[],_,_,_,ζ,az,(),aa,?_,?_,ζ⟩
  ·(show _=kH s);unfold kH;first|(rw [e];rfl)|rfl
  ·rfl
def kf (l:List eU) (i:Nat):Bool:= !(fC (nth aK l i).1)||(!(ik (nth aK l i).2 1 15)||(decide ((i:Int)>0)&& !(Op.bytesLess (nth aK l ((i:Int)-1).toNat).1.toList (nth aK l i).1.toList)))
def z7:Nat→List eU→Nat→Bool
 |0,_,_=>true
 |f+1,l,i=>bif kf l i then false else z7 f l (i+1)
def eE (l:List eU):Bool:=z7 l.length l 0&&decide ((l.length:Int)≤12)
theorem PT {f:Nat}{l:List eU}{k:Nat}(h:kf l k=true):z7 (f+1) l k=false:=by rw [z7,h];rfl
theorem XU {f:Nat}{l:List eU}{k:Nat}(h:kf l k=false):z7 (f+1) l k=z7 f l (k+1):=by rw [z7,h];rfl
theorem vN {l:List eU}(h:z7 l.length l 0=false):eE l=false:=by unfold eE;rw [h];rfl
theorem UB {l:List eU}(h:z7 l.length l 0=true):eE l=decide ((l.length:Int)≤12):=by unfold eE;rw [h];rfl
theorem aeQ {l:List eU}{i:Nat}(h:(!(fC (nth aK l i).1))=true):kf l i=true:=by unfold kf;rw [h];rfl
theorem aeP {l:List eU}{i:Nat}(h:(!(ik (nth aK l i).2 1 15))=true):kf l i=true:=by unfold kf;rw [h,Bool.true_or,ZC4]
theorem aeO {l:List eU}{i:Nat}(h:decide ((i:Int)>0)=true) (h2:(!(Op.bytesLess (nth aK l ((i:Int)-1).toNat).1.toList (nth aK l i).1.toList))=true):kf l i=true:=by unfold kf;rw [h,h2,Bool.and_true,ZC4,ZC4]
theorem aeR {l:List eU}{i:Nat}(h1:(!(fC (nth aK l i).1))=false) (h2:(!(ik (nth aK l i).2 1 15))=false) (h3:decide ((i:Int)>0)=false):kf l i=false:=by unfold kf;rw [h1,h2,h3];rfl
theorem ab5 {l:List eU}{i:Nat}(h1:(!(fC (nth aK l i).1))=false) (h2:(!(ik (nth aK l i).2 1 15))=false) (h4:(!(Op.bytesLess (nth aK l ((i:Int)-1).toNat).1.toList (nth aK l i).1.toList))=false):kf l i=false:=by unfold kf;rw [h1,h2,h4,ZD7];rfl
structure afx (l:List eU):Prop where
 len:l.length≤1000000
 sz:∀e∈l,e.1.size≤1000000
theorem afx.at {l:List eU}(h:afx l) (k:Nat):(nth aK l k).1.size≤1000000:=by
 by_cases hk:k<l.length
 ·exact h.sz _ (bR (ek:=aK) hk)
 ·unfold nth;rw [ZD8 (by omega)];exact ZA7 _
def nt (l:List eU):Prop:=afx l
def eX (l:List eU):AV:=.s (.q (eE l))
def OT (l:List eU):List AV:=[]
def oj:cn where
 A:=[.s (.vz aK)]
 B:=[]
 pre:=λx b=>nt x
 r:=λx b _=>eX x
 o:=λx b _=>OT x
theorem D4:Has Tryz.prog 246 oj:=by
 refine Has.fm zT zF zF (l:=[(35,hZ),(188,oi)]) ⟨iA,zM,aa⟩ Tryz.func246 ?_
 rintro (l:List eU) _ (hp:nt l)
 show vc _ _ _ _ (entry [.s (.vz aK l)] []) _
 have hE:afx l:=hp
 have hlen:=hE.len
 refine cN (l:=[(35,hZ),(188,oi)]) (ex:=zT) (wr:=zF) (pt:=zF) ⟨iA,zM,aa⟩ [.s 0] (λy:Nat×Nat=>[(.s 3,.int y.1)]) (λy=>y.1+y.2=l.length∧z7 y.2 l y.1=z7 l.length l 0) (λy=>y.2) (0,l.length) [] ⟨ZA6 _,rfl⟩ dM ?_
 rintro⟨k,f⟩ ⟨(hk:k+f=l.length),(he:z7 f l k=z7 l.length l 0)⟩
 have bU:decide ((k:Int)<(l.length:Int))=true→k<l.length:=λh=>by have:=aJ h;omega
 have hg:decide ((k:Int)<(l.length:Int))=true→∃g,f=g+1:=λh=>⟨f-1,by have:=bU h;omega⟩
 refine⟨λw1=>⟨Sq0,Sq10,ζ,Sq3,Sq11,ζ,[.s 10,.s 11],Sq12,ζ,⟨?_,?_⟩,Sq12,Sq13,ζ,Sq13,Sq14,ζ,Sq14,Sq15,ζ,⟨tv2,?_⟩,?_,λx2 w3=>⟨Sq15,Sq16,ζ,Sq16,Sq17,ζ,aa,λw4=>⟨Sq17,Sq18,ζ,Sq17,Sq19,ζ,Sq17,Sq20,ζ,Sq17,Sq21,ζ,Sq17,Sq22,ζ,Sq17,Sq23,ζ,Sq17,Sq24,ζ,[.s 17,.s 24],Sq25,ζ,Sq25,Sq26,ζ,Sq26,Sq27,ζ,Sq26,Sq28,ζ,Sq26,Sq29,ζ,Sq29,Sq30,ζ,Sq29,Sq31,ζ,Sq29,Sq32,ζ,Sq29,Sq33,ζ,Sq29,Sq34,ζ,Sq29,Sq35,ζ,Sq29,Sq36,ζ,Sq29,Sq37,ζ,Sq29,Sq38,ζ,Sq29,Sq39,ζ,Sq29,Sq40,ζ,Sq29,Sq41,ζ,Sq26,Sq42,ζ,[.s 26,.s 42],Sq43,ζ,?_⟩,λw5=>⟨[.s 17,.s 0],Sq18,ζ,[.s 17,.s 3],Sq19,ζ,[.s 17,.s 18,.s 19],Sq20,ζ,⟨?_,?_⟩,[.s 17,.s 20],Sq21,ζ,[.s 17,.s 21],Sq22,ζ,[.s 17,.s 22],Sq23,ζ,⟨tv4,aa⟩,?_,λx6 w7=>⟨[.s 17,.s 23],Sq24,ζ,[.s 17,.s 24],Sq25,ζ,Sq25,Sq26,ζ,aa,λw8=>⟨Sq26,Sq27,ζ,Sq26,Sq28,ζ,Sq26,Sq29,ζ,Sq29,Sq30,ζ,Sq29,Sq31,ζ,Sq29,Sq32,ζ,Sq29,Sq33,ζ,Sq29,Sq34,ζ,Sq29,Sq35,ζ,Sq29,Sq36,ζ,Sq29,Sq37,ζ,Sq29,Sq38,ζ,Sq29,Sq39,ζ,Sq29,Sq40,ζ,Sq29,Sq41,ζ,Sq26,Sq42,ζ,[.s 26,.s 42],Sq43,ζ,?_⟩,λw9=>⟨[.s 26,.s 3],Sq27,ζ,[.s 26,.s 27],Sq28,ζ,[.s 26,.s 28],Sq29,ζ,aa,λdy=>⟨[.s 29,.s 0],Sq30,ζ,[.s 29,.s 3],Sq31,ζ,[.s 29,.s 31],Sq32,ζ,⟨?_,?_⟩,[.s 29,.s 30,.s 32],Sq33,ζ,⟨?_,?_⟩,[.s 29,.s 33],Sq34,ζ,[.s 29,.s 34],Sq35,ζ,[.s 29,.s 0],Sq36,ζ,[.s 29,.s 3],Sq37,ζ,[.s 29,.s 36,.s 37],Sq38,ζ,⟨?_,?_⟩,[.s 29,.s 38],Sq39,ζ,[.s 29,.s 39],Sq40,ζ,[.s 29,.s 35,.s 40],Sq41,ζ,[.s 26,.s 29,.s 41],Sq42,ζ,[.s 26,.s 42],Sq43,ζ,λkA=>?_,λdJ=>⟨⟨?_,?_⟩,?_⟩⟩,λiU=>⟨Sq29,Sq30,ζ,Sq29,Sq31,ζ,Sq29,Sq32,ζ,Sq29,Sq33,ζ,Sq29,Sq34,ζ,Sq29,Sq35,ζ,Sq29,Sq36,ζ,Sq29,Sq37,ζ,Sq29,Sq38,ζ,Sq29,Sq39,ζ,Sq29,Sq40,ζ,Sq29,Sq41,ζ,[.s 26,.s 29,.s 41],Sq42,ζ,[.s 26,.s 42],Sq43,ζ,⟨?_,?_⟩,?_⟩⟩⟩⟩⟩⟩,λgO=>?_⟩
 all_goals first|refine aw ?_|refine ax ?_|exact a8|(dsimp only [oi,mP];omega)|exact a7|exact hE.at _|exact bU w1|skip
 ·obtain⟨g,rfl⟩:=hg w1
  have e:eE l=false:=vN (by rw [←he];exact PT (aeQ (show (!(fC (nth aK l k).1))=true from w4)))
  refine⟨[],[],_,_,_,ζ,az,(),aa,?_,?_,ζ⟩
  ·(show _=eX l);unfold eX;first|(rw [e];rfl)|rfl
  ·rfl
 ·obtain⟨g,rfl⟩:=hg w1
  have e:eE l=false:=vN (by rw [←he];exact PT (aeP (show (!(ik (nth aK l k).2 1 15))=true from w8)))
  refine⟨[],[],_,_,_,ζ,az,(),aa,?_,?_,ζ⟩
  ·(show _=eX l);unfold eX;first|(rw [e];rfl)|rfl
  ·rfl
 ·obtain⟨g,rfl⟩:=hg w1
  have e:eE l=false:=vN (by rw [←he];exact PT (aeO dy kA))
  refine⟨[],[],_,_,_,ζ,az,(),aa,?_,?_,ζ⟩
  ·(show _=eX l);unfold eX;first|(rw [e];rfl)|rfl
  ·rfl
 ·obtain⟨g,rfl⟩:=hg w1
  refine⟨(k+1,g),[],?_,?_,?_⟩
  rotate_right
  ·exact bV
  ·exact⟨by show k+1+g=l.length;omega,by rw [←he];exact (XU (ab5 (show (!(fC (nth aK l k).1))=false from w5) (show (!(ik (nth aK l k).2 1 15))=false from w9) dJ)).symm⟩
  ·exact ZD9 g
 ·obtain⟨g,rfl⟩:=hg w1
  refine⟨(k+1,g),[],?_,?_,?_⟩
  rotate_right
  ·exact bV
  ·exact⟨by show k+1+g=l.length;omega,by rw [←he];exact (XU (aeR (show (!(fC (nth aK l k).1))=false from w5) (show (!(ik (nth aK l k).2 1 15))=false from w9) iU)).symm⟩
  ·exact ZD9 g
 ·have hf:f=0:=by have:=aA (p:=(k:Int)<(l.length:Int)) gO;omega
  subst hf
  have e:eE l=decide ((l.length:Int)≤12):=UB (by rw [←he];rfl)
  refine⟨[],[],_,_,_,ζ,az,(),aa,?_,?_,ζ⟩
  ·(show _=eX l);unfold eX;first|(rw [e];rfl)|rfl
  ·rfl
def rm (out:ByteArray) (e:eU):ByteArray:=out++e.1++⟨#[61]⟩++bX e.2++⟨#[59]⟩
def eh (l:List eU):ByteArray:=l.foldl rm ⟨#[]⟩
structure ach (l:List eU):Prop where
 len:l.length≤1000
 sz:∀e∈l,e.1.size≤1000000
 id:∀e∈l,0≤e.2∧e.2≤999999999
def p9 (l:List eU):Prop:=ach l
def xV (l:List eU):AV:=.s (.str (eh l))
def abh (l:List eU):List AV:=[]
def qz:cn where
 A:=[.s (.vz aK)]
 B:=[]
 pre:=λx b=>p9 x
 r:=λx b _=>xV x
 o:=λx b _=>abh x
theorem IJ:Has Tryz.prog 205 qz:=by
 refine Has.fm zT zF zF (l:=[(161,j5)]) ⟨wR,aa⟩ Tryz.func205 ?_
 rintro (l:List eU) _ (hp:p9 l)
 show vc _ _ _ _ (entry [.s (.vz aK l)] []) _
 have hE:ach l:=hp
 have hlen:=hE.len
 refine ?_
 all_goals first|refine aw ?_|refine ax ?_|exact a8|(dsimp only [j5,mK];omega)|exact a7|skip
 refine cN (l:=[(161,j5)]) (ex:=zT) (wr:=zF) (pt:=zF) ⟨wR,aa⟩ [.s 0] (λy:Nat×ByteArray=>[(.s 3,.str y.2),(.s 4,.int y.1)]) (λy=>y.1≤l.length∧y.2.size≤2000000*y.1∧(l.drop y.1).foldl rm y.2=eh l) (λy=>l.length-y.1) (0,⟨#[]⟩) [] ⟨ZA7 _,ZA7 _,rfl⟩ dM ?_
 rintro⟨i,out⟩ ⟨(hi:i≤l.length),(ho:out.size≤2000000*i),(hr:(l.drop i).foldl rm out=eh l)⟩
 have bU:decide ((i:Int)<(l.length:Int))=true→i<l.length:=λh=>by have:=aJ h;omega
 have dj:i<l.length→(nth aK l i).1.size≤1000000:=λh=>hE.sz _ (bR (ek:=aK) h)
 have hid:i<l.length→0≤(nth aK l i).2∧(nth aK l i).2≤999999999:=λh=>hE.id _ (bR (ek:=aK) h)
 have ahT:i<l.length→(bX (nth aK l i).2).size≤12:=λh=>db (ZE0 (hid h).2 (by omega))
 have hs1:i<l.length→(out++(nth aK l i).1).size≤2001000000:=λh=>by rw [ZB2];have:=dj h;omega
 have hs2:i<l.length→(out++(nth aK l i).1++(⟨#[61]⟩:ByteArray)).size≤2001000001:=λh=>by rw [ZB2,sz1];have:=hs1 h;omega
 have hs3:i<l.length→(out++(nth aK l i).1++(⟨#[61]⟩:ByteArray)++bX (nth aK l i).2).size≤2001000100:=λh=>by rw [ZB2];have:=hs2 h;have:=ahT h;omega
 have hA:i<l.length→(0:Int)≤(nth aK l i).2:=λh=>(hid h).1
 have hB:i<l.length→((nth aK l i).2:Int)≤999999999999:=λh=>ZE0 (hid h).2 (by omega)
 refine⟨λw1=>⟨Sq3,Sq11,ζ,Sq0,Sq12,ζ,Sq4,Sq13,ζ,[.s 12,.s 13],Sq14,ζ,⟨?_,?_⟩,Sq14,Sq15,ζ,Sq15,Sq16,ζ,[.s 11,.s 16],Sq17,ζ,?_,Sq17,Sq18,ζ,?_,Sq0,Sq19,ζ,Sq4,Sq20,ζ,[.s 19,.s 20],Sq21,ζ,⟨?_,?_⟩,Sq21,Sq22,ζ,Sq22,Sq23,ζ,Sq23,Sq24,ζ,⟨tv2,?_,?_⟩,?_,λx2 w3=>⟨[.s 18,.s 24],Sq25,ζ,?_,Sq25,Sq26,ζ,?_,Sq26,Sq3,ζ,⟨?_,?_⟩,?_⟩⟩,λw4=>?_⟩
 all_goals first|refine aw ?_|refine ax ?_|exact a8|(dsimp only [j5,mK];omega)|exact a7|exact bU w1|(unfold imax;simp only [ZB2,ZA5,sz1];have:=dj (bU w1);have:=ahT (bU w1);omega)|skip
 ·exact hB (bU w1)
 ·have mo:=bU w1
  refine⟨(i+1,rm out (nth aK l i)),[],?_,?_,?_⟩
  rotate_right
  ·exact bV
  ·refine⟨mo,?_,by rw [←hr,bW (ek:=aK) mo];rfl⟩
   show (out++(nth aK l i).1++⟨#[61]⟩++bX (nth aK l i).2++⟨#[59]⟩).size≤2000000*(i+1)
   have a1:=dj mo;have a2:=ahT mo
   simp only [ZB2]
   rw [show (⟨#[61]⟩:ByteArray).size=1 from rfl,show (⟨#[59]⟩:ByteArray).size=1 from rfl];omega
  ·show l.length-(i+1)<l.length-i;omega
 ·have FL:¬i<l.length:=by have:=aA (p:=(i:Int)<(l.length:Int)) (by assumption);omega
  have e:eh l=out:=by rw [←hr,ZB3 (by omega)];rfl
  refine⟨[],[],_,_,_,ζ,az,(),aa,?_,?_,ζ⟩
  ·(show _=xV l);unfold xV;first|(rw [e];rfl)|rfl
  ·rfl
def atF:Nat→List eU→Nat→ByteArray→Int
 |0,_,_,_=> -1
 |f+1,l,i,name=>bif decide ((nth aK l i).1=name) then (i:Int) else atF f l (i+1) name
def lu (l:List eU) (name:ByteArray):Int:=atF l.length l 0 name
theorem ag6 {f:Nat}{l:List eU}{i:Nat}{name:ByteArray}(h:decide ((nth aK l i).1=name)=true):atF (f+1) l i name=(i:Int):=by rw [atF,h];rfl
theorem ag7 {f:Nat}{l:List eU}{i:Nat}{name:ByteArray}(h:decide ((nth aK l i).1=name)=false):atF (f+1) l i name=atF f l (i+1) name:=by rw [atF,h];rfl
def o9 (l:List eU) (name:ByteArray):Prop:=l.length≤1000000
def r8 (l:List eU) (name:ByteArray):AV:=.s (.int (lu l name))
def ac9 (l:List eU) (name:ByteArray):List AV:=[]
def oZ:cn where
 A:=[.s (.vz aK),.s .str]
 B:=[]
 pre:=λx b=>o9 (x.1) (x.2)
 r:=λx b _=>r8 (x.1) (x.2)
 o:=λx b _=>ac9 (x.1) (x.2)
theorem FG:Has Tryz.prog 182 oZ:=by
 refine Has.fm zT zF zF (l:=[]) trivial Tryz.func182 ?_
 rintro⟨(l:List eU),(name:ByteArray)⟩ _ (hp:o9 l name)
 show vc _ _ _ _ (entry [.s (.vz aK l),.str name] []) _
 have hlen:l.length≤1000000:=hp
 refine cN (l:=[]) (ex:=zT) (wr:=zF) (pt:=zF) trivial [.s 0,.s 1] (λy:Nat×Nat=>[(.s 5,.int y.1)]) (λy=>y.1+y.2=l.length∧atF y.2 l y.1 name=lu l name) (λy=>y.2) (0,l.length) [] ⟨ZA6 _,rfl⟩ dM ?_
 rintro⟨k,f⟩ ⟨(hk:k+f=l.length),(he:atF f l k name=lu l name)⟩
 have bU:decide ((k:Int)<(l.length:Int))=true→k<l.length:=λh=>by have:=aJ h;omega
 have hg:decide ((k:Int)<(l.length:Int))=true→∃g,f=g+1:=λh=>⟨f-1,by have:=bU h;omega⟩
 refine⟨λw1=>⟨⟨?_,?_⟩,⟨λw2=>?_,λw3=>⟨⟨?_,?_⟩,?_⟩⟩⟩,λw4=>?_⟩
 all_goals first|refine aw ?_|refine ax ?_|exact a8|exact a7|exact bU w1|skip
 ·obtain⟨g,rfl⟩:=hg w1
  have e:lu l name=(k:Int):=by rw [←he];exact ag6 w2
  refine⟨[],[],_,_,_,ζ,az,(),aa,?_,?_,ζ⟩
  ·(show _=r8 l name);unfold r8;first|(rw [e];rfl)|rfl
  ·rfl
 ·obtain⟨g,rfl⟩:=hg w1
  refine⟨(k+1,g),[],?_,?_,?_⟩
  rotate_right
  ·exact bV
  ·exact⟨by show k+1+g=l.length;omega,by rw [←he];exact (ag7 w3).symm⟩
  ·exact ZD9 g
 ·have hf:f=0:=by have:=aA (p:=(k:Int)<(l.length:Int)) w4;omega
  subst hf
  have e:lu l name= -1:=by rw [←he];rfl
  refine⟨[],[],_,_,_,ζ,az,(),aa,?_,?_,ζ⟩
  ·(show _=r8 l name);unfold r8;first|(rw [e];rfl)|rfl
  ·rfl
def E2 (e x:eU) (done:Bool):Bool:= !done&& !(Op.bytesLess x.1.toList e.1.toList||x.1.toList==e.1.toList)
def xr:List eU→eU→Bool→List eU→List eU×Bool
 |[],_,done,out=>(out,done)
 |x::l,e,done,out=>bif E2 e x done then xr l e true (out++[e]++[x]) else xr l e done (out++[x])
def wi (e:eU) (r:List eU×Bool):List eU:=bif !r.2 then r.1++[e] else r.1
def qR (l:List eU) (e:eU):List eU:=wi e (xr l e false [])
theorem YE {x e:eU}{l out:List eU}{done:Bool}(h:E2 e x done=true):xr (x::l) e done out=xr l e true (out++[e]++[x]):=by rw [xr,h];rfl
theorem P3 {x e:eU}{l out:List eU}{done:Bool}(h:E2 e x done=false):xr (x::l) e done out=xr l e done (out++[x]):=by rw [xr,h];rfl
def qa (l:List eU) (e:eU):Prop:=l.length≤1000
def pJ (l:List eU) (e:eU):AV:=.s (.xs 0 2 0 (qR l e).length)
def sj (l:List eU) (e:eU):List AV:=[.rs aK (qR l e)]
def qA:cn where
 A:=[.s (.vz aK),.a [.str,.int]]
 B:=[]
 pre:=λx b=>qa (x.1) (x.2)
 r:=λx b _=>pJ (x.1) (x.2)
 o:=λx b _=>sj (x.1) (x.2)
 nf:=1
theorem IK:Has Tryz.prog 176 qA:=by
 refine Has.fm zT zF zF (l:=[]) trivial Tryz.func176 ?_
 rintro⟨(l:List eU),⟨(e1:ByteArray),(e2:Int)⟩⟩ _ (hp:qa l (e1,e2))
 show vc _ _ _ _ (entry [.s (.vz aK l),.a [.str e1,.int e2]] []) _
 have hlen:l.length≤1000:=hp
 refine⟨aa,?_⟩
 all_goals first|refine aw ?_|refine ax ?_|exact a8|exact a7|skip
 refine cN (l:=[]) (ex:=zT) (wr:=zF) (pt:=zF) trivial [.s 0,.s 3,.b 1003] (λy:Nat×List eU×Bool=>[(.s 5,.s (.xs 1008 2 0 y.2.1.length)),(.s 6,.s (.q y.2.2)),(.s 7,.int y.1),(.b 1008,.rs aK y.2.1)]) (λy=>y.1≤l.length∧y.2.1.length≤2*y.1∧xr (l.drop y.1) (e1,e2) y.2.2 y.2.1=xr l (e1,e2) false []) (λy=>l.length-y.1) (0,[],false) [] ⟨ZA7 _,ZA7 _,rfl⟩ dM ?_
 rintro⟨i,out,dn⟩ ⟨(hi:i≤l.length),(ho:out.length≤2*i),(hr:xr (l.drop i) (e1,e2) dn out=xr l (e1,e2) false [])⟩
 have bU:decide ((i:Int)<(l.length:Int))=true→i<l.length:=λh=>by have:=aJ h;omega
 refine⟨λw1=>⟨Sq6,Sq15,ζ,Sq15,Sq16,ζ,Sq16,Sq17,ζ,aa,λw2=>⟨[.s 17,.s 0],Sq18,ζ,[.s 17,.s 7],Sq19,ζ,[.s 17,.s 18,.s 19],Sq20,ζ,⟨?_,?_⟩,[.s 17,.s 20],Sq21,ζ,[.s 17,.s 21],Sq22,ζ,[.s 17,.s 3],Sq23,ζ,[.s 17,.s 23,.b 1003],Sq24,ζ,[.s 17,.s 22,.s 24],Sq25,ζ,[.s 17,.s 25],Sq26,ζ,λw3=>⟨aa,⟨⟨?_,?_⟩,?_,?_⟩,⟨?_,?_⟩,aa,⟨⟨?_,?_⟩,?_,?_⟩,⟨?_,?_⟩,?_⟩,λw4=>⟨⟨?_,?_⟩,aa,⟨⟨?_,?_⟩,?_,?_⟩,⟨?_,?_⟩,?_⟩⟩,λw5=>⟨Sq17,Sq18,ζ,Sq17,Sq19,ζ,Sq17,Sq20,ζ,Sq17,Sq21,ζ,Sq17,Sq22,ζ,Sq17,Sq23,ζ,Sq17,Sq24,ζ,Sq17,Sq25,ζ,[.s 17,.s 25],Sq26,ζ,⟨?_,?_⟩,aa,⟨⟨?_,?_⟩,?_,?_⟩,⟨?_,?_⟩,?_⟩⟩,λw6=>⟨λw7=>⟨aa,⟨⟨?_,?_⟩,?_,?_⟩,?_⟩,λw8=>?_⟩⟩
 all_goals first|refine aw ?_|refine ax ?_|exact a8|exact a7|exact bU w1|skip
 ·have mo:=bU w1
  have hb:E2 (e1,e2) (nth aK l i) dn=true:=by unfold E2;rw [show (!dn)=true from w2,show (!(Op.bytesLess (nth aK l i).1.toList e1.toList||(nth aK l i).1.toList==e1.toList))=true from w3];rfl
  refine⟨(i+1,out++[(e1,e2)]++[nth aK l i],true),[(1008,1037)],?_,?_,?_⟩
  rotate_right
  ·exact bV
  ·refine⟨mo,by show (out++[(e1,e2)]++[nth aK l i]).length≤2*(i+1);rw [ZA0,ZA0];show out.length+1+1≤_;omega,?_⟩
   rw [←hr,bW (ek:=aK) mo,YE hb]
  ·show l.length-(i+1)<l.length-i;omega
 ·have mo:=bU w1
  have hb:E2 (e1,e2) (nth aK l i) dn=false:=by unfold E2;rw [show (!(Op.bytesLess (nth aK l i).1.toList e1.toList||(nth aK l i).1.toList==e1.toList))=false from w4,ZD7]
  refine⟨(i+1,out++[nth aK l i],dn),[(1008,1037)],?_,?_,?_⟩
  rotate_right
  ·exact bV
  ·refine⟨mo,by show (out++[nth aK l i]).length≤2*(i+1);rw [ZA0];show out.length+1≤_;omega,?_⟩
   rw [←hr,bW (ek:=aK) mo,P3 hb]
  ·show l.length-(i+1)<l.length-i;omega
 ·have mo:=bU w1
  have hb:E2 (e1,e2) (nth aK l i) dn=false:=by unfold E2;rw [show (!dn)=false from w5];rfl
  refine⟨(i+1,out++[nth aK l i],dn),[(1008,1037)],?_,?_,?_⟩
  rotate_right
  ·exact bV
  ·refine⟨mo,by show (out++[nth aK l i]).length≤2*(i+1);rw [ZA0];show out.length+1≤_;omega,?_⟩
   rw [←hr,bW (ek:=aK) mo,P3 hb]
  ·show l.length-(i+1)<l.length-i;omega
 ·have FL:¬i<l.length:=by have:=aA (p:=(i:Int)<(l.length:Int)) w6;omega
  have e:qR l (e1,e2)=out++[(e1,e2)]:=by unfold qR;rw [←hr,ZB3 (by omega)];show wi (e1,e2) (out,dn)=_;unfold wi;rw [show (!dn)=true from w7];rfl
  refine⟨[1043],[],_,_,_,ζ,az,(),aa,?_,?_,ζ⟩
  ·(show _=pJ l (e1,e2));unfold pJ;first|(rw [e,ZA0];rfl)|(rw [e];rfl)|rfl
  ·(show _=sj l (e1,e2));unfold sj;first|(rw [e,ZA0];rfl)|(rw [e];rfl)|rfl
 ·have FL:¬i<l.length:=by have:=aA (p:=(i:Int)<(l.length:Int)) w6;omega
  have e:qR l (e1,e2)=out:=by unfold qR;rw [←hr,ZB3 (by omega)];show wi (e1,e2) (out,dn)=_;unfold wi;rw [show (!dn)=false from w8];rfl
  refine⟨[1008],[],_,_,_,ζ,az,(),aa,?_,?_,ζ⟩
  ·(show _=pJ l (e1,e2));unfold pJ;first|(rw [e];rfl)|rfl
  ·(show _=sj l (e1,e2));unfold sj;first|(rw [e];rfl)|rfl
def ew (l:List eU) (i:Nat):List eU:=l.take i++l.drop (i+1)
def q6 (l:List eU) (i:Int):Prop:=l.length≤1000∧0≤i∧i<l.length
def u4 (l:List eU) (i:Int):AV:=.s (.xs 0 2 0 (ew l i.toNat).length)
def yp (l:List eU) (i:Int):List AV:=[.rs aK (ew l i.toNat)]
def sK:cn where
 A:=[.s (.vz aK),.s .int]
 B:=[]
 pre:=λx b=>q6 (x.1) (x.2)
 r:=λx b _=>u4 (x.1) (x.2)
 o:=λx b _=>yp (x.1) (x.2)
 nf:=1
theorem MD:Has Tryz.prog 181 sK:=by
 refine Has.fm zT zF zF (l:=[]) trivial Tryz.func181 ?_
 rintro⟨(l:List eU),(i:Int)⟩ _ (hp:q6 l i)
 show vc _ _ _ _ (entry [.s (.vz aK l),.int i] []) _
 obtain⟨h1,h2,h3⟩:=hp
 have e:ew l i.toNat=l.take (i.toNat-0)++l.drop (i+1).toNat:=by unfold ew;rw [Nat.sub_zero,show (i+1).toNat=i.toNat+1 by omega]
 have hl1:(l.take (i.toNat-0)).length≤1000:=by rw [ZB9];omega
 have hl2:((l.drop (i+1).toNat).take (l.length-(i+1).toNat)).length≤1000:=by rw [ZB9,ZC8];omega
 refine⟨[.b 1005],[.s 5,.b 1005],ζ,aa,Sq0,Sq6,ζ,Sq1,Sq7,ζ,[.s 6,.s 7],Sq8,ζ,⟨?_,?_,?_⟩,[.s 5,.s 8,.b 1005,.b 1009],[.s 9,.b 1009,.b 1005],ζ,⟨⟨?_,?_⟩,aa⟩,Sq0,Sq10,ζ,Sq1,Sq11,ζ,Sq11,Sq12,ζ,⟨?_,?_⟩,[.s 10,.s 12],Sq13,ζ,⟨?_,?_,?_⟩,[.s 9,.s 13,.b 1009,.b 1014],[.s 14,.b 1014,.b 1009],ζ,⟨⟨?_,?_⟩,aa⟩,Sq14,Sq4,ζ,?_⟩
 all_goals first|refine aw ?_|refine ax ?_|exact a8|exact a7|(show 0+(l.take (i.toNat-0)).length≤1048576;omega)|(show ([]++l.take (i.toNat-0)).length+((l.drop (i+1).toNat).take (l.length-(i+1).toNat)).length≤1048576;rw [ZD0];omega)|skip
 ·have e2:(ew l i.toNat).length=([]++l.take (i.toNat-0)).length+((l.drop (i+1).toNat).take (l.length-(i+1).toNat)).length:=by rw [e,ZA0,ZD0,ZD1 (l:=l.drop _) (by rw [ZC8];omega)]
  have e3:ew l i.toNat=([]++l.take (i.toNat-0))++((l.drop (i+1).toNat).take (l.length-(i+1).toNat)):=by rw [e,ZD0,ZD1 (l:=l.drop _) (by rw [ZC8];omega)]
  refine⟨[1014],[],_,_,_,ζ,az,(),aa,?_,?_,ζ⟩
  ·(show _=u4 l i);unfold u4;first|(rw [e2];rfl)|(rw [e3];rfl)|rfl
  ·(show _=yp l i);unfold yp;first|(rw [e2];rfl)|(rw [e3];rfl)|rfl
end GL
namespace GL
def j8:List Pt→ay→ay
 |[],s=>s
 |p::l,s=>j8 l (gf s p.1.toNat)
def ai0 (u:ay):ay:=(u.rows,u.refs,u.last,u.cg+1,[],u.bZ,u.dead,u.same)
def ij (s:ay):ay:=ai0 (j8 s.gone s)
structure ay.gk (s:ay):Prop where
 n:s.n64
 len:s.gone.length≤1000000
 ok:∀p∈s.gone,0≤p.1∧p.1<64
 cg: -1000000≤s.cg∧s.cg≤1000000
def jk (S:ay):Prop:=S.gk
def xU (S:ay):AV:=.a (kW 0 1 2 5 4 (ij S))
def B8 (S:ay):List AV:=[.rs ab (ij S).rows,.rs ag (ij S).refs,.rs ag (ij S).last,.rs ae S.gone,.rs ae (ij S).dead,.rs ae []]
def gZ:cn where
 A:=[.a (stB 0 1 2 3 4)]
 B:=[.r ab,.r ag,.r ag,.r ae,.r ae]
 pre:=λx b=>stW x b∧jk (gP x b)
 r:=λx b _=>xU (gP x b)
 o:=λx b _=>B8 (gP x b)
 nf:=1
theorem sB:Has Tryz.prog 62 gZ:=by
 refine Has.fm zT zF zF (l:=[(96,qx)]) ⟨IG,aa⟩ Tryz.func62 ?_
 rintro⟨(AU:Nat),(AT:Nat),(AS:Nat),(ao:Int),(AR:Nat),(aq:Int),(AQ:Nat),(ar:Bool)⟩ ⟨(aj:List ByteArray),(ak:List Int),(an:List Int),(ah:List Pt),(ai:List Pt)⟩ ⟨⟨(gC:AU=List.length aj),(gB:AT=List.length ak),(gA:AS=List.length an),(gz:AR=List.length ah),(gy:AQ=List.length ai)⟩,(hp:jk (aj,ak,an,ao,ah,aq,ai,ar))⟩
 subst gC gB gA gz gy
 show vc _ _ _ _ (entry [.a [.xs 0 1 0 aj.length,.xs 1 1 0 ak.length,.xs 2 1 0 an.length,.int ao,.xs 3 5 0 ah.length,.int aq,.xs 4 5 0 ai.length,.q ar]] [.rs ab aj,.rs ag ak,.rs ag an,.rs ae ah,.rs ae ai]) _
 let g':=(aj,ak,an,ao,ah,aq,ai,ar)
 have hgk:ay.gk g':=hp
 have hgl:ah.length≤1000000:=hgk.len
 have hn:aj.length=64∧ak.length=64∧an.length=64:=hgk.n
 refine ?_
 all_goals first|refine aw ?_|refine ax ?_|exact a8|(dsimp only [qx,pW,gP];omega)|exact a7|skip
 refine cN (l:=[(96,qx)]) (ex:=zT) (wr:=zF) (pt:=zF) ⟨IG,aa⟩ [.s 1,.s 2,.b 1002,.b 3,.b 4] (λy:Nat×List ByteArray×List Int×List Int=>[(.s 3,.int y.1),(.b 1001,.a (kW 0 1 2 3 4 (y.2.1,y.2.2.1,y.2.2.2,ao,ah,aq,ai,ar))),(.b 0,.rs ab y.2.1),(.b 1,.rs ag y.2.2.1),(.b 2,.rs ag y.2.2.2)]) (λy=>y.1≤ah.length∧(y.2.1.length=64∧y.2.2.1.length=64∧y.2.2.2.length=64)∧j8 (ah.drop y.1) (y.2.1,y.2.2.1,y.2.2.2,ao,ah,aq,ai,ar)=j8 ah g') (λy=>ah.length-y.1) (0,aj,ak,an) [] ⟨ZA7 _,hn,rfl⟩ dM ?_
 rintro⟨i,ro,rf,la⟩ ⟨(hi:i≤ah.length),⟨(h1:ro.length=64),(h2:rf.length=64),(h3:la.length=64)⟩,(hr:j8 (ah.drop i) (ro,rf,la,ao,ah,aq,ai,ar)=j8 ah g')⟩
 have bU:decide ((i:Int)<(ah.length:Int))=true→i<ah.length:=λh=>by have:=aJ h;omega
 have xD:i<ah.length→0≤(nth ae ah i).1∧(nth ae ah i).1<64:=λh=>hgk.ok _ (bR (ek:=ae) h)
 have htx:=hgk.cg
 have akQ: -1000000≤ao:=htx.1
 have amc:ao≤1000000:=htx.2
 refine⟨λw1=>⟨[.s 1,.b 1001],Sq11,ζ,Sq1,Sq12,ζ,[.s 12,.b 1001],Sq13,ζ,Sq3,Sq14,ζ,[.s 13,.s 14],Sq15,ζ,⟨?_,?_⟩,Sq15,Sq16,ζ,[.s 16,.b 3],Sq17,ζ,?_,[.s 11,.s 17,.b 0,.b 1,.b 2,.b 3,.b 4],[.s 18,.b 0,.b 1,.b 2,.b 3,.b 4],ζ,⟨⟨tv9,tv2⟩,⟨?_,?_,?_,?_,?_⟩,⟨?_,?_,?_⟩,?_,?_⟩,?_,λx2 w3=>⟨[.s 1,.s 18,.b 1001],[.b 1001],ζ,⟨?_,?_⟩,?_⟩⟩,λw4=>⟨aa,⟨?_,?_⟩,?_⟩⟩
 all_goals first|refine aw ?_|refine ax ?_|exact a8|(dsimp only [qx,pW,gP];omega)|exact a7|(simp only [gK,imax];omega)|exact bU w1|skip
 ·exact (xD (bU w1)).1
 ·exact (xD (bU w1)).2
 ·have mo:=bU w1
  have hdl:=xd (ro,rf,la,ao,ah,aq,ai,ar) (nth ae ah i).1.toNat
  refine⟨(i+1,(gf (ro,rf,la,ao,ah,aq,ai,ar) (nth ae ah i).1.toNat).1,(gf (ro,rf,la,ao,ah,aq,ai,ar) (nth ae ah i).1.toNat).2.1,(gf (ro,rf,la,ao,ah,aq,ai,ar) (nth ae ah i).1.toNat).2.2.1),[],?_,?_,?_⟩
  rotate_right
  ·exact bV
  ·refine⟨mo,⟨hdl.1.trans h1,hdl.2.1.trans h2,hdl.2.2.trans h3⟩,?_⟩
   rw [←hr,bW (ek:=ae) mo];rfl
  ·show ah.length-(i+1)<ah.length-i;omega
 ·show gK≤ao+1;simp only [gK];omega
 ·show ao+1≤imax;simp only [imax];omega
 ·have FL:¬i<ah.length:=by have:=aA (p:=(i:Int)<(ah.length:Int)) w4;omega
  have e:ij g'=(ro,rf,la,ao+1,[],aq,ai,ar):=by
   unfold ij
   rw [show j8 (ay.gone g') g'=(ro,rf,la,ao,ah,aq,ai,ar) by
    rw [ZB3 (by omega)] at hr;exact hr.symm]
   rfl
  refine⟨[1019],[],_,_,_,ζ,az,(),aa,?_,?_,ζ⟩
  ·(show _=xU g');unfold xU;first|(rw [e];rfl)|rfl
  ·(show _=B8 g');unfold B8;first|(rw [e];rfl)|rfl
def j7:Nat→ay→List Pt→List Pt→Option (List Pt)
 |0,_,_,_=>none
 |_+1,_,[],out=>some out
 |f+1,s,p::l,out=>bif au p then j7 f s l out else bif decide (p.2.2.2.2>0) then j7 f s ((bg s p p.2.2.2.2).1++l) (out++[p]) else j7 f s l (out++[p])
def allM (s:ay) (t:bf):List Pt:=(j7 40 s [t.root] []).getD []
def NC (s:ay) (t:bf):Bool:=(j7 40 s [t.root] []).isSome
def wE (S:ay) (t:bf):Prop:=S.rd∧NC S t=true
def BE (S:ay) (t:bf):AV:=.s (.xs 0 5 0 (allM S t).length)
def HH (S:ay) (t:bf):List AV:=[.rs ae (allM S t)]
def AB:cn where
 A:=[.a xv,.a [.int,.int,.int,.int,.int,.int,.int]]
 B:=[]
 pre:=λx b=>wE (x.1) (x.2)
 r:=λx b _=>BE (x.1) (x.2)
 o:=λx b _=>HH (x.1) (x.2)
 nf:=1
theorem ZT:Has Tryz.prog 209 AB:=by
 refine Has.fm zT zF (λd=>Nat.beq d 23) (l:=[(81,cx),(154,ef)]) ⟨cz,lk,aa⟩ Tryz.func209 ?_
 rintro⟨⟨(aj:List ByteArray),(ak:List Int),(an:List Int),(ao:Int),(ah:List Pt),(aq:Int),(ai:List Pt),(ar:Bool)⟩,⟨(t1:Int),(t2:Int),(t3:Int),(t4:Int),(t5:Int),(t6:Int),(t7:Int)⟩⟩ _ (hp:wE (aj,ak,an,ao,ah,aq,ai,ar) (t1,t2,t3,t4,t5,t6,t7))
 show vc _ _ _ _ (entry [.a [.vz ab aj,.vz ag ak,.vz ag an,.int ao,.vz ae ah,.int aq,.vz ae ai,.q ar],.a [.int t1,.int t2,.int t3,.int t4,.int t5,.int t6,.int t7]] []) _
 let g':=(aj,ak,an,ao,ah,aq,ai,ar)
 let A':=(t1,t2,t3,t4,t5,t6,t7)
 obtain⟨dF,hen⟩:=hp
 have dF:ay.rd g':=dF
 obtain⟨al,hal⟩:=Option.isSome_iff_exists.1 hen
 have hal:j7 40 g' [bf.root A'] []=some al:=hal
 have hM:allM g' A'=al:=by unfold allM;rw [hal];rfl
 refine⟨aa,aa,?_⟩
 all_goals first|refine aw ?_|refine ax ?_|exact a8|(dsimp only [ef,fF];omega)|exact a7|exact dF|skip
 refine cN (l:=[(81,cx),(154,ef)]) (ex:=zT) (wr:=zF) (pt:=λd=>Nat.beq d 23) ⟨cz,lk,trivial⟩ [.s 2,.s 3,.s 4,.b 1002,.b 1003] (λy:Nat×List Pt×List Pt=>[(.s 5,.s (.xs 1010 5 0 y.2.2.length)),(.s 6,.s (.xs 1013 5 0 y.2.1.length)),(.b 1010,.rs ae y.2.2),(.b 1013,.rs ae y.2.1)]) (λy=>y.1≤40∧y.2.1.length+4*y.1≤161∧y.2.2.length+y.1≤40∧j7 y.1 g' y.2.1 y.2.2=some al) (λy=>y.1) (40,[bf.root A'],[]) [] ⟨ZB5 _,by show 1+4*40≤161;omega,by show 0+40≤40;omega,hal⟩ dM ?_
 rintro⟨f,td,out⟩ ⟨(hf:f≤40),(htd:td.length+4*f≤161),(ob:out.length+f≤40),(hr:j7 f g' td out=some al)⟩
 have bU:decide ((td.length:Int)>0)=true→0<td.length:=λh=>by have:=aJ h;omega
 have hbl:=(iG g' (nth ae td 0) (nth ae td 0).2.2.2.2).1
 have ZX:decide ((td.length:Int)>0)=true→∃l,td=nth ae td 0::l:=λh=>by
  have:=bU h
  cases td with
  |nil=>simp at this
  |cons p l=>exact⟨l,rfl⟩
 have af2:∃g,f=g+1:=by
  cases f with
  |zero=>cases hr
  |succ g=>exact⟨g,rfl⟩
 refine⟨λw1=>⟨⟨?_,?_⟩,?_,aa,⟨?_,?_,?_⟩,⟨⟨?_,?_⟩,?_⟩,⟨⟨tv6,aa⟩,aa⟩,λx2 w3=>⟨λw4=>?_,λw5=>⟨aa,⟨⟨?_,?_⟩,?_,?_⟩,λw6=>⟨⟨⟨tv9,tv6,tv2⟩,?_⟩,λx7 w8=>⟨aa,⟨⟨?_,?_⟩,?_,?_⟩,⟨⟨?_,?_⟩,?_,?_⟩,?_⟩⟩,λw9=>?_⟩⟩⟩,λdy=>?_⟩
 all_goals first|refine aw ?_|refine ax ?_|exact a8|(dsimp only [ef,fF];omega)|exact a7|exact bU w1|exact dF|(show 0+(td.drop 1).length≤1048576;rw [ZC8];omega)|(show 0+((td.drop 1).take (td.length-1)).length≤1048576;rw [ZB9,ZC8];omega)|skip
 ·
  obtain⟨l,rT⟩:=ZX w1
  have eT:(([]:List Pt)++(td.drop 1).take (td.length-1))=l:=by rw [rT];simp
  obtain⟨g,rfl⟩:∃g,f=g+1:=af2
  have hll:l.length+1=td.length:=by rw [rT];rfl
  have hh:au (nth ae td 0)=true:=w4
  rw [rT,j7,hh] at hr
  refine⟨(g,(([]:List Pt)++(td.drop 1).take (td.length-1)),out),[(1013,1023)],?_,?_,?_⟩
  rotate_right
  ·exact bV
  ·exact⟨by show g≤40;omega,by show ((([]:List Pt)++(td.drop 1).take (td.length-1))).length+4*g≤161;rw [eT];omega,by show out.length+g≤40;omega,by show j7 g g' (([]:List Pt)++(td.drop 1).take (td.length-1)) out=some al;rw [eT];exact hr⟩
  ·exact ZD9 g
 ·show ([]:List Pt).length+(bg g' (nth ae td 0) (nth ae td 0).2.2.2.2).1.length≤1048576;have:=hbl;show 0+_≤_;omega
 ·obtain⟨l,rT⟩:=ZX w1
  have eT:(([]:List Pt)++(td.drop 1).take (td.length-1))=l:=by rw [rT];simp
  have hll:l.length+1=td.length:=by rw [rT];rfl
  show (([]:List Pt)++(bg g' (nth ae td 0) (nth ae td 0).2.2.2.2).1).length+(([]:List Pt)++(td.drop 1).take (td.length-1)).length≤1048576
  rw [eT,ZD0];omega
 ·
  obtain⟨l,rT⟩:=ZX w1
  have eT:(([]:List Pt)++(td.drop 1).take (td.length-1))=l:=by rw [rT];simp
  obtain⟨g,rfl⟩:∃g,f=g+1:=af2
  have hll:l.length+1=td.length:=by rw [rT];rfl
  have hh:au (nth ae td 0)=false:=w5
  rw [rT,j7,hh,show decide ((nth ae td 0).2.2.2.2>0)=true from w6] at hr
  refine⟨(g,(([]:List Pt)++(bg g' (nth ae td 0) (nth ae td 0).2.2.2.2).1)++(([]:List Pt)++(td.drop 1).take (td.length-1)),out++[(nth ae td 0)]),[(1013,1045),(1010,1029)],?_,?_,?_⟩
  rotate_right
  ·exact bV
  ·refine⟨by show g≤40;omega,?_,?_,?_⟩
   ·show ((([]:List Pt)++(bg g' (nth ae td 0) (nth ae td 0).2.2.2.2).1)++(([]:List Pt)++(td.drop 1).take (td.length-1))).length+4*g≤161;rw [eT,ZD0,ZA0];omega
   ·show (out++[(nth ae td 0)]).length+g≤40;rw [ZA0];show out.length+1+g≤40;omega
   ·show j7 g g' ((([]:List Pt)++(bg g' (nth ae td 0) (nth ae td 0).2.2.2.2).1)++(([]:List Pt)++(td.drop 1).take (td.length-1))) (out++[(nth ae td 0)])=some al;rw [eT,ZD0];exact hr
  ·exact ZD9 g
 ·
  obtain⟨l,rT⟩:=ZX w1
  have eT:(([]:List Pt)++(td.drop 1).take (td.length-1))=l:=by rw [rT];simp
  obtain⟨g,rfl⟩:∃g,f=g+1:=af2
  have hll:l.length+1=td.length:=by rw [rT];rfl
  have hh:au (nth ae td 0)=false:=w5
  rw [rT,j7,hh,show decide ((nth ae td 0).2.2.2.2>0)=false from w9] at hr
  refine⟨(g,(([]:List Pt)++(td.drop 1).take (td.length-1)),out++[(nth ae td 0)]),[(1013,1023),(1010,1029)],?_,?_,?_⟩
  rotate_right
  ·exact bV
  ·refine⟨by show g≤40;omega,?_,?_,?_⟩
   ·show ((([]:List Pt)++(td.drop 1).take (td.length-1))).length+4*g≤161;rw [eT];omega
   ·show (out++[(nth ae td 0)]).length+g≤40;rw [ZA0];show out.length+1+g≤40;omega
   ·show j7 g g' (([]:List Pt)++(td.drop 1).take (td.length-1)) (out++[(nth ae td 0)])=some al;rw [eT];exact hr
  ·exact ZD9 g
 ·have h0:td=[]:=by cases td with
   |nil=>rfl
   |cons p l=>exact absurd (aA dy) (by simp)
  obtain⟨g,rfl⟩:∃g,f=g+1:=af2
  rw [h0,j7] at hr
  have e:allM g' A'=out:=by rw [hM];exact (ZG8 hr).symm
  refine⟨[1010],[],_,_,_,ζ,az,(),aa,?_,?_,ζ⟩
  ·(show _=BE g' A');unfold BE;first|(rw [e];rfl)|rfl
  ·(show _=HH g' A');unfold HH;first|(rw [e];rfl)|rfl
