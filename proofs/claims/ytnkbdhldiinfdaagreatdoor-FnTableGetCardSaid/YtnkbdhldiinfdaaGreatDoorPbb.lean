/- Part 28 of the proof of a drawn law. -/
import Derived.Test.YtnkbdhldiinfdaaGreatDoorPam
import Derived.Test.YtnkbdhldiinfdaaGreatDoorPan
import Derived.Test.YtnkbdhldiinfdaaGreatDoorPap
import Derived.Test.YtnkbdhldiinfdaaGreatDoorPas
import Derived.Test.YtnkbdhldiinfdaaGreatDoorPat
import Derived.Test.YtnkbdhldiinfdaaGreatDoorPaw
import Derived.Test.YtnkbdhldiinfdaaGreatDoorPay
import Derived.Test.YtnkbdhldiinfdaaGreatDoorPaz
import Derived.Test.YtnkbdhldiinfdaaGreatDoorPba
set_option maxHeartbeats 20000000
set_option maxRecDepth 100000
set_option linter.all false
namespace Go.Proofs.YtnkbdhldiinfdaaGreatDoor
namespace GL
noncomputable section
theorem aou {s:ay}{many:Int}:∀{l:List Pt}{i:Int},j9 s many i l=true→∀p∈l,au p=false→(bF s p).2=true∧p.2.2.2.2=0
 |q::l,i,h,p,hp,hh=>by
  unfold j9 at h
  cases hq:au q with
  |true=>
   rw [hq,cond_true] at h
   rcases ZB8.1 hp with rfl |hp
   ·rw [hq] at hh;cases hh
   ·exact aou h p hp hh
  |false=>
   rw [hq,cond_false] at h
   cases hb:ri s many i q with
   |true=>rw [hb] at h;cases h
   |false=>
    rw [hb,cond_false] at h
    rcases ZB8.1 hp with rfl |hp
    ·unfold ri at hb
     simp only [ZE1,decide_eq_false_iff_not,ZE9,Bool.not_eq_false'] at hb
     exact⟨hb.1,hb.2.1⟩
    ·exact aou h p hp hh
theorem anZ {s:ay}{t:bf}(h:(py s t).2=true):(iI s=true∧((py s t).1.length:Int)=t.many)∧∀p∈(py s t).1,(aZ p=true∧p.2.2.2.2=0)∧(bF s p).2=true:=by
 rw [YI] at h
 obtain⟨h1,h2⟩:=Bool.and_eq_true_iff.1 h
 have hb:=Y8 h2
 have hl:(!(bA s t).2)=false:=by
  cases hl: !(bA s t).2 with
  |false=>rfl
  |true=>rw [ZA hb hl] at h2;cases h2
 have hf:=(Y9 hb hl).symm.trans h2
 have hm:0≤t.many:=by
  have hb':=hb
  unfold lV at hb'
  exact (cC.1 (cL (ZE1.1 hb').1)).1
 have hk:=adt h2
 rw [K9 h1 h2]
 refine⟨⟨h1,?_⟩,λp hp=>?_⟩
 ·show ((List.take _ _).length:Int)=_
  rw [ZB9];omega
 ·have hp':p∈(bA s t).1:=ZE6 hp
  have cG:aZ p=true:=H9 (ahx h2) p hp'
  cases hh:au p with
  |false=>exact⟨⟨cG,(aou hf p hp' hh).2⟩,(aou hf p hp' hh).1⟩
  |true=>
   exact⟨⟨cG,XF hh⟩,by rw [fT hh]⟩
theorem ap0 {s:ay}{t:bf}(h:(iI s&&qJ s t)=false):py s t=([],false):=by unfold py;rw [h];rfl
theorem ao1 {s:ay}{t:bf}(h:(py s t).2=true):(aB s t).take t.many.toNat=(py s t).1:=by
 rw [YI] at h
 obtain⟨h1,h2⟩:=Bool.and_eq_true_iff.1 h
 rw [K9 h1 h2]
 show (aB s t).take t.many.toNat=(bA s t).1.take t.many.toNat
 unfold aB
 rw [List.take_append_of_le_length (adt h2)]
def aot (S:ay) (t:bf):Prop:=S.gone.length≤1000000∧S.dead.length≤1000000
theorem apz {s:ay}{t:bf}(h:qJ s t=true):(0≤t.many∧t.many≤16)∧t.many.toNat≤(bA s t).1.length:=by
 have hb:=Y8 h
 unfold lV at hb
 exact⟨cC.1 (cL (ZE1.1 hb).1),adt h⟩
theorem anN {s:ay}{t:bf}(h:(py s t).2=true):((py s t).1.length:Int)=t.many∧(py s t).1.length≤16:=by
 rw [YI] at h
 obtain⟨h1,h2⟩:=Bool.and_eq_true_iff.1 h
 have h3:=apz h2
 rw [K9 h1 h2]
 show ((List.take _ _).length:Int)=_∧(List.take _ _).length≤_
 rw [ZB9];omega
theorem apx {s:ay}{t:bf}(h:(py s t).2=true):(py s t).1.length≤16:=(anN h).2
def aoi (a:List Pt) (b:List Pt):Prop:=a=b∧a.length≤1000000
def aog (a:List Pt) (b:List Pt):AV:=.s (.q true)
def aqV (a:List Pt) (b:List Pt):List AV:=[]
def apj:cn where
 A:=[.s (.vz ae),.s (.vz ae)]
 B:=[]
 pre:=λx b=>aoi (x.1) (x.2)
 r:=λx b _=>aog (x.1) (x.2)
 o:=λx b _=>aqV (x.1) (x.2)
theorem arh:Has Tryz.prog 42 apj:=by
 refine Has.fm zT zF zF (l:=[]) trivial Tryz.func42 ?_
 rintro⟨(a:List Pt),(b:List Pt)⟩ _ (hp:aoi a b)
 show vc _ _ _ _ (entry [.s (.vz ae a),.s (.vz ae b)] []) _
 obtain⟨(he:a=b),(hl:a.length≤1000000)⟩:=hp
 have hll:a.length=b.length:=congrArg List.length he
 refine⟨λw1=>?_,λw2=>?_⟩
 all_goals first|refine aw ?_|refine ax ?_|exact a8|exact a7|skip
 ·exact absurd (congrArg (Nat.cast:Nat→Int) hll) (aJ w1)
 ·refine cN (l:=[]) (ex:=zT) (wr:=zF) (pt:=zF) trivial [.s 0,.s 1] (λi:Nat=>[(.s 5,.int i)]) (λi=>i≤a.length) (λi=>a.length-i) 0 [] (ZA7 _) dM ?_
  rintro i (hi:i≤a.length)
  have cm:decide ((i:Int)<(a.length:Int))=true→i<a.length:=λh=>by have:=aJ h;omega
  refine⟨λw1=>⟨Sq0,Sq17,ζ,Sq5,Sq18,ζ,[.s 17,.s 18],Sq19,ζ,⟨?_,?_⟩,Sq19,Sq20,ζ,Sq1,Sq21,ζ,Sq5,Sq22,ζ,[.s 21,.s 22],Sq23,ζ,⟨?_,?_⟩,Sq23,Sq24,ζ,[.s 20,.s 24],Sq25,ζ,λw2=>?_,λw3=>⟨⟨?_,?_⟩,?_⟩⟩,λw4=>?_⟩
  all_goals first|refine aw ?_|refine ax ?_|exact a8|exact a7|exact cm w1|(have h:=cm w1;show ((i:Int))<(b.length:Int);omega)|skip
  ·subst he;simp at w2
  ·refine⟨(i+1),[],?_,?_,?_⟩
   rotate_right
   ·exact bV
   ·show i+1≤a.length;have:=cm w1;omega
   ·show a.length-(i+1)<a.length-i;have:=cm w1;omega
  ·refine⟨[],[],_,_,_,ζ,az,(),aa,?_,?_,ζ⟩
   ·(show _=aog a b);unfold aog;first|rfl
   ·rfl
end
end GL
namespace GL
noncomputable section
def aof:Nat→Nat→List Pt→List Pt→List Int→List Int
 |0,_,_,_,out=>out
 |f+1,i,x,y,out=>aof f (i+1) x y (bif ptrEq (nth ae x i) (nth ae y i) then out else out++[(i:Int)])
def arN (x y:List Pt):List Int:=aof 16 0 x y []
theorem aqR {f i:Nat}{x y:List Pt}{out:List Int}(h:ptrEq (nth ae x i) (nth ae y i)=true):aof (f+1) i x y out=aof f (i+1) x y out:=by rw [aof,h];rfl
theorem arD {f i:Nat}{x y:List Pt}{out:List Int}(h:ptrEq (nth ae x i) (nth ae y i)=false):aof (f+1) i x y out=aof f (i+1) x y (out++[(i:Int)]):=by rw [aof,h];rfl
theorem apC {x y:List Pt}:∀{f i:Nat}{out:List Int},x.length≤i→y.length≤i→aof f i x y out=out
 |0,_,_,_,_=>rfl
 |f+1,i,out,h1,h2=>by
  rw [aqR (by rw [tz (ek:=ae) h1,tz (ek:=ae) h2];exact sb.2 rfl)]
  exact apC (by omega) (by omega)
structure p7 (X Y:List Pt) (i:Nat) (out:List Int):Prop where
 le:i≤16
 len:out.length≤i
 f:aof (16-i) i X Y out=arN X Y
theorem p7.z (X Y:List Pt):p7 X Y 0 []:=⟨ZA7 _,ZA7 _,rfl⟩
theorem p7.eq {X Y:List Pt}{i:Nat}{out:List Int}(h:p7 X Y i out) (hi:i<16) (hq:(!(ptrEq (nth ae X i) (nth ae Y i)))=false):p7 X Y (i+1) out:=by
 have h1:=h.f
 rw [show 16-i=(16-(i+1))+1 by omega,aqR (cL hq)] at h1
 exact⟨hi,Nat.le_succ_of_le h.len,h1⟩
theorem p7.ne {X Y:List Pt}{i:Nat}{out:List Int}(h:p7 X Y i out) (hi:i<16) (hq:(!(ptrEq (nth ae X i) (nth ae Y i)))=true):p7 X Y (i+1) (out++[(i:Int)]):=by
 have h1:=h.f
 rw [show 16-i=(16-(i+1))+1 by omega,arD (xm hq)] at h1
 exact⟨hi,by rw [ZA0,List.length_singleton];have:=h.len;omega,h1⟩
theorem p7.e {X Y:List Pt}{i:Nat}{out:List Int}(h:p7 X Y i out) (h1:X.length≤i) (h2:Y.length≤i):out=arN X Y:=by
 rw [←h.f,apC h1 h2]
theorem amF {P Q P' Q':Pt}{c:Bool}(h1:P=P') (h2:Q=Q') (h:(!(ptrEq P' Q'))=c):(!(ptrEq P Q))=c:=by subst h1 h2;exact h
theorem amE {l:List Pt}{i:Nat}(h:decide ((i:Int)<(l.length:Int))=false):nth ae l i=(0,0,0,0,0):=tz (ek:=ae) (by have:=aA h;omega)
def aoj (a:List Int) (b:List Int):Prop:=a=b∧a.length≤1000000
def aoh (a:List Int) (b:List Int):AV:=.s (.q true)
def aqW (a:List Int) (b:List Int):List AV:=[]
def apk:cn where
 A:=[.s (.vz ag),.s (.vz ag)]
 B:=[]
 pre:=λx b=>aoj (x.1) (x.2)
 r:=λx b _=>aoh (x.1) (x.2)
 o:=λx b _=>aqW (x.1) (x.2)
theorem ari:Has Tryz.prog 23 apk:=by
 refine Has.fm zT zF zF (l:=[]) trivial Tryz.func23 ?_
 rintro⟨(a:List Int),(b:List Int)⟩ _ (hp:aoj a b)
 show vc _ _ _ _ (entry [.s (.vz ag a),.s (.vz ag b)] []) _
 obtain⟨(he:a=b),(hl:a.length≤1000000)⟩:=hp
 have hll:a.length=b.length:=congrArg List.length he
 refine⟨λw1=>?_,λw2=>?_⟩
 all_goals first|refine aw ?_|refine ax ?_|exact a8|exact a7|skip
 ·exact absurd (congrArg (Nat.cast:Nat→Int) hll) (aJ w1)
 ·refine cN (l:=[]) (ex:=zT) (wr:=zF) (pt:=zF) trivial [.s 0,.s 1] (λi:Nat=>[(.s 5,.int i)]) (λi=>i≤a.length) (λi=>a.length-i) 0 [] (ZA7 _) dM ?_
  rintro i (hi:i≤a.length)
  have cm:decide ((i:Int)<(a.length:Int))=true→i<a.length:=λh=>by have:=aJ h;omega
  refine⟨λw1=>⟨Sq0,Sq17,ζ,Sq5,Sq18,ζ,[.s 17,.s 18],Sq19,ζ,⟨?_,?_⟩,Sq19,Sq20,ζ,Sq1,Sq21,ζ,Sq5,Sq22,ζ,[.s 21,.s 22],Sq23,ζ,⟨?_,?_⟩,Sq23,Sq24,ζ,[.s 20,.s 24],Sq25,ζ,λw2=>?_,λw3=>⟨⟨?_,?_⟩,?_⟩⟩,λw4=>?_⟩
  all_goals first|refine aw ?_|refine ax ?_|exact a8|exact a7|exact cm w1|(have h:=cm w1;show ((i:Int))<(b.length:Int);omega)|skip
  ·subst he;simp at w2
  ·refine⟨(i+1),[],?_,?_,?_⟩
   rotate_right
   ·exact bV
   ·show i+1≤a.length;have:=cm w1;omega
   ·show a.length-(i+1)<a.length-i;have:=cm w1;omega
  ·refine⟨[],[],_,_,_,ζ,az,(),aa,?_,?_,ζ⟩
   ·(show _=aoh a b);unfold aoh;first|rfl
   ·rfl
end
end GL
namespace GL
theorem KK.wf {s:ay}(h:KK s):s.wf:=
 ⟨⟨h.len,(QQ h.sp).1,(QQ h.sp).2⟩,h.rd.2⟩
theorem KK.wg {s:ay}{n:Nat}(h:KK s) (hg:s.gone.length≤n) (hd:s.dead.length≤n):s.wg n:=
 ⟨h.wf,hg,hd,by have:=h.cg;omega⟩
theorem anX {s:ay}{t:bf}(h:qJ s t=true):t.ok:=by
 have hb:=Y8 h
 unfold lV at hb
 have h4:=cC.1 (cL (ZE1.1 hb).1)
 exact⟨ahx h,h4.1,h4.2⟩
end GL
namespace GL
def amn (s:ay):Prop:=(∀p∈s.gone,aZ p=true)∧1≤s.cg
theorem um.amv {s u:ay}(h:um s u) (hs:amn s):amn u:=⟨λp hp=>hs.1 p (by rw [←h.gone];exact hp),by rw [h.cg];exact hs.2⟩
theorem amn.gk {s:ay}{n:Nat}(h:amn s) (hw:s.wg n) (hn:n≤900000):s.gk:=
 ⟨hw.wf.n,ZB0 hw.g (by omega),λp hp=>nT (h.1 p hp),by have:=hw.t;have:=h.2;omega⟩
theorem KK.amv {s:ay}(h:KK s):amn s:=⟨λp hp=>(h.gone p hp).1,h.cg.1⟩
theorem KK.gk {s:ay}{n:Nat}(h:KK s) (hg:s.gone.length≤n) (hd:s.dead.length≤n) (hn:n≤900000):s.gk:=
 h.amv.gk (h.wg hg hd) hn
theorem ay.wg.small {s:ay}{n:Nat}(h:s.wg n) (hn:n≤1000000):s.small:=⟨by rw [h.wf.n.1];decide,by rw [h.wf.n.2.1];decide,by rw [h.wf.n.2.2];decide,ZB0 h.g hn,ZB0 h.d hn⟩
end GL
namespace GL
attribute [local irreducible] dG iI qJ
end GL
namespace GL
open Go.RowKit
def anm (T:bb):bb:=λb=>match T b with
 |some (.ro cs e fr)=>some (.ro cs e fr)
 |some (.ln cs e fr)=>some (.ln cs e fr)
 |_=>none
theorem apU {T:bb}{b:Nat}{cs:Array Value}{e:TypeId}{fr:Nat×Nat}(h:T b=some (.ro cs e fr)):anm T b=some (.ro cs e fr):=by unfold anm;rw [h]
theorem arC {T:bb}{b:Nat}{cs:Array Value}{e:TypeId}{fr:Nat×Nat}(h:T b=some (.ln cs e fr)):anm T b=some (.ln cs e fr):=by unfold anm;rw [h]
theorem aox {T:bb}{b:Nat}{k:BK}(h:anm T b=some k):T b=some k∧∃cs e fr,k= .ro cs e fr∨k= .ln cs e fr:=by
 unfold anm at h
 cases hT:T b with
 |none=>rw [hT] at h;cases h
 |some q=>
  rw [hT] at h
  cases q with
  |ro cs e fr=>cases h;exact⟨rfl,cs,e,fr,.inl rfl⟩
  |ln cs e fr=>cases h;exact⟨rfl,cs,e,fr,.inr rfl⟩
  |ty _ _=>cases h
  |fz _ _ _=>cases h
  |bx _=>cases h
theorem aoy {T:bb}(hN:UQ T) {b:Nat}{cs:Array Value}(h:rdT T b cs):rdT (anm T) b cs:=by
 rcases h with ⟨e,fr,h⟩ |⟨e,fr,h⟩ |⟨ek,n,h⟩
 ·exact .inl ⟨e,fr,apU h⟩
 ·exact .inr (.inl ⟨e,fr,arC h⟩)
 ·exact absurd h (hN.no b ek n cs)
theorem aoZ {T:bb}(hN:UQ T):UQ (anm T) where
 no:=λb ek n cs h=>hN.no b ek n cs (aox h).1
 oV:=λg hg=>by
  obtain⟨cs,e,fr,h1,h2⟩:=hN.oV g hg
  exact⟨cs,e,fr,apU h1,h2⟩
theorem apT {T:bb}{W w:World}(hT:WT T W) (hb:Below W.heap.size W w):WT (anm T) w:=λb k hk=>by
 have h:=hT b k (aox hk).1
 exact BK.qn h (hb.block b (BK.lt h))
def SV.aoe:SV→Bool
 |.bp _ _=>false
 |.xp _ _ _ _=>false
 |.xs _ _ _ _=>false
 |.ep _ _=>false
 |.sl _ _=>false
 |_=>true
def apP:List SV→Bool
 |[]=>true
 |x::l=>x.aoe&&apP l
def A0.aoe:A0→Bool
 |.s x=>x.aoe
 |.a l=>apP l
def AV.aoe:AV→Bool
 |.o x=>x.aoe
 |.fn _ []=>true
 |_=>false
def apQ:List AV→Bool
 |[]=>true
 |x::l=>x.aoe&&apQ l
theorem CV.fix {T:bb}(hN:UQ T) {x:CV}{y:Value}(h:x.rel T y):x.rel (anm T) y:=by
 cases x with
 |v _=>exact h
 |q _=>exact h
 |vz ek l=>
  rcases h with h |⟨b,o,cap,cs,h1,h2,h3,h4⟩
  ·exact .inl h
  ·exact .inr ⟨b,o,cap,cs,h1,h2,aoy hN h3,h4⟩
theorem ao4 {T:bb}(hN:UQ T):∀{l:List CV}{r:List Value},xl T l r→xl (anm T) l r
 |[],[],h=>h
 |_::_,_::_,h=>⟨CV.fix hN h.1,ao4 hN h.2⟩
theorem SV.fix {T:bb}{β:Nat→Nat}(hN:UQ T) {x:SV}{y:Value}(hl:x.aoe=true) (h:x.rel T β y):x.rel (anm T) β y:=by
 cases x with
 |v _=>exact h
 |q _=>exact h
 |er _=>exact h
 |e0=>exact h
 |vw ek l=>
  rcases h with h |⟨b,o,cap,cs,e,fr,h1,h2,h3,h4⟩
  ·exact .inl h
  ·exact .inr ⟨b,o,cap,cs,e,fr,h1,h2,apU h3,h4⟩
 |vz ek l=>
  rcases h with h |⟨b,o,cap,cs,h1,h2,h3,h4⟩
  ·exact .inl h
  ·exact .inr ⟨b,o,cap,cs,h1,h2,aoy hN h3,h4⟩
 |vp ek x j=>
  obtain⟨b,o,cs,h1,h2,h3,h4⟩:=h
  exact⟨b,o,cs,h1,h2,aoy hN h3,h4⟩
 |vs l j=>
  obtain⟨b,cs,h1,h2,h3⟩:=h
  exact⟨b,cs,h1,aoy hN h2,ao4 hN h3⟩
 |bp _ _=>cases hl
 |xp _ _ _ _=>cases hl
 |xs _ _ _ _=>cases hl
 |ep _ _=>cases hl
 |sl _ _=>cases hl
theorem ap5 {T:bb}{β:Nat→Nat}(hN:UQ T):∀{l:List SV}{r:List Value},apP l=true→dN T β l r→dN (anm T) β l r
 |[],[],_,h=>h
 |_::_,_::_,hl,h=>⟨SV.fix hN (Bool.and_eq_true_iff.1 hl).1 h.1,ap5 hN (Bool.and_eq_true_iff.1 hl).2 h.2⟩
theorem AV.fix {T:bb}{β:Nat→Nat}(hN:UQ T) {x:AV}{y:Value}(hl:x.aoe=true) (h:x.rel T β y):x.rel (anm T) β y:=by
 cases x with
 |o x=>cases x with
  |s x=>exact SV.fix hN hl h
  |a l=>obtain⟨cs,h1,h2⟩:=h;exact⟨cs,h1,ap5 hN hl h2⟩
 |fn f l=>exact h
 |t l=>cases hl
 |rs ek l=>cases hl
 |zz=>cases hl
theorem ap7 {T:bb}{β:Nat→Nat}(hN:UQ T):∀{l:List AV}{r:List Value},apQ l=true→r9 T β l r→r9 (anm T) β l r
 |[],[],_,h=>h
 |_::_,_::_,hl,h=>⟨AV.fix hN (Bool.and_eq_true_iff.1 hl).1 h.1,ap7 hN (Bool.and_eq_true_iff.1 hl).2 h.2⟩
theorem SV.aod {x:SV}(h:x.aoe=true):x.boxes=[]:=by
 cases x<;>first|rfl|cases h
theorem apb:∀{l:List SV},apP l=true→cc l=[]
 |[],_=>rfl
 |x::l,h=>by
  show x.boxes++cc l=[]
  rw [SV.aod (Bool.and_eq_true_iff.1 h).1,apb (Bool.and_eq_true_iff.1 h).2];rfl
theorem AV.aod {x:AV}(h:x.aoe=true):x.boxes=[]:=by
 cases x with
 |o x=>cases x with
  |s x=>exact SV.aod h
  |a l=>exact apb h
 |fn f l=>cases l with
  |nil=>rfl
  |cons _ _=>cases h
 |t l=>cases h
 |rs ek l=>rfl
 |zz=>rfl
theorem apc:∀{l:List AV},apQ l=true→∀av∈l,av.boxes=[]
 |x::l,h,av,hm=>by
  rcases ZB8.1 hm with rfl |hm
  ·exact AV.aod (Bool.and_eq_true_iff.1 h).1
  ·exact apc (Bool.and_eq_true_iff.1 h).2 av hm
theorem TC.lib {P:Program}{f:FuncId}{mv:Bool}{args:List AV}{post:AV→List AV→Prop}(h:TC P f mv args [] post) (hl:apQ args=true) {W w:World}{T:bb}{β:Nat→Nat}{vs:List Value}(hT:WT T W) (hN:UQ T) (c6:r9 T β args vs) (hb:Below W.heap.size W w):
  Calls P f vs.toArray w λe w'=>∃v r os T' β',e= .returned v∧post r os∧r.rel T' β' v∧Below w.heap.size w w'∧WT T' w'∧KO w 0 mv β T' β' w' os:=by
 have hT0:=apT hT hb
 refine (h w (anm T) β vs hT0 (aoZ hN) (ap7 hN hl c6) (λav ha i hi=>by rw [apc hl av ha] at hi;cases hi) ⟨ZA7 _,λi av hi=>by simp at hi,λi j hi=>absurd hi (Nat.not_lt_zero _)⟩).mono ?_
 rintro e w' ⟨v,r,os,T',β',he,hp,hr,_,hA,hO⟩
 refine⟨v,r,os,T',β',he,hp,hr,⟨hA.os,hA.tape,hA.output,hA.gd,λk hk=>?_⟩,hA.typed,hO⟩
 cases hq:anm T k with
 |none=>exact hA.frame k hk (λi hi=>absurd hi (Nat.not_lt_zero _)) (by rw [hq];trivial)
 |some q=>
  have h1:=hT0 k q hq
  have h2:=hA.typed k q ((hA.new k hk).trans hq)
  obtain⟨_,cs,e1,fr,rfl |rfl⟩:=aox hq
  ·exact (show w'.heap[k]?=_ from h2).trans (show w.heap[k]?=_ from h1).symm
  ·exact (show w'.heap[k]?=_ from h2).trans (show w.heap[k]?=_ from h1).symm
theorem amY {T:bb}{β:Nat→Nat}{x:SV}{l:List SV}{ys:List Value}(h:dN T β (x::l) ys):∃y r,ys=y::r∧x.rel T β y∧dN T β l r:=by
 cases ys with
 |nil=>exact h.elim
 |cons y r=>exact⟨y,r,rfl,h.1,h.2⟩
theorem ao3 {T:bb}{β:Nat→Nat}{ys:List Value}(h:dN T β [] ys):ys=[]:=by
 cases ys with
 |nil=>rfl
 |cons y r=>exact h.elim
theorem aoE {T:bb}{β:Nat→Nat}{x:AV}{l:List AV}{ys:List Value}(h:r9 T β (x::l) ys):∃y r,ys=y::r∧x.rel T β y∧r9 T β l r:=by
 cases ys with
 |nil=>exact h.elim
 |cons y r=>exact⟨y,r,rfl,h.1,h.2⟩
theorem ap6 {T:bb}{β:Nat→Nat}{ys:List Value}(h:r9 T β [] ys):ys=[]:=by
 cases ys with
 |nil=>rfl
 |cons y r=>exact h.elim
theorem arW {T:bb}{W w:World}{b:Nat}{cs:Array Value}{e:TypeId}(hT:WT T W) (hN:UQ T) (hb:Below W.heap.size W w) (FL:W.heap.size≤b) (hc:w.heap[b]?=some (.cells cs e (0,0))):
  WT (xi (anm T) b (.ln cs e (0,0))) w∧UQ (xi (anm T) b (.ln cs e (0,0)))∧uS (anm T) (xi (anm T) b (.ln cs e (0,0))):=by
 have hn:anm T b=none:=by
  cases hq:anm T b with
  |none=>rfl
  |some q=>have:=BK.lt (hT b q (aox hq).1);omega
 have hm:uS (anm T) (xi (anm T) b (.ln cs e (0,0))):=K8 hn
 refine⟨λi k hi=>?_,⟨λi ek n c hi=>?_,(aoZ hN).oV.mono hm⟩,hm⟩
 ·unfold xi at hi
  split at hi
  ·rename_i he;cases hi;subst he;exact hc
  ·exact apT hT hb i k hi
 ·unfold xi at hi
  split at hi
  ·cases hi
  ·exact (aoZ hN).no i ek n c hi
end GL
namespace GL
open Go.RowKit
abbrev ptV (p:Pt):Value:=.agg #[.int .i64 p.1,.int .i64 p.2.1,.int .i64 p.2.2.1,.int .i64 p.2.2.2.1,.int .i64 p.2.2.2.2]
abbrev trV (t:bf):Value:=.agg #[.int .i64 t.1,.int .i64 t.2.1,.int .i64 t.2.2.1,.int .i64 t.2.2.2.1,.int .i64 t.2.2.2.2.1,.int .i64 t.2.2.2.2.2.1,.int .i64 t.2.2.2.2.2.2]
abbrev stC (S:ay):List CV:=[.vz ab S.rows,.vz ag S.refs,.vz ag S.last,.v (.int .i64 S.cg),.vz ae S.gone,.v (.int .i64 S.bZ),.vz ae S.dead,.q S.same]
structure aqp (T:bb) (W:World) (b:Nat) (S:ay):Prop where
 wt:WT T W
 no:UQ T
 at_:∃cs,rdT T b cs∧xl T (stC S) cs.toList
theorem aqp.later {T:bb}{W w:World}{b:Nat}{S:ay}(h:aqp T W b S) (hb:Below W.heap.size W w):aqp (anm T) w b S:=by
 obtain⟨cs,h1,h2⟩:=h.at_
 exact⟨apT h.wt hb,aoZ h.no,cs,aoy h.no h1,ao4 h.no h2⟩
theorem aos {T T':bb}{β:Nat→Nat}(hm:uS (anm T) T') (hN:UQ T):∀{l:List CV}{r:List Value},dN T β (cvs l) r→xl T' l r
 |[],[],_=>trivial
 |x::l,y::r,h=>by
  refine⟨?_,aos hm hN h.2⟩
  have h1:=h.1
  cases x with
  |v _=>exact h1
  |q _=>exact h1
  |vz ek l=>
   have h3:(SV.vz ek l).rel T' β y:=SV.nJ hm (SV.fix hN rfl h1)
   exact h3
 |[],_::_,h=>h.elim
 |_::_,[],h=>h.elim
theorem aqp.boxed {T:bb}{W w:World}{b:Nat}{S:ay}{cs:Array Value}{β:Nat→Nat}{e:TypeId}(hT:WT T W) (hN:UQ T) (c6:dN T β (cvs (stC S)) cs.toList) (hb:Below W.heap.size W w) (FL:W.heap.size≤b) (hc:w.heap[b]?=some (.cells cs e (0,0))):
  ∃T',aqp T' w b S:=by
 obtain⟨h1,h2,h3⟩:=arW hT hN hb FL hc
 exact⟨_,h1,h2,cs,.inr (.inl ⟨e,(0,0),by unfold xi;rw [if_pos rfl]⟩),aos h3 hN c6⟩
def arq (w:World) (v:Value) (L:List Pt):Prop:=(L=[]∧∃p cap,v= .slice p 0 cap)∨∃b o cap,v= .slice (some ⟨b,o,none⟩) L.length cap∧b<w.heap.size∧∀k (h:k<L.length),w.cell? ⟨b,o+k*5,none⟩=some (.int .i64 L[k].1)∧w.cell? ⟨b,o+k*5+1,none⟩=some (.int .i64 L[k].2.1)
         ∧w.cell? ⟨b,o+k*5+2,none⟩=some (.int .i64 L[k].2.2.1)∧w.cell? ⟨b,o+k*5+3,none⟩=some (.int .i64 L[k].2.2.2.1)∧w.cell? ⟨b,o+k*5+4,none⟩=some (.int .i64 L[k].2.2.2.2)
theorem aru {w:World}{b o cap:Nat}{cs:Array Value}{e:TypeId}{fr:Nat×Nat}{L:List Pt}(hc:w.heap[b]?=some (.cells cs e fr)) (hw:win cs o (flat ae L)):arq w (.slice (some ⟨b,o,none⟩) L.length cap) L:=by
 refine .inr ⟨b,o,cap,rfl,(ZF1.1 hc).1,λk hk=>?_⟩
 have hwr:=E3 hw hk
 have hn:nth ae L k=L[k]:=by unfold nth;rw [ZB1 hk]
 rw [hn] at hwr
 refine⟨?_,?_,?_,?_,?_⟩
 ·rw [rr hc];exact hwr 0 _ rfl
 ·rw [rr hc];exact hwr 1 _ rfl
 ·rw [rr hc];exact hwr 2 _ rfl
 ·rw [rr hc];exact hwr 3 _ rfl
 ·rw [rr hc];exact hwr 4 _ rfl
section
variable {T:bb}{W w:World}{b:Nat}{S:ay}
theorem aqK (h:aqp T W b S) (p:Pt) (hp:k9 S p) (hb:Below W.heap.size W w):
  Calls Tryz.prog 33 #[.pointer (some ⟨b,0,none⟩),ptV p] w λe w'=>e= .returned (.tuple #[.string (bF S p).1,.bool (bF S p).2])∧Below w.heap.size w w':=by
 obtain⟨cs,h1,h2⟩:=h.at_
 obtain⟨s0,s1,s2,amG,amH,amI,amJ,amK⟩:=S
 obtain⟨p1,p2,p3,p4,p5⟩:=p
 refine ((zJ.1 ((s0,s1,s2,amG,amH,amI,amJ,amK),(p1,p2,p3,p4,p5)) () hp).lib (β:=λi=>i) (vs:=[.pointer (some ⟨b,0,none⟩),ptV (p1,p2,p3,p4,p5)]) rfl h.wt h.no ⟨⟨b,cs,rfl,h1,h2⟩,⟨_,rfl,rfl,rfl,rfl,rfl,rfl,aa⟩,aa⟩ hb).mono ?_
 rintro e w' ⟨v,r,os,T',β',rfl,⟨z,_,rfl,_⟩,hv,hB,hW,_⟩
 obtain⟨⟨vs⟩,rfl,hv2⟩:=(show AV.rel T' β' (.t [.s (.str (bF (s0,s1,s2,amG,amH,amI,amJ,amK) (p1,p2,p3,p4,p5)).1),.s (.q (bF (s0,s1,s2,amG,amH,amI,amJ,amK) (p1,p2,p3,p4,p5)).2)]) v from hv)
 match vs,(show uD T' β' [.s (.str (bF (s0,s1,s2,amG,amH,amI,amJ,amK) (p1,p2,p3,p4,p5)).1),.s (.q (bF (s0,s1,s2,amG,amH,amI,amJ,amK) (p1,p2,p3,p4,p5)).2)] vs from hv2) with
 |[y,q],⟨hy,hq,_⟩=>
  have hy:y= .string (bF (s0,s1,s2,amG,amH,amI,amJ,amK) (p1,p2,p3,p4,p5)).1:=hy
  have hq:q= .bool (bF (s0,s1,s2,amG,amH,amI,amJ,amK) (p1,p2,p3,p4,p5)).2:=hq
  subst hy hq
  exact⟨rfl,hB⟩
theorem aow (h:aqp T W b S) (t:bf) (hp:vh S t) (hm:qJ S t=true→t.many.toNat≤(bA S t).1.length) (hb:Below W.heap.size W w):
  Calls Tryz.prog 66 #[.pointer (some ⟨b,0,none⟩),trV t] w λe w'=>∃v,e= .returned (.tuple #[v,.bool (qJ S t)])∧Below w.heap.size w w'∧(qJ S t=true→arq w' v ((bA S t).1.take t.many.toNat)):=by
 obtain⟨cs,h1,h2⟩:=h.at_
 obtain⟨s0,s1,s2,amG,amH,amI,amJ,amK⟩:=S
 obtain⟨t1,t2,t3,t4,t5,t6,t7⟩:=t
 refine ((abM.1 ((s0,s1,s2,amG,amH,amI,amJ,amK),(t1,t2,t3,t4,t5,t6,t7)) () hp).lib (β:=λi=>i) (vs:=[.pointer (some ⟨b,0,none⟩),trV (t1,t2,t3,t4,t5,t6,t7)]) rfl h.wt h.no ⟨⟨b,cs,rfl,h1,h2⟩,⟨_,rfl,rfl,rfl,rfl,rfl,rfl,rfl,rfl,aa⟩,aa⟩ hb).mono ?_
 generalize ((s0,s1,s2,amG,amH,amI,amJ,amK):ay)=S at *
 generalize ((t1,t2,t3,t4,t5,t6,t7):bf)=t at *
 rintro e w' ⟨v,r,os,T',β',rfl,⟨z,hz,rfl,rfl,_⟩,hv,hB,hW,hO⟩
 have hz:z=qJ S t:=hz
 obtain⟨⟨vs⟩,rfl,hv2⟩:=(show AV.rel T' β' (bS S t z) v from hv)
 have hm2:∃y,vs=[y,.bool z]:=by
  match vs,hv2 with
  |[y,q],⟨_,hq,_⟩=>
   have hq:q= .bool z:=hq
   exact⟨y,by rw [hq]⟩
 obtain⟨y,rfl⟩:=hm2
 refine⟨y,by rw [←hz],hB,λcG=>?_⟩
 have hzt:z=true:=hz.trans cG
 subst hzt
 have hy:SV.rel T' β' (.xs 0 5 0 (bf.many t).toNat) y:=hv2.1
 have hmk:=hm cG
 have hl:(List.take (bf.many t).toNat (bA S t).1).length=(bf.many t).toNat:=by rw [ZB9];omega
 rcases hy with ⟨h0,p,rfl⟩ |⟨cap,n,rfl,EY,hT0,_⟩
 ·exact .inl ⟨List.eq_nil_of_length_eq_zero (by rw [hl];exact h0),p,0,rfl⟩
 ·obtain⟨_,_,⟨mg,e',hc',ahV⟩,_⟩:=hO.at_ 0 (.rs ae (bA S t).1) rfl (by intro h;cases h)
  obtain⟨_,z',ar9,_⟩:=ahV
  have hw:win mg (0*ae.length) (flat ae (((bA S t).1.drop 0).take (bf.many t).toNat)):=A2 ar9 0 _
  have:=aru (cap:=cap) hc' (o:=0) (L:=(bA S t).1.take (bf.many t).toNat) hw
  rw [hl] at this
  exact this
end
end GL
namespace GL
noncomputable section
def an8 (l:List Pt):Prop:=l.length≤1000000
def aq9 (l:List Pt):AV:=.s (.vw ae l)
def arw (l:List Pt):List AV:=[]
def aop:cn where
 A:=[.s (.vz ae)]
 B:=[]
 pre:=λx b=>an8 x
 r:=λx b _=>aq9 x
 o:=λx b _=>arw x
theorem aqH:Has Tryz.prog 67 aop:=by
 refine Has.al9 zT zF zF (l:=[]) trivial Tryz.func67 ?_
 rintro (l:List Pt) _ (hp:an8 l)
 show vc _ _ _ _ (entry [.s (.vz ae l)] []) _
 have hp:l.length≤1000000:=hp
 refine⟨?_,λ|false=>λw1=>⟨λw2=>?_,λw3=>⟨aa,⟨⟨?_,?_⟩,aa⟩,?_⟩⟩ |true=>λw4=>⟨λw5=>?_,λw6=>⟨aa,⟨⟨?_,?_⟩,aa⟩,?_⟩⟩⟩
 all_goals first|refine aw ?_|refine ax ?_|exact a8|exact a7|(show 0+l.length≤1048576;omega)|exact⟨false,λh=>by cases h⟩|skip
 ·cases w2
 ·refine⟨[],[],_,_,_,ζ,cf,(),0,trivial,by show Wk (.s (.vw ae l)) (.s (.vw ae (List.take (0+l.length) ([]++l))));rw [ZD0,ZD1 (ZA8 (ZA6 _).symm)];exact Wk.refl _,ζ,ζ⟩
 ·refine⟨[],[],_,_,_,ζ,cf,(),0,trivial,by show Wk (.s (.vw ae l)) (.s (.v (.slice none 0 0)));rw [w4 rfl];exact Wk.nil _,ζ,ζ⟩
 ·cases w6
def ao5 (l:List ByteArray):Prop:=l.length≤1000000
def aq8 (l:List ByteArray):AV:=.s (.vw ab l)
def arv (l:List ByteArray):List AV:=[]
def aqM:cn where
 A:=[.s (.vz ab)]
 B:=[]
 pre:=λx b=>ao5 x
 r:=λx b _=>aq8 x
 o:=λx b _=>arv x
theorem arX:Has Tryz.prog 72 aqM:=by
 refine Has.al9 zT zF zF (l:=[]) trivial Tryz.func72 ?_
 rintro (l:List ByteArray) _ (hp:ao5 l)
 show vc _ _ _ _ (entry [.s (.vz ab l)] []) _
 have hp:l.length≤1000000:=hp
 refine⟨?_,λ|false=>λw1=>⟨λw2=>?_,λw3=>⟨aa,⟨⟨?_,?_⟩,aa⟩,?_⟩⟩ |true=>λw4=>⟨λw5=>?_,λw6=>⟨aa,⟨⟨?_,?_⟩,aa⟩,?_⟩⟩⟩
 all_goals first|refine aw ?_|refine ax ?_|exact a8|exact a7|(show 0+l.length≤1048576;omega)|exact⟨false,λh=>by cases h⟩|skip
 ·cases w2
 ·refine⟨[],[],_,_,_,ζ,cf,(),0,trivial,by show Wk (.s (.vw ab l)) (.s (.vw ab (List.take (0+l.length) ([]++l))));rw [ZD0,ZD1 (ZA8 (ZA6 _).symm)];exact Wk.refl _,ζ,ζ⟩
 ·refine⟨[],[],_,_,_,ζ,cf,(),0,trivial,by show Wk (.s (.vw ab l)) (.s (.v (.slice none 0 0)));rw [w4 rfl];exact Wk.nil _,ζ,ζ⟩
 ·cases w6
def ao6 (l:List Int):Prop:=l.length≤1000000
def ara (l:List Int):AV:=.s (.vw ag l)
def arx (l:List Int):List AV:=[]
def aqN:cn where
 A:=[.s (.vz ag)]
 B:=[]
 pre:=λx b=>ao6 x
 r:=λx b _=>ara x
 o:=λx b _=>arx x
theorem arY:Has Tryz.prog 109 aqN:=by
 refine Has.al9 zT zF zF (l:=[]) trivial Tryz.func109 ?_
 rintro (l:List Int) _ (hp:ao6 l)
 show vc _ _ _ _ (entry [.s (.vz ag l)] []) _
 have hp:l.length≤1000000:=hp
 refine⟨?_,λ|false=>λw1=>⟨λw2=>?_,λw3=>⟨aa,⟨⟨?_,?_⟩,aa⟩,?_⟩⟩ |true=>λw4=>⟨λw5=>?_,λw6=>⟨aa,⟨⟨?_,?_⟩,aa⟩,?_⟩⟩⟩
 all_goals first|refine aw ?_|refine ax ?_|exact a8|exact a7|(show 0+l.length≤1048576;omega)|exact⟨false,λh=>by cases h⟩|skip
 ·cases w2
 ·refine⟨[],[],_,_,_,ζ,cf,(),0,trivial,by show Wk (.s (.vw ag l)) (.s (.vw ag (List.take (0+l.length) ([]++l))));rw [ZD0,ZD1 (ZA8 (ZA6 _).symm)];exact Wk.refl _,ζ,ζ⟩
 ·refine⟨[],[],_,_,_,ζ,cf,(),0,trivial,by show Wk (.s (.vw ag l)) (.s (.v (.slice none 0 0)));rw [w4 rfl];exact Wk.nil _,ζ,ζ⟩
 ·cases w6
def anT (s:List Int×List Int):Prop:=s.1.length≤1000000∧s.2.length≤1000000
def anP (s:List Int×List Int):AV:=.a [.vw ag s.1,.vw ag s.2]
def aqd (s:List Int×List Int):List AV:=[]
def aon:cn where
 A:=[.a [.vz ag,.vz ag]]
 B:=[]
 pre:=λx b=>anT x
 r:=λx b _=>anP x
 o:=λx b _=>aqd x
theorem aqE:Has Tryz.prog 73 aon:=by
 refine Has.zB zT zF zF (l:=[(109,aqN)]) ⟨arY,aa⟩ Tryz.func73 ?_
 rintro⟨(srf:List Int),(sla:List Int)⟩ _ (hp:anT (srf,sla))
 show vc _ _ _ _ (entry [.a [.vz ag srf,.vz ag sla]] []) _
 obtain⟨h1,h2⟩:=hp
 refine⟨Sq1,Sq3,ζ,[.s 3,.b 1001],Sq4,ζ,Sq4,Sq5,ζ,⟨tv2,?_⟩,?_,λx1 w2=>⟨Sq1,Sq6,ζ,[.s 6,.b 1001],Sq7,ζ,Sq7,Sq8,ζ,⟨tv2,?_⟩,?_,λx3 w4=>⟨[.s 5,.s 8],Sq9,ζ,[.s 2,.s 9,.b 1002],[.b 1002],ζ,?_⟩⟩⟩
 all_goals first|refine aw ?_|refine ax ?_|exact a8|(dsimp only [aqN,ao6];omega)|exact a7|exact h1|exact h2|skip
 all_goals refine⟨[],[],_,_,_,rfl,az,(),trivial,?_,?_,rfl⟩
 ·(show _=anP (srf,sla));unfold anP;first|rfl
 ·rfl
def anS (S:ay):Prop:=S.rows.length≤1000000∧S.refs.length≤1000000∧S.last.length≤1000000∧S.gone.length≤1000000∧S.dead.length≤1000000
def anO (S:ay):AV:=.a [.vw ab S.rows,.vw ag S.refs,.vw ag S.last,.int S.cg,.vw ae S.gone,.int S.bZ,.vw ae S.dead,.q S.same]
def aqc (S:ay):List AV:=[]
def aom:cn where
 A:=[.a xv]
 B:=[]
 pre:=λx b=>anS x
 r:=λx b _=>anO x
 o:=λx b _=>aqc x
theorem aqD:Has Tryz.prog 38 aom:=by
 refine Has.zB zT zF zF (l:=[(72,aqM),(67,aop),(73,aon)]) ⟨arX,aqH,aqE,aa⟩ Tryz.func38 ?_
 rintro⟨(aj:List ByteArray),(ak:List Int),(an:List Int),(ao:Int),(ah:List Pt),(aq:Int),(ai:List Pt),(ar:Bool)⟩ _ (hp:anS (aj,ak,an,ao,ah,aq,ai,ar))
 show vc _ _ _ _ (entry [.a [.vz ab aj,.vz ag ak,.vz ag an,.int ao,.vz ae ah,.int aq,.vz ae ai,.q ar]] []) _
 obtain⟨h1,h2,h3,h4,h5⟩:=hp
 refine⟨⟨tv2,?_⟩,λx1 w2=>⟨⟨⟨tv3,aa⟩,?_,?_⟩,λx3 w4=>⟨⟨tv2,?_⟩,λx5 w6=>⟨⟨tv2,?_⟩,λx7 w8=>?_⟩⟩⟩⟩
 all_goals first|refine aw ?_|refine ax ?_|exact a8|(dsimp only [aqM,ao5,aop,an8,aon,anT];omega)|exact a7|exact h1|exact h2|exact h3|exact h4|exact h5|exact⟨h2,h3⟩|skip
 all_goals refine⟨[],[],_,_,_,rfl,az,(),trivial,?_,?_,rfl⟩
 ·(show _=anO (aj,ak,an,ao,ah,aq,ai,ar));unfold anO;first|rfl
 ·rfl
def anU (S:ay) (t:bf) (k:Int) (text:ByteArray):Prop:=(py S t).2=true∧0≤k∧k<((py S t).1.length:Int)∧text=(bF S (nth ae (py S t).1 k.toNat)).1
def anQ (S:ay) (t:bf) (k:Int) (text:ByteArray):AV:=.t [trA t,.s (.q true)]
def aqe (S:ay) (t:bf) (k:Int) (text:ByteArray):List AV:=[]
def aoo:cn where
 A:=[.vs xv,.a [.int,.int,.int,.int,.int,.int,.int],.s .int,.s .str]
 B:=[]
 pre:=λx b=>anU (x.1) (x.2.1) (x.2.2.1) (x.2.2.2)
 r:=λx b _=>anQ (x.1) (x.2.1) (x.2.2.1) (x.2.2.2)
 o:=λx b _=>aqe (x.1) (x.2.1) (x.2.2.1) (x.2.2.2)
theorem aqF:Has Tryz.prog 39 aoo:=by
 refine Has.zB zT zF (λd=>d==27) (l:=[(66,DF),(67,aop),(33,kF)]) ⟨abM,aqH,zJ,aa⟩ Tryz.func39 ?_
 rintro⟨⟨(aj:List ByteArray),(ak:List Int),(an:List Int),(ao:Int),(ah:List Pt),(aq:Int),(ai:List Pt),(ar:Bool)⟩,⟨(t1:Int),(t2:Int),(t3:Int),(t4:Int),(t5:Int),(t6:Int),(t7:Int)⟩,(k:Int),(text:ByteArray)⟩ _ (hp:anU (aj,ak,an,ao,ah,aq,ai,ar) (t1,t2,t3,t4,t5,t6,t7) k text)
 show vc _ _ _ _ (entry [.s (.vs [.vz ab aj,.vz ag ak,.vz ag an,.v (.int .i64 ao),.vz ae ah,.v (.int .i64 aq),.vz ae ai,.q ar] 0),.a [.int t1,.int t2,.int t3,.int t4,.int t5,.int t6,.int t7],.int k,.str text] []) _
 obtain⟨h1,(h2:0≤k),h3,h4⟩:=hp
 have hv:=anZ (s:=(aj,ak,an,ao,ah,aq,ai,ar)) (t:=(t1,t2,t3,t4,t5,t6,t7)) h1
 have hst:=QM.1 hv.1.1
 have cG:qJ (aj,ak,an,ao,ah,aq,ai,ar) (t1,t2,t3,t4,t5,t6,t7)=true:=(Bool.and_eq_true_iff.1 (YI.symm.trans h1)).2
 have hm:t7.toNat≤(bA (aj,ak,an,ao,ah,aq,ai,ar) (t1,t2,t3,t4,t5,t6,t7)).1.length:=adt cG
 have h7:t7≤16:=(apz cG).1.2
 have hL:(py (aj,ak,an,ao,ah,aq,ai,ar) (t1,t2,t3,t4,t5,t6,t7)).1=(bA (aj,ak,an,ao,ah,aq,ai,ar) (t1,t2,t3,t4,t5,t6,t7)).1.take t7.toNat:=by rw [K9 hv.1.1 cG]
 have hr:ay.rd (aj,ak,an,ao,ah,aq,ai,ar):=hst.rd
 have htx:(0:Int)≤ao:=by have h:1≤ao∧ao≤900:=hst.cg;omega
 refine⟨⟨⟨aa,tv8,aa⟩,?_,?_⟩,λ|false=>λw1=>⟨⟨tv2,?_⟩,λx2 w3=>?_⟩ |true=>λw4=>⟨⟨⟨?_,aa⟩,?_⟩,λx5 w6=>?_⟩⟩
 all_goals first|refine aw ?_|refine ax ?_|exact a8|(dsimp only [DF,vh,aop,an8,kF,k9];omega)|exact a7|exact hr|exact htx|exact absurd ((show false=qJ (aj,ak,an,ao,ah,aq,ai,ar) (t1,t2,t3,t4,t5,t6,t7) from w1).trans cG) Bool.noConfusion|(show 0+t7.toNat≤(bA (aj,ak,an,ao,ah,aq,ai,ar) (t1,t2,t3,t4,t5,t6,t7)).1.length;omega)|(show (List.take _ _).length≤1000000;rw [ZB9];omega)|skip
 ·exact absurd ((show false=qJ (aj,ak,an,ao,ah,aq,ai,ar) (t1,t2,t3,t4,t5,t6,t7) from w1).trans cG) Bool.noConfusion
 ·show (List.take t7.toNat (bA (aj,ak,an,ao,ah,aq,ai,ar) (t1,t2,t3,t4,t5,t6,t7)).1).length≤1000000;rw [ZB9];omega
 ·refine lW (l:=[(66,DF),(67,aop),(33,kF)]) (ex:=zT) (wr:=zF) (pt:=λd=>d==27) ⟨abM,aqH,zJ,aa⟩ [.s 0,.s 2,.s 3,.s 5,.b 1005,.s 8,.b 1008,.s 9,.s 10,.s 12] (λ_:Unit=>[]) (λ_=>True) (λ_=>0) () [] aa dM ?_
  rintro⟨⟩ _
  have bU:k<(((bA (aj,ak,an,ao,ah,aq,ai,ar) (t1,t2,t3,t4,t5,t6,t7)).1.take t7.toNat).length:Int):=by rw [←hL];exact h3
  have htx:(bF (aj,ak,an,ao,ah,aq,ai,ar) (nth ae ((bA (aj,ak,an,ao,ah,aq,ai,ar) (t1,t2,t3,t4,t5,t6,t7)).1.take t7.toNat) k.toNat)).1=text:=by rw [←hL];exact h4.symm
  have hpo:aZ (nth ae ((bA (aj,ak,an,ao,ah,aq,ai,ar) (t1,t2,t3,t4,t5,t6,t7)).1.take t7.toNat) k.toNat)=true:=by rw [←hL];exact (hv.2 _ (bR (ek:=ae) (by omega))).1.1
  have dd1:decide ((((bA (aj,ak,an,ao,ah,aq,ai,ar) (t1,t2,t3,t4,t5,t6,t7)).1.take t7.toNat).length:Int)≤k)=true→False:=λh=>by have:=aJ h;omega
  have dd2:(!decide (k≥(((bA (aj,ak,an,ao,ah,aq,ai,ar) (t1,t2,t3,t4,t5,t6,t7)).1.take t7.toNat).length:Int)))=true→True:=λ_=>trivial
  have dd3:(!decide (k≥(((bA (aj,ak,an,ao,ah,aq,ai,ar) (t1,t2,t3,t4,t5,t6,t7)).1.take t7.toNat).length:Int)))=false→False:=λh=>by have:=aJ (cL h);omega
  have dd4:decide ((bF (aj,ak,an,ao,ah,aq,ai,ar) (nth ae ((bA (aj,ak,an,ao,ah,aq,ai,ar) (t1,t2,t3,t4,t5,t6,t7)).1.take t7.toNat) k.toNat)).1=text)=false→False:=λh=>aA h htx
  refine⟨λw1=>⟨aa,?_⟩,λw2=>⟨⟨?_,?_⟩,⟨⟨aa,tv6,aa⟩,λx3 w4=>?_,?_,?_⟩,λx5 w6=>⟨aa,λw7=>⟨λw8=>?_,λw9=>⟨⟨?_,?_⟩,?_⟩⟩,λdy=>⟨⟨?_,?_⟩,?_⟩⟩⟩⟩
  all_goals first|refine aw ?_|refine ax ?_|exact a8|(dsimp only [DF,vh,aop,an8,kF,k9];omega)|exact a7|exact bU|exact hr.sz _ w4|exact hst.len|exact hpo|skip
  ·exact (dd1 w1).elim
  ·refine⟨[],[],_,_,_,ζ,az,(),aa,?_,?_,ζ⟩
   ·(show _=anQ (aj,ak,an,ao,ah,aq,ai,ar) (t1,t2,t3,t4,t5,t6,t7) k text);unfold anQ;first|rfl
   ·rfl
  ·exact (dd3 w9).elim
  ·exact (dd4 dy).elim
end
end GL
namespace GL
noncomputable section
def anA:List Pt→List Pt→Nat
 |p::x,q::y=>(bif ptrEq p q&& !(au p) then 1 else 0)+anA x y
 |_,_=>0
def aph (x:List Pt):Nat:=x.countP λp=>au p
theorem aoB:∀x y:List Pt,anA x y≤x.length∧anA x y≤y.length
 |[],y=>⟨ZA7 _,ZA7 _⟩
 |_::_,[]=>⟨ZA7 _,ZA7 _⟩
 |p::x,q::y=>by
  have h:=aoB x y
  unfold anA
  rw [ZA1,ZA1]
  cases ptrEq p q&& !(au p)<;>simp<;>omega
theorem aoA:∀x:List Pt,anA x []=0
 |[]=>rfl
 |_::_=>rfl
theorem aqU {x y:List Pt}{i:Nat}(hx:i<x.length) (hy:i<y.length):anA (x.drop i) (y.drop i)=(bif ptrEq (nth ae x i) (nth ae y i)&& !(au (nth ae x i)) then 1 else 0)+anA (x.drop (i+1)) (y.drop (i+1)):=by
 rw [bW (ek:=ae) hx,bW (ek:=ae) hy];rfl
theorem aqt {x y:List Pt}{i:Nat}(h:¬(i<x.length∧i<y.length)):anA (x.drop i) (y.drop i)=0:=by
 by_cases hx:i<x.length
 ·rw [show y.drop i=[] from ZB3 (by omega)];exact aoA _
 ·rw [show x.drop i=[] from ZB3 (by omega)];rfl
structure amp (X Y:List Pt) (i:Nat) (n:Int):Prop where
 n:n=(anA X Y:Int)-anA (X.drop i) (Y.drop i)
 x:i≤X.length
 y:i≤Y.length
theorem amp.z (X Y:List Pt):amp X Y 0 0:=⟨by simp,ZA7 _,ZA7 _⟩
theorem amp.st {X Y:List Pt}{i:Nat}{n:Int}(h:amp X Y i n) (h1:i<X.length) (h2:i<Y.length) (c:Bool) (hc:(ptrEq (nth ae X i) (nth ae Y i)&& !(au (nth ae X i)))=c):amp X Y (i+1) (n+bif c then 1 else 0):=by
 have e:=aqU h1 h2
 rw [hc] at e
 refine⟨?_,h1,h2⟩
 have:=h.n
 cases c with
 |true=>simp only [cond_true] at e ⊢;omega
 |false=>simp only [cond_false] at e ⊢;omega
theorem amp.hit {X Y:List Pt}{i:Nat}{n:Int}(h:amp X Y i n) (h1:i<X.length) (h2:i<Y.length) (hq:ptrEq (nth ae X i) (nth ae Y i)=true) (hh:(!(au (nth ae X i)))=true):amp X Y (i+1) (n+1):=h.st h1 h2 true (by rw [hq,hh];rfl)
theorem amp.mi {X Y:List Pt}{i:Nat}{n:Int}(h:amp X Y i n) (h1:i<X.length) (h2:i<Y.length) (hq:ptrEq (nth ae X i) (nth ae Y i)=false∨(!(au (nth ae X i)))=false):amp X Y (i+1) n:=by
 have e:=h.st h1 h2 false (by rcases hq with hq |hq<;>rw [hq];exact Bool.false_and _;exact ZD7 _)
 rw [cond_false,Int.add_zero] at e;exact e
theorem amp.amu {X Y:List Pt}{i:Nat}{n:Int}(h:amp X Y i n) (hx:X.length≤16): -16≤n∧n≤16:=by
 have h1:=(aoB X Y).1
 have h2:=(aoB (X.drop i) (Y.drop i)).1
 rw [ZC8] at h2
 have:=h.n;omega
theorem amp.e {X Y:List Pt}{i:Nat}{n:Int}(h:amp X Y i n) (he:¬(i<X.length∧i<Y.length)):n=(anA X Y:Int):=by
 have:=aqt he;have:=h.n;omega
end
end GL
namespace GL
noncomputable section
structure asc (l:List Int):Prop where
 jK:∀b∈l,0≤b∧b≤255
structure amo (X:List Pt) (m0:Int) (i:Nat) (m:Int):Prop where
 x:i≤X.length
 m:m=m0+(aph (X.take i):Int)
theorem amo.z (X:List Pt) (m0:Int):amo X m0 0 m0:=⟨ZA7 _,(Int.add_zero _).symm⟩
theorem amo.hit {X:List Pt}{m0 m:Int}{i:Nat}(h:amo X m0 i m) (h1:i<X.length) (hp:au (nth ae X i)=true):amo X m0 (i+1) (m+1):=
 ⟨h1,by rw [h.m];unfold aph;rw [GB h1,List.countP_append];simp [hp];omega⟩
theorem amo.mi {X:List Pt}{m0 m:Int}{i:Nat}(h:amo X m0 i m) (h1:i<X.length) (hp:au (nth ae X i)=false):amo X m0 (i+1) m:=
 ⟨h1,by rw [h.m];unfold aph;rw [GB h1,List.countP_append];simp [hp]⟩
theorem amo.amu {X:List Pt}{m0 m:Int}{i:Nat}(h:amo X m0 i m) (hx:X.length≤16):m0≤m∧m≤m0+16:=by
 have h1:aph (X.take i)≤(X.take i).length:=List.countP_le_length ..
 rw [ZB9] at h1
 have:=h.m;omega
theorem amo.fin {X:List Pt}{m0 m:Int}{i:Nat}(h:amo X m0 i m) (hi:¬i<X.length):m=m0+(aph X:Int):=by
 have:=h.m
 rwa [ZD1 (by omega)] at this
end
end GL
namespace GL
noncomputable section
def anR (r:List Int×Int) (t:bf):Prop:=Rdr r 950000∧-1≤t.many∧t.many≤18
def apM (r:List Int×Int) (t:bf) (z:Int×Int):Prop:=(-1≤z.1∧z.1≤18)∧r.2≤z.2∧z.2≤r.2+2
def apJ (r:List Int×Int) (t:bf) (z:Int×Int):AV:=.s (.int z.1)
def aqa (r:List Int×Int) (t:bf) (z:Int×Int):List AV:=[.a [.vw mf r.1,.int z.2]]
def aol:cn where
 A:=[.b 0,.a [.int,.int,.int,.int,.int,.int,.int]]
 B:=[.a [.vw mf,.int]]
 pre:=λx b=>anR b (x.2)
 α:=λ_ _=>Int×Int
 φ:=λx b z=>apM b (x.2) z
 r:=λx b z=>apJ b (x.2) z
 o:=λx b z=>aqa b (x.2) z
theorem aqB:Has Tryz.prog 30 aol:=by
 refine Has.fm zT zF zF (l:=[(58,ba)]) ⟨dh,aa⟩ Tryz.func30 ?_
 rintro⟨_,⟨(t1:Int),(t2:Int),(t3:Int),(t4:Int),(t5:Int),(t6:Int),(t7:Int)⟩⟩ ⟨(rb:List Int),(rp:Int)⟩ (hp:anR (rb,rp) (t1,t2,t3,t4,t5,t6,t7))
 show vc _ _ _ _ (entry [.s (.bp 0 0),.a [.int t1,.int t2,.int t3,.int t4,.int t5,.int t6,.int t7]] [.a [.vw mf rb,.int rp]]) _
 obtain⟨hr,xB,EW⟩:=hp
 have hr:Rdr (rb,rp) 950000:=hr
 have xB:(-1:Int)≤t7:=xB
 have EW:t7≤(18:Int):=EW
 have hp0:0≤rp:=hr.p0
 have hp1:rp≤950000:=hr.p1
 refine⟨⟨tv3,?_,?_⟩,λx1 w2=>⟨λw3=>⟨Sq3,Sq8,ζ,[.s 8,.b 1003],Sq9,ζ,[.s 9,.b 1010],[.s 10,.b 1010],ζ,aa,Sq0,Sq11,ζ,[.s 11,.b 0],[.s 12,.b 0],ζ,⟨tv3,?_,?_⟩,?_,λx4 w5=>⟨[.s 10,.s 12],Sq13,ζ,⟨?_,?_⟩,[.s 13,.b 1010],Sq14,ζ,?_,Sq14,Sq4,ζ,?_⟩⟩,λw6=>⟨⟨?_,?_⟩,⟨tv3,?_,?_⟩,λx7 w8=>?_⟩⟩⟩
 all_goals first|refine aw ?_|refine ax ?_|exact a8|(dsimp only [ba,ck];omega)|exact a7|(have e:x1.2=rp+1:=w2.2;exact hr.at (by omega) (by omega))|exact hr.at hp0 (by omega)|(show (8:Int)≤1000000;decide)|(show (4:Int)≤1000000;decide)|exact⟨(0,_),.inl rfl,rfl⟩|exact (pk (n:=4) (by decide) w5).1|exact (pk (n:=4) (by decide) w5).2|(show x4.1.toNat<4;have h:=pk (n:=4) (by decide) w5;omega)|(show -9223372036854775808≤t7+1;omega)|(show t7+1≤9223372036854775807;omega)|(show max 1 (t7+1)≤1000000;omega)|skip
 ·have e1:x1.2=rp+1:=w2.2
  have e2:x4.2=x1.2+1:=w5.2
  refine⟨[],[],_,_,_,ζ,cf,(nth ag [-1,t7,16,15] x4.1.toNat,x4.2),⟨FC (ek:=ag) (P:=λx:Int=> -1≤x∧x≤18) (by decide) (λx hx=>by simp only [ZB8,ZF6,or_false] at hx;rcases hx with rfl |rfl |rfl |rfl<;>omega) _,by show rp≤x4.2;omega,by show x4.2≤rp+2;omega⟩,ζ,ζ,ζ⟩
 ·have e1:x1.2=rp+1:=w2.2
  have e2:x7.2=x1.2+1:=w8.2
  have h:=pk (n:=max 1 (t7+1)) (by omega) w8
  refine⟨[],[],_,_,_,ζ,cf,(x7.1,x7.2),⟨⟨by show -1≤x7.1;omega,by show x7.1≤18;omega⟩,by show rp≤x7.2;omega,by show x7.2≤rp+2;omega⟩,ζ,ζ,ζ⟩
def an4 (a:List ByteArray) (b:List ByteArray):Prop:=a=b∧a.length≤1000000
def an0 (a:List ByteArray) (b:List ByteArray):AV:=.s (.q true)
def aqu (a:List ByteArray) (b:List ByteArray):List AV:=[]
def aoJ:cn where
 A:=[.s (.vz ab),.s (.vz ab)]
 B:=[]
 pre:=λx b=>an4 (x.1) (x.2)
 r:=λx b _=>an0 (x.1) (x.2)
 o:=λx b _=>aqu (x.1) (x.2)
theorem aqZ:Has Tryz.prog 40 aoJ:=by
 refine Has.fm zT zF zF (l:=[]) trivial Tryz.func40 ?_
 rintro⟨(a:List ByteArray),(b:List ByteArray)⟩ _ (hp:an4 a b)
 show vc _ _ _ _ (entry [.s (.vz ab a),.s (.vz ab b)] []) _
 obtain⟨(he:a=b),(hl:a.length≤1000000)⟩:=hp
 have hll:a.length=b.length:=congrArg List.length he
 refine⟨λw1=>?_,λw2=>?_⟩
 all_goals first|refine aw ?_|refine ax ?_|exact a8|exact a7|skip
 ·exact absurd (congrArg (Nat.cast:Nat→Int) hll) (aJ w1)
 ·refine cN (l:=[]) (ex:=zT) (wr:=zF) (pt:=zF) trivial [.s 0,.s 1] (λi:Nat=>[(.s 5,.int i)]) (λi=>i≤a.length) (λi=>a.length-i) 0 [] (ZA7 _) dM ?_
  rintro i (hi:i≤a.length)
  have cm:decide ((i:Int)<(a.length:Int))=true→i<a.length:=λh=>by have:=aJ h;omega
  refine⟨λw1=>⟨Sq0,Sq17,ζ,Sq5,Sq18,ζ,[.s 17,.s 18],Sq19,ζ,⟨?_,?_⟩,Sq19,Sq20,ζ,Sq1,Sq21,ζ,Sq5,Sq22,ζ,[.s 21,.s 22],Sq23,ζ,⟨?_,?_⟩,Sq23,Sq24,ζ,[.s 20,.s 24],Sq25,ζ,λw2=>?_,λw3=>⟨⟨?_,?_⟩,?_⟩⟩,λw4=>?_⟩
  all_goals first|refine aw ?_|refine ax ?_|exact a8|exact a7|exact cm w1|(have h:=cm w1;show ((i:Int))<(b.length:Int);omega)|skip
  ·subst he;simp at w2
  ·refine⟨(i+1),[],?_,?_,?_⟩
   rotate_right
   ·exact bV
   ·show i+1≤a.length;have:=cm w1;omega
   ·show a.length-(i+1)<a.length-i;have:=cm w1;omega
  ·refine⟨[],[],_,_,_,ζ,az,(),aa,?_,?_,ζ⟩
   ·(show _=an0 a b);unfold an0;first|rfl
   ·rfl
def an6 (a:List Int×List Int) (b:List Int×List Int):Prop:=a=b∧a.1.length≤1000000∧a.2.length≤1000000
def an2 (a:List Int×List Int) (b:List Int×List Int):AV:=.s (.q true)
def aqw (a:List Int×List Int) (b:List Int×List Int):List AV:=[]
def aoL:cn where
 A:=[.a [.vz ag,.vz ag],.a [.vz ag,.vz ag]]
 B:=[]
 pre:=λx b=>an6 (x.1) (x.2)
 r:=λx b _=>an2 (x.1) (x.2)
 o:=λx b _=>aqw (x.1) (x.2)
theorem aq1:Has Tryz.prog 41 aoL:=by
 refine Has.fm zT zF zF (l:=[(23,apk)]) ⟨ari,aa⟩ Tryz.func41 ?_
 rintro⟨⟨(arf:List Int),(amr:List Int)⟩,⟨(brf:List Int),(bla:List Int)⟩⟩ _ (hp:an6 (arf,amr) (brf,bla))
 show vc _ _ _ _ (entry [.a [.vz ag arf,.vz ag amr],.a [.vz ag brf,.vz ag bla]] []) _
 obtain⟨he,h1,h2⟩:=hp
 have he:(arf,amr)=(brf,bla):=he
 have e1:arf=brf:=congrArg Prod.fst he
 have e2:amr=bla:=congrArg Prod.snd he
 refine⟨⟨tv3,?_,?_⟩,λx1 w2=>⟨aa,λw3=>⟨⟨tv3,?_,?_⟩,λx4 w5=>?_⟩,λw6=>?_⟩⟩
 all_goals first|refine aw ?_|refine ax ?_|exact a8|(dsimp only [apk,aoj];omega)|exact a7|exact e1|exact e2|exact h1|exact h2|skip
 ·refine⟨[],[],_,_,_,ζ,az,(),aa,?_,?_,ζ⟩
  ·(show _=an2 (arf,amr) (brf,bla));unfold an2;first|rfl
  ·rfl
 ·exact absurd w6 Bool.noConfusion
def an5 (A:ay) (B:ay):Prop:=A=B∧A.rows.length≤1000000∧A.refs.length≤1000000∧A.last.length≤1000000∧A.gone.length≤1000000∧A.dead.length≤1000000
def an1 (A:ay) (B:ay):AV:=.s (.q true)
def aqv (A:ay) (B:ay):List AV:=[]
def aoK:cn where
 A:=[.a xv,.a xv]
 B:=[]
 pre:=λx b=>an5 (x.1) (x.2)
 r:=λx b _=>an1 (x.1) (x.2)
 o:=λx b _=>aqv (x.1) (x.2)
theorem aq0:Has Tryz.prog 12 aoK:=by
 refine Has.fm zT zF zF (l:=[(40,aoJ),(41,aoL),(42,apj)]) ⟨aqZ,aq1,arh,aa⟩ Tryz.func12 ?_
 rintro⟨⟨(Aro:List ByteArray),(Arf:List Int),(Ala:List Int),(Atx:Int),(Ago:List Pt),(Akp:Int),(Ade:List Pt),(Asm:Bool)⟩,⟨(Bro:List ByteArray),(Brf:List Int),(Bla:List Int),(Btx:Int),(Bgo:List Pt),(Bkp:Int),(Bde:List Pt),(Bsm:Bool)⟩⟩ _ (hp:an5 (Aro,Arf,Ala,Atx,Ago,Akp,Ade,Asm) (Bro,Brf,Bla,Btx,Bgo,Bkp,Bde,Bsm))
 show vc _ _ _ _ (entry [.a [.vz ab Aro,.vz ag Arf,.vz ag Ala,.int Atx,.vz ae Ago,.int Akp,.vz ae Ade,.q Asm],.a [.vz ab Bro,.vz ag Brf,.vz ag Bla,.int Btx,.vz ae Bgo,.int Bkp,.vz ae Bde,.q Bsm]] []) _
 obtain⟨he,h1,h2,h3,h4,h5⟩:=hp
 have he:(Aro,Arf,Ala,Atx,Ago,Akp,Ade,Asm)=(Bro,Brf,Bla,Btx,Bgo,Bkp,Bde,Bsm):=he
 simp only [Prod.mk.injEq] at he
 obtain⟨e1,e2,e3,e4,e5,e6,e7,e8⟩:=he
 refine⟨⟨tv3,?_,?_⟩,λx1 w2=>⟨aa,λw3=>⟨⟨⟨tv3,tv3,aa⟩,?_,?_,?_⟩,λx4 w5=>⟨aa,λw6=>⟨aa,λw7=>⟨⟨tv3,?_,?_⟩,λx8 w9=>⟨aa,λdy=>⟨aa,λkA=>⟨⟨tv3,?_,?_⟩,λx12 iU=>⟨aa,λgO=>?_,λqK=>?_⟩⟩,λkg=>?_⟩,λxh=>?_⟩⟩,λrS=>?_⟩,λoL=>?_⟩⟩,λuI=>?_⟩⟩
 all_goals first|refine aw ?_|refine ax ?_|exact a8|(dsimp only [aoJ,an4,aoL,an6,apj,aoi];omega)|exact a7|exact e1|exact h1|exact⟨by show (Arf,Ala)=(Brf,Bla);rw [e2,e3],h2,h3⟩|(show (Arf,Ala)=(Brf,Bla);rw [e2,e3])|exact e5|exact h4|exact e7|exact h5|exact⟨h2,h3⟩|exact h2|exact h3|skip
 ·refine⟨[],[],_,_,_,ζ,az,(),aa,?_,?_,ζ⟩
  ·show AV.q _=an1 (Aro,Arf,Ala,Atx,Ago,Akp,Ade,Asm) (Bro,Brf,Bla,Btx,Bgo,Bkp,Bde,Bsm);unfold an1;refine congrArg AV.q ?_;(subst e8;simp)
  ·rfl
 ·exact absurd qK Bool.noConfusion
 ·exact absurd e6 (aA kg)
 ·exact absurd xh Bool.noConfusion
 ·exact absurd e4 (aA rS)
 ·exact absurd oL Bool.noConfusion
 ·exact absurd uI Bool.noConfusion
def ank (S:ay) (t:bf) (k:Int) (text:ByteArray):Prop:=(S.gone.length≤1000000∧S.dead.length≤1000000)∧(py S t).2=true∧0≤k∧k<((py S t).1.length:Int)∧text=(bF S (nth ae (py S t).1 k.toNat)).1
def anj (S:ay) (t:bf) (k:Int) (text:ByteArray):AV:=.t [.a [.vw ab S.rows,.vw ag S.refs,.vw ag S.last,.int S.cg,.vw ae S.gone,.int S.bZ,.vw ae S.dead,.q S.same],trA t,.s (.q true)]
def aoW (S:ay) (t:bf) (k:Int) (text:ByteArray):List AV:=[]
def anE:cn where
 A:=[.a xv,.a [.int,.int,.int,.int,.int,.int,.int],.s .int,.s .str]
 B:=[]
 pre:=λx b=>ank (x.1) (x.2.1) (x.2.2.1) (x.2.2.2)
 r:=λx b _=>anj (x.1) (x.2.1) (x.2.2.1) (x.2.2.2)
 o:=λx b _=>aoW (x.1) (x.2.1) (x.2.2.1) (x.2.2.2)
theorem apf:Has Tryz.prog 11 anE:=by
 refine Has.zB zT zF zF (l:=[(37,ab9),(32,cr),(38,aom),(39,aoo)]) ⟨aiz,fM,aqD,aqF,aa⟩ Tryz.func11 ?_
 rintro⟨⟨(aj:List ByteArray),(ak:List Int),(an:List Int),(ao:Int),(ah:List Pt),(aq:Int),(ai:List Pt),(ar:Bool)⟩,⟨(t1:Int),(t2:Int),(t3:Int),(t4:Int),(t5:Int),(t6:Int),(t7:Int)⟩,(k:Int),(text:ByteArray)⟩ _ (hp:ank (aj,ak,an,ao,ah,aq,ai,ar) (t1,t2,t3,t4,t5,t6,t7) k text)
 show vc _ _ _ _ (entry [.a [.vz ab aj,.vz ag ak,.vz ag an,.int ao,.vz ae ah,.int aq,.vz ae ai,.q ar],.a [.int t1,.int t2,.int t3,.int t4,.int t5,.int t6,.int t7],.int k,.str text] []) _
 obtain⟨⟨hg,hd⟩,h1,(h2:0≤k),h3,h4⟩:=hp
 have hb:(iI (aj,ak,an,ao,ah,aq,ai,ar)&&qJ (aj,ak,an,ao,ah,aq,ai,ar) (t1,t2,t3,t4,t5,t6,t7))=true:=YI.symm.trans h1
 have hst:=QM.1 (anZ h1).1.1
 have hsp:=QQ hst.sp
 have hlen:=apx h1
 have h64:aj.length=64:=hst.len
 have hrf:ak.length=64:=hsp.1
 have hla:an.length=64:=hsp.2
 have dj:text.size≤128:=by
  rw [h4]
  unfold bF
  cases au (nth ae (py (aj,ak,an,ao,ah,aq,ai,ar) (t1,t2,t3,t4,t5,t6,t7)).1 k.toNat) with
  |true=>exact ZA7 _
  |false=>
   cases iX (nth ae (py (aj,ak,an,ao,ah,aq,ai,ar) (t1,t2,t3,t4,t5,t6,t7)).1 k.toNat) (nth ab (ay.rows (aj,ak,an,ao,ah,aq,ai,ar)) (nth ae (py (aj,ak,an,ao,ah,aq,ai,ar) (t1,t2,t3,t4,t5,t6,t7)).1 k.toNat).1.toNat) with
   |false=>exact ZA7 _
   |true=>
    have hb:=pT ((anZ h1).2 _ (bR (ek:=ae) (show k.toNat<(py (aj,ak,an,ao,ah,aq,ai,ar) (t1,t2,t3,t4,t5,t6,t7)).1.length by omega))).1.1
    by_cases hk:(nth ae (py (aj,ak,an,ao,ah,aq,ai,ar) (t1,t2,t3,t4,t5,t6,t7)).1 k.toNat).1.toNat<64
    ·exact (hst.row _ hk).1
    ·show (nth ab aj _).size≤128
     unfold nth;rw [ZD8 (by rw [h64];omega)];exact ZA7 _
 have cm:ik k 0 15=true:=cC.2 ⟨h2,by omega⟩
 have d1:(!(iI (aj,ak,an,ao,ah,aq,ai,ar)&&qJ (aj,ak,an,ao,ah,aq,ai,ar) (t1,t2,t3,t4,t5,t6,t7)))=true→False:=λh=>by rw [hb] at h;cases h
 have d2:(!(ik k 0 15))=true→False:=λh=>by rw [cm] at h;cases h
 have d3:decide ((text.size:Int)>128)=true→False:=λh=>by have:=aJ h;omega
 refine⟨⟨⟨tv9,tv8,aa⟩,?_,?_⟩,λx1 w2=>⟨aa,λw3=>?_,λw4=>⟨⟨tv4,aa⟩,λx5 w6=>⟨aa,λw7=>?_,λw8=>⟨λw9=>?_,λdy=>⟨⟨⟨tv9,aa⟩,?_,?_,?_,?_,?_⟩,λkz dJ=>⟨⟨⟨aa,tv8,tv3⟩,?_,?_,?_,?_⟩,λrW gO=>⟨λqK=>?_,λkg=>⟨[.s 11,.b 1011],Sq43,ζ,[.s 12,.b 1012],Sq44,ζ,[.s 8,.s 43,.b 1008],[.b 1008],ζ,[.s 9,.s 44,.b 1009],[.b 1009],ζ,[],Sq10,ζ,?_⟩⟩⟩⟩⟩⟩⟩⟩⟩
 all_goals first|refine aw ?_|refine ax ?_|exact a8|(dsimp only [ab9,DU,cr,df,aom,anS,aoo,anU];omega)|exact a7|exact hg|exact hd|(show aj.length≤1000000;omega)|(show ak.length≤1000000;omega)|(show an.length≤1000000;omega)|exact h1|exact h2|exact h3|exact⟨h3,h4⟩|exact h4|skip
 ·exact (d1 w3).elim
 ·exact (d2 w7).elim
 ·exact (d3 w9).elim
 ·exact absurd qK (by decide)
 ·refine⟨[],[],_,_,_,ζ,az,(),aa,?_,?_,ζ⟩
  ·(show _=anj (aj,ak,an,ao,ah,aq,ai,ar) (t1,t2,t3,t4,t5,t6,t7) k text);unfold anj;first|rfl
  ·rfl
end
end GL
namespace GL
noncomputable section
def ani (s:ay):List ByteArray→Bool
 |[]=>true
 |x::l=>bif decide (x=⟨#[]⟩) then ani s l else bif !(bz x).2 then false else bif !(qJ s (cT (bz x).1)) then false else ani s l
theorem arP {s:ay}{x:ByteArray}{l:List ByteArray}(h:decide (x=⟨#[]⟩)=true):ani s (x::l)=ani s l:=by rw [ani,h];rfl
theorem arS {s:ay}{x:ByteArray}{l:List ByteArray}(h:decide (x=⟨#[]⟩)=false) (h1:(!(bz x).2)=true):ani s (x::l)=false:=by rw [ani,h,h1];rfl
theorem arR {s:ay}{x:ByteArray}{l:List ByteArray}(h:decide (x=⟨#[]⟩)=false) (h1:(!(bz x).2)=false) (h2:(!(qJ s (cT (bz x).1)))=true):ani s (x::l)=false:=by rw [ani,h,h1,h2];rfl
theorem arQ {s:ay}{x:ByteArray}{l:List ByteArray}(h:decide (x=⟨#[]⟩)=false) (h1:(!(bz x).2)=false) (h2:(!(qJ s (cT (bz x).1)))=false):ani s (x::l)=ani s l:=by rw [ani,h,h1,h2];rfl
def aoS (s:ay) (t:bf):Bool:=bif qJ s t then ani s (bo s t) else false
theorem aqs {s:ay}{t:bf}(h:qJ s t=false):aoS s t=false:=by unfold aoS;rw [h];rfl
theorem aqr {s:ay}{t:bf}(h:qJ s t=true):aoS s t=ani s (bo s t):=by unfold aoS;rw [h];rfl
theorem apH {s:ay}{t:bf}(h:aoS s t=true):qJ s t=true:=by
 cases h2:qJ s t with
 |true=>rfl
 |false=>rw [aqs h2] at h;cases h
def am3 (s:ay) (t:bf):Bool:=iI s&&aoS s t
theorem anz {s:ay}{t:bf}(h:am3 s t=true):KK s∧qJ s t=true∧ani s (bo s t)=true:=by
 obtain⟨h1,h2⟩:=Bool.and_eq_true_iff.1 h
 exact⟨QM.1 h1,apH h2,by rw [←aqr (apH h2)];exact h2⟩
def anG (s:ay) (t:bf) (k:Int):fu×Bool:=bif am3 s t then cK s t k else (nz,false)
theorem apE {s:ay}{t:bf}{k:Int}(h:am3 s t=false):anG s t k=(nz,false):=by unfold anG;rw [h];rfl
theorem apD {s:ay}{t:bf}{k:Int}(h:am3 s t=true):anG s t k=cK s t k:=by unfold anG;rw [h];rfl
def apq:List ByteArray→Nat→List Int
 |[],_=>[]
 |x::l,k=>bif decide (x≠⟨#[]⟩) then (k:Int)::apq l (k+1) else apq l (k+1)
structure LsI (X:List ByteArray) (i:Nat) (out:List Int):Prop where
 x:i≤X.length
 e:out++apq (X.drop i) i=apq X 0
theorem LsI.z (X:List ByteArray):LsI X 0 []:=⟨ZA7 _,rfl⟩
theorem LsI.y {X:List ByteArray}{i:Nat}{out:List Int}(h:LsI X i out) (hi:i<X.length) (h2:decide (nth ab X i≠⟨#[]⟩)=true):LsI X (i+1) (out++[(i:Int)]):=
 ⟨hi,by rw [←h.e,bW (ek:=ab) hi,apq,h2,cond_true,ZD2];rfl⟩
theorem LsI.n {X:List ByteArray}{i:Nat}{out:List Int}(h:LsI X i out) (hi:i<X.length) (h2:decide (nth ab X i≠⟨#[]⟩)=false):LsI X (i+1) out:=
 ⟨hi,by rw [←h.e,bW (ek:=ab) hi,apq,h2,cond_false]⟩
theorem LsI.f {X:List ByteArray}{i:Nat}{out:List Int}(h:LsI X i out) (hi:¬i<X.length):apq X 0=out:=by
 have:=h.e
 rw [ZB3 (by omega),apq,ZE5] at this
 exact this.symm
theorem aqj:∀(l:List ByteArray) (k:Nat),(apq l k).length≤l.length
 |[],_=>ZB5 _
 |x::l,k=>by
  have:=aqj l (k+1)
  unfold apq
  cases decide (x≠⟨#[]⟩)<;>simp<;>omega
theorem LsI.len {X:List ByteArray}{i:Nat}{out:List Int}(h:LsI X i out):out.length≤X.length:=by
 have h1:=congrArg List.length h.e
 rw [ZA0] at h1
 have:=aqj X 0;omega
def aoF (S:ay) (t:bf):Prop:=S.rd
def ana (S:ay) (t:bf):AV:=.s (.q (aoS S t))
def arc (S:ay) (t:bf):List AV:=[]
def apV:cn where
 A:=[.a xv,.a [.int,.int,.int,.int,.int,.int,.int]]
 B:=[]
 pre:=λx b=>aoF (x.1) (x.2)
 r:=λx b _=>ana (x.1) (x.2)
 o:=λx b _=>arc (x.1) (x.2)
theorem arB:Has Tryz.prog 46 apV:=by
 refine Has.fm zT zF zF (l:=[(69,JW),(50,dc),(82,ng)]) ⟨adR,iR,CT,aa⟩ Tryz.func46 ?_
 rintro⟨⟨(aj:List ByteArray),(ak:List Int),(an:List Int),(ao:Int),(ah:List Pt),(aq:Int),(ai:List Pt),(ar:Bool)⟩,⟨(t1:Int),(t2:Int),(t3:Int),(t4:Int),(t5:Int),(t6:Int),(t7:Int)⟩⟩ _ (hp:aoF (aj,ak,an,ao,ah,aq,ai,ar) (t1,t2,t3,t4,t5,t6,t7))
 show vc _ _ _ _ (entry [.a [.vz ab aj,.vz ag ak,.vz ag an,.int ao,.vz ae ah,.int aq,.vz ae ai,.q ar],.a [.int t1,.int t2,.int t3,.int t4,.int t5,.int t6,.int t7]] []) _
 have dF:ay.rd (aj,ak,an,ao,ah,aq,ai,ar):=hp
 have hk:(!(qJ (aj,ak,an,ao,ah,aq,ai,ar) (t1,t2,t3,t4,t5,t6,t7)))=false→(0≤t7∧t7≤16)∧bf.ok (t1,t2,t3,t4,t5,t6,t7)∧(bo (aj,ak,an,ao,ah,aq,ai,ar) (t1,t2,t3,t4,t5,t6,t7)).length=t7.toNat:=λh=>⟨(apz (cL h)).1,anX (cL h),fq (anX (cL h))⟩
 refine⟨⟨⟨tv9,tv8,aa⟩,?_⟩,λx1 w2=>⟨λw3=>?_,λw4=>⟨⟨⟨tv9,tv8,aa⟩,?_,?_,?_,?_⟩,λx5 w6=>?_⟩⟩⟩
 all_goals first|refine aw ?_|refine ax ?_|exact a8|(dsimp only [JW,zr,dc,eF,ng,lf];omega)|exact a7|exact dF|exact (ahx (cL w4))|exact (hk w4).1.1|exact (hk w4).1.2|skip
 ·refine⟨[],[],_,_,_,ζ,az,(),aa,?_,?_,ζ⟩
  ·(show _=ana (aj,ak,an,ao,ah,aq,ai,ar) (t1,t2,t3,t4,t5,t6,t7));unfold ana;first|(rw [aqs (s:=(aj,ak,an,ao,ah,aq,ai,ar)) (t:=(t1,t2,t3,t4,t5,t6,t7)) (uv w3)];rfl)|rfl
  ·rfl
 ·obtain⟨⟨h0,h16⟩,cG,hl⟩:=hk w4
  have hy:=aqr (s:=(aj,ak,an,ao,ah,aq,ai,ar)) (t:=(t1,t2,t3,t4,t5,t6,t7)) (cL w4)
  refine cN (l:=[(69,JW),(50,dc),(82,ng)]) (ex:=zT) (wr:=zF) (pt:=zF) ⟨adR,iR,CT,aa⟩ [.s 2,.s 3,.b 1002,.b 1003,.s 5,.b 170000] (λi:Nat=>[(.s 6,.int i)]) (λi=>(i:Int)≤t7∧ani (aj,ak,an,ao,ah,aq,ai,ar) ((bo (aj,ak,an,ao,ah,aq,ai,ar) (t1,t2,t3,t4,t5,t6,t7)).drop i)=ani (aj,ak,an,ao,ah,aq,ai,ar) (bo (aj,ak,an,ao,ah,aq,ai,ar) (t1,t2,t3,t4,t5,t6,t7))) (λi=>t7.toNat-i) 0 [] ⟨h0,rfl⟩ dM ?_
  rintro i ⟨(hi:(i:Int)≤t7),(hr:ani (aj,ak,an,ao,ah,aq,ai,ar) ((bo (aj,ak,an,ao,ah,aq,ai,ar) (t1,t2,t3,t4,t5,t6,t7)).drop i)=ani (aj,ak,an,ao,ah,aq,ai,ar) (bo (aj,ak,an,ao,ah,aq,ai,ar) (t1,t2,t3,t4,t5,t6,t7)))⟩
  have bU:decide ((i:Int)<t7)=true→i<(bo (aj,ak,an,ao,ah,aq,ai,ar) (t1,t2,t3,t4,t5,t6,t7)).length:=λh=>by have:=aJ h;omega
  have dj:=WS (wv (s:=(aj,ak,an,ao,ah,aq,ai,ar)) (t:=(t1,t2,t3,t4,t5,t6,t7)) dF) i
  have hd:∀h:decide ((i:Int)<t7)=true,aoS (aj,ak,an,ao,ah,aq,ai,ar) (t1,t2,t3,t4,t5,t6,t7)=ani (aj,ak,an,ao,ah,aq,ai,ar) (nth ab (bo (aj,ak,an,ao,ah,aq,ai,ar) (t1,t2,t3,t4,t5,t6,t7)) i::(bo (aj,ak,an,ao,ah,aq,ai,ar) (t1,t2,t3,t4,t5,t6,t7)).drop (i+1)):=λh=>by rw [hy,←hr,bW (ek:=ab) (bU h)]
  have hn:∀h:decide ((i:Int)<t7)=true,ani (aj,ak,an,ao,ah,aq,ai,ar) ((bo (aj,ak,an,ao,ah,aq,ai,ar) (t1,t2,t3,t4,t5,t6,t7)).drop (i+1))=ani (aj,ak,an,ao,ah,aq,ai,ar) (nth ab (bo (aj,ak,an,ao,ah,aq,ai,ar) (t1,t2,t3,t4,t5,t6,t7)) i::(bo (aj,ak,an,ao,ah,aq,ai,ar) (t1,t2,t3,t4,t5,t6,t7)).drop (i+1))→((i+1:Nat):Int)≤t7∧ani (aj,ak,an,ao,ah,aq,ai,ar) ((bo (aj,ak,an,ao,ah,aq,ai,ar) (t1,t2,t3,t4,t5,t6,t7)).drop (i+1))=ani (aj,ak,an,ao,ah,aq,ai,ar) (bo (aj,ak,an,ao,ah,aq,ai,ar) (t1,t2,t3,t4,t5,t6,t7)):=λh e=>⟨by have:=aJ h;omega,by rw [e,←bW (ek:=ab) (bU h),hr]⟩
  refine⟨λw1=>⟨⟨?_,?_⟩,?_,λw2=>⟨⟨?_,?_⟩,?_⟩,λw3=>⟨⟨tv2,?_⟩,λx4 w5=>⟨aa,λw6=>?_,λw7=>⟨⟨⟨tv9,tv8,aa⟩,?_⟩,λx8 w9=>⟨λdy=>?_,λkA=>⟨⟨?_,?_⟩,?_⟩⟩⟩⟩⟩⟩,λdJ=>?_⟩
  all_goals first|refine aw ?_|refine ax ?_|exact a8|(dsimp only [JW,zr,dc,eF,ng,lf];omega)|exact a7|exact bU w1|exact dj|exact dF|skip
  ·refine⟨(i+1),[],?_,?_,?_⟩
   rotate_right
   ·exact bV
   ·exact hn w1 (arP w2).symm
   ·show t7.toNat-(i+1)<t7.toNat-i;have:=aJ w1;omega
  ·have e:=(hd w1).trans (arS w3 w6)
   refine⟨[],[],_,_,_,ζ,az,(),aa,?_,?_,ζ⟩
   ·(show _=ana (aj,ak,an,ao,ah,aq,ai,ar) (t1,t2,t3,t4,t5,t6,t7));unfold ana;first|(rw [e];rfl)|rfl
   ·rfl
  ·have e:=(hd w1).trans (arR w3 w7 dy)
   refine⟨[],[],_,_,_,ζ,az,(),aa,?_,?_,ζ⟩
   ·(show _=ana (aj,ak,an,ao,ah,aq,ai,ar) (t1,t2,t3,t4,t5,t6,t7));unfold ana;first|(rw [e];rfl)|rfl
   ·rfl
  ·refine⟨(i+1),[],?_,?_,?_⟩
   rotate_right
   ·exact bV
   ·exact hn w1 (arQ w3 w7 kA).symm
   ·show t7.toNat-(i+1)<t7.toNat-i;have:=aJ w1;omega
  ·have h12:¬(i:Int)<t7:=aA dJ
   have e:aoS (aj,ak,an,ao,ah,aq,ai,ar) (t1,t2,t3,t4,t5,t6,t7)=true:=by rw [hy,←hr,ZB3 (by omega)];rfl
   refine⟨[],[],_,_,_,ζ,az,(),aa,?_,?_,ζ⟩
   ·(show _=ana (aj,ak,an,ao,ah,aq,ai,ar) (t1,t2,t3,t4,t5,t6,t7));unfold ana;first|(rw [e];rfl)|rfl
   ·rfl
def an9 (S:ay) (t:bf):Prop:=S.gone.length≤1000000∧S.dead.length≤1000000
def anq (S:ay) (t:bf):AV:=.s (.q (am3 S t))
def aqz (S:ay) (t:bf):List AV:=[]
def aoN:cn where
 A:=[.a xv,.a [.int,.int,.int,.int,.int,.int,.int]]
 B:=[]
 pre:=λx b=>an9 (x.1) (x.2)
 r:=λx b _=>anq (x.1) (x.2)
 o:=λx b _=>aqz (x.1) (x.2)
theorem aq3:Has Tryz.prog 15 aoN:=by
 refine Has.fm zT zF zF (l:=[(45,sM),(46,apV)]) ⟨MI,arB,aa⟩ Tryz.func15 ?_
 rintro⟨⟨(aj:List ByteArray),(ak:List Int),(an:List Int),(ao:Int),(ah:List Pt),(aq:Int),(ai:List Pt),(ar:Bool)⟩,⟨(t1:Int),(t2:Int),(t3:Int),(t4:Int),(t5:Int),(t6:Int),(t7:Int)⟩⟩ _ (hp:an9 (aj,ak,an,ao,ah,aq,ai,ar) (t1,t2,t3,t4,t5,t6,t7))
 show vc _ _ _ _ (entry [.a [.vz ab aj,.vz ag ak,.vz ag an,.int ao,.vz ae ah,.int aq,.vz ae ai,.q ar],.a [.int t1,.int t2,.int t3,.int t4,.int t5,.int t6,.int t7]] []) _
 let g':=(aj,ak,an,ao,ah,aq,ai,ar)
 let A':=(t1,t2,t3,t4,t5,t6,t7)
 obtain⟨hg,hd⟩:=hp
 refine⟨⟨⟨tv9,aa⟩,?_,?_⟩,λx1 w2=>⟨aa,λw3=>⟨⟨⟨tv9,tv8,aa⟩,?_⟩,λx4 w5=>?_⟩,λw6=>?_⟩⟩
 all_goals first|refine aw ?_|refine ax ?_|exact a8|(dsimp only [sM,q9,apV,aoF];omega)|exact a7|exact hg|exact hd|skip
 ·exact (QM.1 w3).rd
 ·have e:am3 g' A'=aoS g' A':=by unfold am3;rw [show iI g'=true from w3];rfl
  refine⟨[],[],_,_,_,ζ,az,(),aa,?_,?_,ζ⟩
  ·(show _=anq g' A');unfold anq;first|(rw [e];rfl)|rfl
  ·rfl
 ·have e:am3 g' A'=false:=by unfold am3;rw [show iI g'=false from w6];rfl
  refine⟨[],[],_,_,_,ζ,az,(),aa,?_,?_,ζ⟩
  ·(show _=anq g' A');unfold anq;first|(rw [e];rfl)|rfl
  ·rfl
def anW (S:ay) (t:bf) (k:Int):Prop:=S.gone.length≤1000000∧S.dead.length≤1000000
def ang (S:ay) (t:bf) (k:Int):AV:=.t [ndA (anG S t k).1,.s (.q (anG S t k).2)]
def aqh (S:ay) (t:bf) (k:Int):List AV:=[]
def aoq:cn where
 A:=[.a xv,.a [.int,.int,.int,.int,.int,.int,.int],.s .int]
 B:=[]
 pre:=λx b=>anW (x.1) (x.2.1) (x.2.2)
 r:=λx b _=>ang (x.1) (x.2.1) (x.2.2)
 o:=λx b _=>aqh (x.1) (x.2.1) (x.2.2)
theorem aqI:Has Tryz.prog 25 aoq:=by
 refine Has.fm zT zF zF (l:=[(15,aoN),(51,jE)]) ⟨aq3,vy,aa⟩ Tryz.func25 ?_
 rintro⟨⟨(aj:List ByteArray),(ak:List Int),(an:List Int),(ao:Int),(ah:List Pt),(aq:Int),(ai:List Pt),(ar:Bool)⟩,⟨(t1:Int),(t2:Int),(t3:Int),(t4:Int),(t5:Int),(t6:Int),(t7:Int)⟩,(k:Int)⟩ _ (hp:anW (aj,ak,an,ao,ah,aq,ai,ar) (t1,t2,t3,t4,t5,t6,t7) k)
 show vc _ _ _ _ (entry [.a [.vz ab aj,.vz ag ak,.vz ag an,.int ao,.vz ae ah,.int aq,.vz ae ai,.q ar],.a [.int t1,.int t2,.int t3,.int t4,.int t5,.int t6,.int t7],.int k] []) _
 let g':=(aj,ak,an,ao,ah,aq,ai,ar)
 let A':=(t1,t2,t3,t4,t5,t6,t7)
 obtain⟨hg,hd⟩:=hp
 have hk:(!(am3 g' A'))=false→KK g'∧qJ g' A'=true:=λh=>⟨(anz (cL h)).1,(anz (cL h)).2.1⟩
 refine⟨⟨⟨tv9,tv8,aa⟩,?_,?_⟩,λx1 w2=>⟨λw3=>?_,λw4=>⟨⟨⟨tv9,tv8,tv2⟩,?_,?_⟩,λx5 w6=>?_⟩⟩⟩
 all_goals first|refine aw ?_|refine ax ?_|exact a8|(dsimp only [aoN,an9,jE,kJ];omega)|exact a7|exact hg|exact hd|exact (hk w4).1.rd|exact anX (hk w4).2|skip
 ·have e:=apE (s:=g') (t:=A') (k:=k) (uv w3)
  refine⟨[],[],_,_,_,ζ,az,(),aa,?_,?_,ζ⟩
  ·(show _=ang g' A' k);unfold ang;first|(rw [e];rfl)|rfl
  ·rfl
 ·have e:=apD (s:=g') (t:=A') (k:=k) (cL w4)
  refine⟨[],[],_,_,_,ζ,az,(),aa,?_,?_,ζ⟩
  ·(show _=ang g' A' k);unfold ang;first|(rw [e];rfl)|rfl
  ·rfl
