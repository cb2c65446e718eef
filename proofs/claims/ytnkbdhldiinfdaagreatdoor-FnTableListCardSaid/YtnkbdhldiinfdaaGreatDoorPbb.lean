/- Part 28 of the proof of a drawn law. -/
import Derived.Test.YtnkbdhldiinfdaaGreatDoorPam
import Derived.Test.YtnkbdhldiinfdaaGreatDoorPan
import Derived.Test.YtnkbdhldiinfdaaGreatDoorPap
import Derived.Test.YtnkbdhldiinfdaaGreatDoorPas
import Derived.Test.YtnkbdhldiinfdaaGreatDoorPat
import Derived.Test.YtnkbdhldiinfdaaGreatDoorPaw
import Derived.Test.YtnkbdhldiinfdaaGreatDoorPay
import Derived.Test.YtnkbdhldiinfdaaGreatDoorPaz
import Derived.Test.YtnkbdhldiinfdaaGreatDoorPba
set_option maxHeartbeats 20000000
set_option maxRecDepth 100000
set_option linter.all false
namespace Go.Proofs.YtnkbdhldiinfdaaGreatDoor
namespace GL
noncomputable section
theorem an8 {s:ay}{many:Int}:∀{l:List Pt}{i:Int},j9 s many i l=true→∀p∈l,au p=false→(bF s p).2=true∧p.2.2.2.2=0
 |q::l,i,h,p,hp,hh=>by
  unfold j9 at h
  cases hq:au q with
  |true=>
   rw [hq,cond_true] at h
   rcases ZB8.1 hp with rfl |hp
   ·rw [hq] at hh;cases hh
   ·exact an8 h p hp hh
  |false=>
   rw [hq,cond_false] at h
   cases hb:ri s many i q with
   |true=>rw [hb] at h;cases h
   |false=>
    rw [hb,cond_false] at h
    rcases ZB8.1 hp with rfl |hp
    ·unfold ri at hb
     simp only [ZE1,decide_eq_false_iff_not,ZE9,Bool.not_eq_false'] at hb
     exact⟨hb.1,hb.2.1⟩
    ·exact an8 h p hp hh
theorem apr {s:ay}{t:bf}(h:(py s t).2=true):(iI s=true∧((py s t).1.length:Int)=t.many)∧∀p∈(py s t).1,(aZ p=true∧p.2.2.2.2=0)∧(bF s p).2=true:=by
 rw [YI] at h
 obtain⟨h1,h2⟩:=Bool.and_eq_true_iff.1 h
 have hb:=Y8 h2
 have hl:(!(bA s t).2)=false:=by
  cases hl: !(bA s t).2 with
  |false=>rfl
  |true=>rw [ZA hb hl] at h2;cases h2
 have hf:=(Y9 hb hl).symm.trans h2
 have hm:0≤t.many:=by
  have hb':=hb
  unfold lV at hb'
  exact (cC.1 (cL (ZE1.1 hb').1)).1
 have hk:=adt h2
 rw [K9 h1 h2]
 refine⟨⟨h1,?_⟩,λp hp=>?_⟩
 ·show ((List.take _ _).length:Int)=_
  rw [ZB9];omega
 ·have hp':p∈(bA s t).1:=ZE6 hp
  have cG:aZ p=true:=H9 (ahx h2) p hp'
  cases hh:au p with
  |false=>exact⟨⟨cG,(an8 hf p hp' hh).2⟩,(an8 hf p hp' hh).1⟩
  |true=>
   exact⟨⟨cG,XF hh⟩,by rw [fT hh]⟩
theorem apq {s:ay}{t:bf}(h:(iI s&&qJ s t)=false):py s t=([],false):=by unfold py;rw [h];rfl
theorem apK {s:ay}{t:bf}(h:(py s t).2=true):(aB s t).take t.many.toNat=(py s t).1:=by
 rw [YI] at h
 obtain⟨h1,h2⟩:=Bool.and_eq_true_iff.1 h
 rw [K9 h1 h2]
 show (aB s t).take t.many.toNat=(bA s t).1.take t.many.toNat
 unfold aB
 rw [List.take_append_of_le_length (adt h2)]
def an6 (S:ay) (t:bf):Prop:=S.gone.length≤1000000∧S.dead.length≤1000000
theorem ao3 {s:ay}{t:bf}(h:qJ s t=true):(0≤t.many∧t.many≤16)∧t.many.toNat≤(bA s t).1.length:=by
 have hb:=Y8 h
 unfold lV at hb
 exact⟨cC.1 (cL (ZE1.1 hb).1),adt h⟩
theorem an1 {s:ay}{t:bf}(h:(py s t).2=true):((py s t).1.length:Int)=t.many∧(py s t).1.length≤16:=by
 rw [YI] at h
 obtain⟨h1,h2⟩:=Bool.and_eq_true_iff.1 h
 have h3:=ao3 h2
 rw [K9 h1 h2]
 show ((List.take _ _).length:Int)=_∧(List.take _ _).length≤_
 rw [ZB9];omega
theorem ap6 {s:ay}{t:bf}(h:(py s t).2=true):(py s t).1.length≤16:=(an1 h).2
end
end GL
namespace GL
noncomputable section
def an0:Nat→Nat→List Pt→List Pt→List Int→List Int
 |0,_,_,_,out=>out
 |f+1,i,x,y,out=>an0 f (i+1) x y (bif ptrEq (nth ae x i) (nth ae y i) then out else out++[(i:Int)])
def aqU (x y:List Pt):List Int:=an0 16 0 x y []
theorem ap4 {f i:Nat}{x y:List Pt}{out:List Int}(h:ptrEq (nth ae x i) (nth ae y i)=true):an0 (f+1) i x y out=an0 f (i+1) x y out:=by rw [an0,h];rfl
theorem aqH {f i:Nat}{x y:List Pt}{out:List Int}(h:ptrEq (nth ae x i) (nth ae y i)=false):an0 (f+1) i x y out=an0 f (i+1) x y (out++[(i:Int)]):=by rw [an0,h];rfl
theorem ao7 {x y:List Pt}:∀{f i:Nat}{out:List Int},x.length≤i→y.length≤i→an0 f i x y out=out
 |0,_,_,_,_=>rfl
 |f+1,i,out,h1,h2=>by
  rw [ap4 (by rw [tz (ek:=ae) h1,tz (ek:=ae) h2];exact sb.2 rfl)]
  exact ao7 (by omega) (by omega)
structure p7 (X Y:List Pt) (i:Nat) (out:List Int):Prop where
 le:i≤16
 len:out.length≤i
 f:an0 (16-i) i X Y out=aqU X Y
theorem p7.z (X Y:List Pt):p7 X Y 0 []:=⟨ZA7 _,ZA7 _,rfl⟩
theorem p7.eq {X Y:List Pt}{i:Nat}{out:List Int}(h:p7 X Y i out) (hi:i<16) (hq:(!(ptrEq (nth ae X i) (nth ae Y i)))=false):p7 X Y (i+1) out:=by
 have h1:=h.f
 rw [show 16-i=(16-(i+1))+1 by omega,ap4 (cL hq)] at h1
 exact⟨hi,Nat.le_succ_of_le h.len,h1⟩
theorem p7.ne {X Y:List Pt}{i:Nat}{out:List Int}(h:p7 X Y i out) (hi:i<16) (hq:(!(ptrEq (nth ae X i) (nth ae Y i)))=true):p7 X Y (i+1) (out++[(i:Int)]):=by
 have h1:=h.f
 rw [show 16-i=(16-(i+1))+1 by omega,aqH (xm hq)] at h1
 exact⟨hi,by rw [ZA0,List.length_singleton];have:=h.len;omega,h1⟩
theorem p7.e {X Y:List Pt}{i:Nat}{out:List Int}(h:p7 X Y i out) (h1:X.length≤i) (h2:Y.length≤i):out=aqU X Y:=by
 rw [←h.f,ao7 h1 h2]
theorem amE {P Q P' Q':Pt}{c:Bool}(h1:P=P') (h2:Q=Q') (h:(!(ptrEq P' Q'))=c):(!(ptrEq P Q))=c:=by subst h1 h2;exact h
theorem amD {l:List Pt}{i:Nat}(h:decide ((i:Int)<(l.length:Int))=false):nth ae l i=(0,0,0,0,0):=tz (ek:=ae) (by have:=aA h;omega)
theorem vwI {l:List Int}:AV.t [.s (.vw ag (List.take l.length l)),.s (.q true)]=AV.t [.s (.vw ag l),.s (.q true)]:=by rw [ZD1 (ZB5 _)]
def anH (a:List Int) (b:List Int):Prop:=a=b∧a.length≤1000000
def an2 (a:List Int) (b:List Int):AV:=.s (.q true)
def aqa (a:List Int) (b:List Int):List AV:=[]
def anT:cn where
 A:=[.s (.vz ag),.s (.vz ag)]
 B:=[]
 pre:=λx b=>anH (x.1) (x.2)
 r:=λx b _=>an2 (x.1) (x.2)
 o:=λx b _=>aqa (x.1) (x.2)
theorem apF:Has Tryz.prog 23 anT:=by
 refine Has.fm zT zF zF (l:=[]) trivial Tryz.func23 ?_
 rintro⟨(a:List Int),(b:List Int)⟩ _ (hp:anH a b)
 show vc _ _ _ _ (entry [.s (.vz ag a),.s (.vz ag b)] []) _
 obtain⟨(he:a=b),(hl:a.length≤1000000)⟩:=hp
 have hll:a.length=b.length:=congrArg List.length he
 refine⟨λw1=>?_,λw2=>?_⟩
 all_goals first|refine aw ?_|refine ax ?_|exact a8|exact a7|skip
 ·exact absurd (congrArg (Nat.cast:Nat→Int) hll) (aJ w1)
 ·refine cN (l:=[]) (ex:=zT) (wr:=zF) (pt:=zF) trivial [.s 0,.s 1] (λi:Nat=>[(.s 5,.int i)]) (λi=>i≤a.length) (λi=>a.length-i) 0 [] (ZA7 _) dM ?_
  rintro i (hi:i≤a.length)
  have cm:decide ((i:Int)<(a.length:Int))=true→i<a.length:=λh=>by have:=aJ h;omega
  refine⟨λw1=>⟨Sq0,Sq17,ζ,Sq5,Sq18,ζ,[.s 17,.s 18],Sq19,ζ,⟨?_,?_⟩,Sq19,Sq20,ζ,Sq1,Sq21,ζ,Sq5,Sq22,ζ,[.s 21,.s 22],Sq23,ζ,⟨?_,?_⟩,Sq23,Sq24,ζ,[.s 20,.s 24],Sq25,ζ,λw2=>?_,λw3=>⟨⟨?_,?_⟩,?_⟩⟩,λw4=>?_⟩
  all_goals first|refine aw ?_|refine ax ?_|exact a8|exact a7|exact cm w1|(have h:=cm w1;show ((i:Int))<(b.length:Int);omega)|skip
  ·subst he;simp at w2
  ·refine⟨(i+1),[],?_,?_,?_⟩
   rotate_right
   ·exact bV
   ·show i+1≤a.length;have:=cm w1;omega
   ·show a.length-(i+1)<a.length-i;have:=cm w1;omega
  ·refine⟨[],[],_,_,_,ζ,az,(),aa,?_,?_,ζ⟩
   ·(show _=an2 a b);unfold an2;first|rfl
   ·rfl
end
end GL
namespace GL
theorem KK.wf {s:ay}(h:KK s):s.wf:=
 ⟨⟨h.len,(QQ h.sp).1,(QQ h.sp).2⟩,h.rd.2⟩
theorem KK.wg {s:ay}{n:Nat}(h:KK s) (hg:s.gone.length≤n) (hd:s.dead.length≤n):s.wg n:=
 ⟨h.wf,hg,hd,by have:=h.cg;omega⟩
theorem anX {s:ay}{t:bf}(h:qJ s t=true):t.ok:=by
 have hb:=Y8 h
 unfold lV at hb
 have h4:=cC.1 (cL (ZE1.1 hb).1)
 exact⟨ahx h,h4.1,h4.2⟩
end GL
namespace GL
def amn (s:ay):Prop:=(∀p∈s.gone,aZ p=true)∧1≤s.cg
theorem um.amu {s u:ay}(h:um s u) (hs:amn s):amn u:=⟨λp hp=>hs.1 p (by rw [←h.gone];exact hp),by rw [h.cg];exact hs.2⟩
theorem amn.gk {s:ay}{n:Nat}(h:amn s) (hw:s.wg n) (hn:n≤900000):s.gk:=
 ⟨hw.wf.n,ZB0 hw.g (by omega),λp hp=>nT (h.1 p hp),by have:=hw.t;have:=h.2;omega⟩
theorem KK.amu {s:ay}(h:KK s):amn s:=⟨λp hp=>(h.gone p hp).1,h.cg.1⟩
theorem KK.gk {s:ay}{n:Nat}(h:KK s) (hg:s.gone.length≤n) (hd:s.dead.length≤n) (hn:n≤900000):s.gk:=
 h.amu.gk (h.wg hg hd) hn
theorem ay.wg.small {s:ay}{n:Nat}(h:s.wg n) (hn:n≤1000000):s.small:=⟨by rw [h.wf.n.1];decide,by rw [h.wf.n.2.1];decide,by rw [h.wf.n.2.2];decide,ZB0 h.g hn,ZB0 h.d hn⟩
end GL
namespace GL
attribute [local irreducible] dG iI qJ
end GL
namespace GL
open Go.RowKit
def ani (T:bb):bb:=λb=>match T b with
 |some (.ro cs e fr)=>some (.ro cs e fr)
 |some (.ln cs e fr)=>some (.ln cs e fr)
 |_=>none
theorem apk {T:bb}{b:Nat}{cs:Array Value}{e:TypeId}{fr:Nat×Nat}(h:T b=some (.ro cs e fr)):ani T b=some (.ro cs e fr):=by unfold ani;rw [h]
theorem aqG {T:bb}{b:Nat}{cs:Array Value}{e:TypeId}{fr:Nat×Nat}(h:T b=some (.ln cs e fr)):ani T b=some (.ln cs e fr):=by unfold ani;rw [h]
theorem aoc {T:bb}{b:Nat}{k:BK}(h:ani T b=some k):T b=some k∧∃cs e fr,k= .ro cs e fr∨k= .ln cs e fr:=by
 unfold ani at h
 cases hT:T b with
 |none=>rw [hT] at h;cases h
 |some q=>
  rw [hT] at h
  cases q with
  |ro cs e fr=>cases h;exact⟨rfl,cs,e,fr,.inl rfl⟩
  |ln cs e fr=>cases h;exact⟨rfl,cs,e,fr,.inr rfl⟩
  |ty _ _=>cases h
  |fz _ _ _=>cases h
  |bx _=>cases h
theorem aod {T:bb}(hN:UQ T) {b:Nat}{cs:Array Value}(h:rdT T b cs):rdT (ani T) b cs:=by
 rcases h with ⟨e,fr,h⟩ |⟨e,fr,h⟩ |⟨ek,n,h⟩
 ·exact .inl ⟨e,fr,apk h⟩
 ·exact .inr (.inl ⟨e,fr,aqG h⟩)
 ·exact absurd h (hN.no b ek n cs)
theorem aox {T:bb}(hN:UQ T):UQ (ani T) where
 no:=λb ek n cs h=>hN.no b ek n cs (aoc h).1
 oV:=λg hg=>by
  obtain⟨cs,e,fr,h1,h2⟩:=hN.oV g hg
  exact⟨cs,e,fr,apk h1,h2⟩
theorem apj {T:bb}{W w:World}(hT:WT T W) (hb:Below W.heap.size W w):WT (ani T) w:=λb k hk=>by
 have h:=hT b k (aoc hk).1
 exact BK.qn h (hb.block b (BK.lt h))
def SV.anZ:SV→Bool
 |.bp _ _=>false
 |.xp _ _ _ _=>false
 |.xs _ _ _ _=>false
 |.ep _ _=>false
 |.sl _ _=>false
 |_=>true
def apg:List SV→Bool
 |[]=>true
 |x::l=>x.anZ&&apg l
def A0.anZ:A0→Bool
 |.s x=>x.anZ
 |.a l=>apg l
def AV.anZ:AV→Bool
 |.o x=>x.anZ
 |.fn _ []=>true
 |_=>false
def aph:List AV→Bool
 |[]=>true
 |x::l=>x.anZ&&aph l
theorem CV.fix {T:bb}(hN:UQ T) {x:CV}{y:Value}(h:x.rel T y):x.rel (ani T) y:=by
 cases x with
 |v _=>exact h
 |q _=>exact h
 |vz ek l=>
  rcases h with h |⟨b,o,cap,cs,h1,h2,h3,h4⟩
  ·exact .inl h
  ·exact .inr ⟨b,o,cap,cs,h1,h2,aod hN h3,h4⟩
theorem aoC {T:bb}(hN:UQ T):∀{l:List CV}{r:List Value},xl T l r→xl (ani T) l r
 |[],[],h=>h
 |_::_,_::_,h=>⟨CV.fix hN h.1,aoC hN h.2⟩
theorem SV.fix {T:bb}{β:Nat→Nat}(hN:UQ T) {x:SV}{y:Value}(hl:x.anZ=true) (h:x.rel T β y):x.rel (ani T) β y:=by
 cases x with
 |v _=>exact h
 |q _=>exact h
 |er _=>exact h
 |e0=>exact h
 |vw ek l=>
  rcases h with h |⟨b,o,cap,cs,e,fr,h1,h2,h3,h4⟩
  ·exact .inl h
  ·exact .inr ⟨b,o,cap,cs,e,fr,h1,h2,apk h3,h4⟩
 |vz ek l=>
  rcases h with h |⟨b,o,cap,cs,h1,h2,h3,h4⟩
  ·exact .inl h
  ·exact .inr ⟨b,o,cap,cs,h1,h2,aod hN h3,h4⟩
 |vp ek x j=>
  obtain⟨b,o,cs,h1,h2,h3,h4⟩:=h
  exact⟨b,o,cs,h1,h2,aod hN h3,h4⟩
 |vs l j=>
  obtain⟨b,cs,h1,h2,h3⟩:=h
  exact⟨b,cs,h1,aod hN h2,aoC hN h3⟩
 |bp _ _=>cases hl
 |xp _ _ _ _=>cases hl
 |xs _ _ _ _=>cases hl
 |ep _ _=>cases hl
 |sl _ _=>cases hl
theorem apv {T:bb}{β:Nat→Nat}(hN:UQ T):∀{l:List SV}{r:List Value},apg l=true→dN T β l r→dN (ani T) β l r
 |[],[],_,h=>h
 |_::_,_::_,hl,h=>⟨SV.fix hN (Bool.and_eq_true_iff.1 hl).1 h.1,apv hN (Bool.and_eq_true_iff.1 hl).2 h.2⟩
theorem AV.fix {T:bb}{β:Nat→Nat}(hN:UQ T) {x:AV}{y:Value}(hl:x.anZ=true) (h:x.rel T β y):x.rel (ani T) β y:=by
 cases x with
 |o x=>cases x with
  |s x=>exact SV.fix hN hl h
  |a l=>obtain⟨cs,h1,h2⟩:=h;exact⟨cs,h1,apv hN hl h2⟩
 |fn f l=>exact h
 |t l=>cases hl
 |rs ek l=>cases hl
 |zz=>cases hl
theorem apx {T:bb}{β:Nat→Nat}(hN:UQ T):∀{l:List AV}{r:List Value},aph l=true→r9 T β l r→r9 (ani T) β l r
 |[],[],_,h=>h
 |_::_,_::_,hl,h=>⟨AV.fix hN (Bool.and_eq_true_iff.1 hl).1 h.1,apx hN (Bool.and_eq_true_iff.1 hl).2 h.2⟩
theorem SV.anY {x:SV}(h:x.anZ=true):x.boxes=[]:=by
 cases x<;>first|rfl|cases h
theorem aoK:∀{l:List SV},apg l=true→cc l=[]
 |[],_=>rfl
 |x::l,h=>by
  show x.boxes++cc l=[]
  rw [SV.anY (Bool.and_eq_true_iff.1 h).1,aoK (Bool.and_eq_true_iff.1 h).2];rfl
theorem AV.anY {x:AV}(h:x.anZ=true):x.boxes=[]:=by
 cases x with
 |o x=>cases x with
  |s x=>exact SV.anY h
  |a l=>exact aoK h
 |fn f l=>cases l with
  |nil=>rfl
  |cons _ _=>cases h
 |t l=>cases h
 |rs ek l=>rfl
 |zz=>rfl
theorem aoL:∀{l:List AV},aph l=true→∀av∈l,av.boxes=[]
 |x::l,h,av,hm=>by
  rcases ZB8.1 hm with rfl |hm
  ·exact AV.anY (Bool.and_eq_true_iff.1 h).1
  ·exact aoL (Bool.and_eq_true_iff.1 h).2 av hm
theorem TC.lib {P:Program}{f:FuncId}{mv:Bool}{args:List AV}{post:AV→List AV→Prop}(h:TC P f mv args [] post) (hl:aph args=true) {W w:World}{T:bb}{β:Nat→Nat}{vs:List Value}(hT:WT T W) (hN:UQ T) (c6:r9 T β args vs) (hb:Below W.heap.size W w):
  Calls P f vs.toArray w λe w'=>∃v r os T' β',e= .returned v∧post r os∧r.rel T' β' v∧Below w.heap.size w w'∧WT T' w'∧KO w 0 mv β T' β' w' os:=by
 have hT0:=apj hT hb
 refine (h w (ani T) β vs hT0 (aox hN) (apx hN hl c6) (λav ha i hi=>by rw [aoL hl av ha] at hi;cases hi) ⟨ZA7 _,λi av hi=>by simp at hi,λi j hi=>absurd hi (Nat.not_lt_zero _)⟩).mono ?_
 rintro e w' ⟨v,r,os,T',β',he,hp,hr,_,hA,hO⟩
 refine⟨v,r,os,T',β',he,hp,hr,⟨hA.os,hA.tape,hA.output,hA.gd,λk hk=>?_⟩,hA.typed,hO⟩
 cases hq:ani T k with
 |none=>exact hA.frame k hk (λi hi=>absurd hi (Nat.not_lt_zero _)) (by rw [hq];trivial)
 |some q=>
  have h1:=hT0 k q hq
  have h2:=hA.typed k q ((hA.new k hk).trans hq)
  obtain⟨_,cs,e1,fr,rfl |rfl⟩:=aoc hq
  ·exact (show w'.heap[k]?=_ from h2).trans (show w.heap[k]?=_ from h1).symm
  ·exact (show w'.heap[k]?=_ from h2).trans (show w.heap[k]?=_ from h1).symm
theorem amW {T:bb}{β:Nat→Nat}{x:SV}{l:List SV}{ys:List Value}(h:dN T β (x::l) ys):∃y r,ys=y::r∧x.rel T β y∧dN T β l r:=by
 cases ys with
 |nil=>exact h.elim
 |cons y r=>exact⟨y,r,rfl,h.1,h.2⟩
theorem aoB {T:bb}{β:Nat→Nat}{ys:List Value}(h:dN T β [] ys):ys=[]:=by
 cases ys with
 |nil=>rfl
 |cons y r=>exact h.elim
theorem aoj {T:bb}{β:Nat→Nat}{x:AV}{l:List AV}{ys:List Value}(h:r9 T β (x::l) ys):∃y r,ys=y::r∧x.rel T β y∧r9 T β l r:=by
 cases ys with
 |nil=>exact h.elim
 |cons y r=>exact⟨y,r,rfl,h.1,h.2⟩
theorem apw {T:bb}{β:Nat→Nat}{ys:List Value}(h:r9 T β [] ys):ys=[]:=by
 cases ys with
 |nil=>rfl
 |cons y r=>exact h.elim
theorem aq3 {T:bb}{W w:World}{b:Nat}{cs:Array Value}{e:TypeId}(hT:WT T W) (hN:UQ T) (hb:Below W.heap.size W w) (FL:W.heap.size≤b) (hc:w.heap[b]?=some (.cells cs e (0,0))):
  WT (xi (ani T) b (.ln cs e (0,0))) w∧UQ (xi (ani T) b (.ln cs e (0,0)))∧uS (ani T) (xi (ani T) b (.ln cs e (0,0))):=by
 have hn:ani T b=none:=by
  cases hq:ani T b with
  |none=>rfl
  |some q=>have:=BK.lt (hT b q (aoc hq).1);omega
 have hm:uS (ani T) (xi (ani T) b (.ln cs e (0,0))):=K8 hn
 refine⟨λi k hi=>?_,⟨λi ek n c hi=>?_,(aox hN).oV.mono hm⟩,hm⟩
 ·unfold xi at hi
  split at hi
  ·rename_i he;cases hi;subst he;exact hc
  ·exact apj hT hb i k hi
 ·unfold xi at hi
  split at hi
  ·cases hi
  ·exact (aox hN).no i ek n c hi
end GL
namespace GL
open Go.RowKit
abbrev ptV (p:Pt):Value:=.agg #[.int .i64 p.1,.int .i64 p.2.1,.int .i64 p.2.2.1,.int .i64 p.2.2.2.1,.int .i64 p.2.2.2.2]
abbrev trV (t:bf):Value:=.agg #[.int .i64 t.1,.int .i64 t.2.1,.int .i64 t.2.2.1,.int .i64 t.2.2.2.1,.int .i64 t.2.2.2.2.1,.int .i64 t.2.2.2.2.2.1,.int .i64 t.2.2.2.2.2.2]
abbrev stC (S:ay):List CV:=[.vz ab S.rows,.vz ag S.refs,.vz ag S.last,.v (.int .i64 S.cg),.vz ae S.gone,.v (.int .i64 S.bZ),.vz ae S.dead,.q S.same]
structure apI (T:bb) (W:World) (b:Nat) (S:ay):Prop where
 wt:WT T W
 no:UQ T
 at_:∃cs,rdT T b cs∧xl T (stC S) cs.toList
theorem apI.later {T:bb}{W w:World}{b:Nat}{S:ay}(h:apI T W b S) (hb:Below W.heap.size W w):apI (ani T) w b S:=by
 obtain⟨cs,h1,h2⟩:=h.at_
 exact⟨apj h.wt hb,aox h.no,cs,aod h.no h1,aoC h.no h2⟩
theorem an5 {T T':bb}{β:Nat→Nat}(hm:uS (ani T) T') (hN:UQ T):∀{l:List CV}{r:List Value},dN T β (cvs l) r→xl T' l r
 |[],[],_=>trivial
 |x::l,y::r,h=>by
  refine⟨?_,an5 hm hN h.2⟩
  have h1:=h.1
  cases x with
  |v _=>exact h1
  |q _=>exact h1
  |vz ek l=>
   have h3:(SV.vz ek l).rel T' β y:=SV.nJ hm (SV.fix hN rfl h1)
   exact h3
 |[],_::_,h=>h.elim
 |_::_,[],h=>h.elim
theorem apI.boxed {T:bb}{W w:World}{b:Nat}{S:ay}{cs:Array Value}{β:Nat→Nat}{e:TypeId}(hT:WT T W) (hN:UQ T) (c6:dN T β (cvs (stC S)) cs.toList) (hb:Below W.heap.size W w) (FL:W.heap.size≤b) (hc:w.heap[b]?=some (.cells cs e (0,0))):
  ∃T',apI T' w b S:=by
 obtain⟨h1,h2,h3⟩:=aq3 hT hN hb FL hc
 exact⟨_,h1,h2,cs,.inr (.inl ⟨e,(0,0),by unfold xi;rw [if_pos rfl]⟩),an5 h3 hN c6⟩
def aqx (w:World) (v:Value) (L:List Pt):Prop:=(L=[]∧∃p cap,v= .slice p 0 cap)∨∃b o cap,v= .slice (some ⟨b,o,none⟩) L.length cap∧b<w.heap.size∧∀k (h:k<L.length),w.cell? ⟨b,o+k*5,none⟩=some (.int .i64 L[k].1)∧w.cell? ⟨b,o+k*5+1,none⟩=some (.int .i64 L[k].2.1)
         ∧w.cell? ⟨b,o+k*5+2,none⟩=some (.int .i64 L[k].2.2.1)∧w.cell? ⟨b,o+k*5+3,none⟩=some (.int .i64 L[k].2.2.2.1)∧w.cell? ⟨b,o+k*5+4,none⟩=some (.int .i64 L[k].2.2.2.2)
theorem aqA {w:World}{b o cap:Nat}{cs:Array Value}{e:TypeId}{fr:Nat×Nat}{L:List Pt}(hc:w.heap[b]?=some (.cells cs e fr)) (hw:win cs o (flat ae L)):aqx w (.slice (some ⟨b,o,none⟩) L.length cap) L:=by
 refine .inr ⟨b,o,cap,rfl,(ZF1.1 hc).1,λk hk=>?_⟩
 have hwr:=E3 hw hk
 have hn:nth ae L k=L[k]:=by unfold nth;rw [ZB1 hk]
 rw [hn] at hwr
 refine⟨?_,?_,?_,?_,?_⟩
 ·rw [rr hc];exact hwr 0 _ rfl
 ·rw [rr hc];exact hwr 1 _ rfl
 ·rw [rr hc];exact hwr 2 _ rfl
 ·rw [rr hc];exact hwr 3 _ rfl
 ·rw [rr hc];exact hwr 4 _ rfl
section
variable {T:bb}{W w:World}{b:Nat}{S:ay}
theorem apU (h:apI T W b S) (p:Pt) (hp:k9 S p) (hb:Below W.heap.size W w):
  Calls Tryz.prog 33 #[.pointer (some ⟨b,0,none⟩),ptV p] w λe w'=>e= .returned (.tuple #[.string (bF S p).1,.bool (bF S p).2])∧Below w.heap.size w w':=by
 obtain⟨cs,h1,h2⟩:=h.at_
 obtain⟨s0,s1,s2,amF,amG,amH,amI,amJ⟩:=S
 obtain⟨p1,p2,p3,p4,p5⟩:=p
 refine ((zJ.1 ((s0,s1,s2,amF,amG,amH,amI,amJ),(p1,p2,p3,p4,p5)) () hp).lib (β:=λi=>i) (vs:=[.pointer (some ⟨b,0,none⟩),ptV (p1,p2,p3,p4,p5)]) rfl h.wt h.no ⟨⟨b,cs,rfl,h1,h2⟩,⟨_,rfl,rfl,rfl,rfl,rfl,rfl,aa⟩,aa⟩ hb).mono ?_
 rintro e w' ⟨v,r,os,T',β',rfl,⟨z,_,rfl,_⟩,hv,hB,hW,_⟩
 obtain⟨⟨vs⟩,rfl,hv2⟩:=(show AV.rel T' β' (.t [.s (.str (bF (s0,s1,s2,amF,amG,amH,amI,amJ) (p1,p2,p3,p4,p5)).1),.s (.q (bF (s0,s1,s2,amF,amG,amH,amI,amJ) (p1,p2,p3,p4,p5)).2)]) v from hv)
 match vs,(show uD T' β' [.s (.str (bF (s0,s1,s2,amF,amG,amH,amI,amJ) (p1,p2,p3,p4,p5)).1),.s (.q (bF (s0,s1,s2,amF,amG,amH,amI,amJ) (p1,p2,p3,p4,p5)).2)] vs from hv2) with
 |[y,q],⟨hy,hq,_⟩=>
  have hy:y= .string (bF (s0,s1,s2,amF,amG,amH,amI,amJ) (p1,p2,p3,p4,p5)).1:=hy
  have hq:q= .bool (bF (s0,s1,s2,amF,amG,amH,amI,amJ) (p1,p2,p3,p4,p5)).2:=hq
  subst hy hq
  exact⟨rfl,hB⟩
theorem aob (h:apI T W b S) (t:bf) (hp:vh S t) (hm:qJ S t=true→t.many.toNat≤(bA S t).1.length) (hb:Below W.heap.size W w):
  Calls Tryz.prog 66 #[.pointer (some ⟨b,0,none⟩),trV t] w λe w'=>∃v,e= .returned (.tuple #[v,.bool (qJ S t)])∧Below w.heap.size w w'∧(qJ S t=true→aqx w' v ((bA S t).1.take t.many.toNat)):=by
 obtain⟨cs,h1,h2⟩:=h.at_
 obtain⟨s0,s1,s2,amF,amG,amH,amI,amJ⟩:=S
 obtain⟨t1,t2,t3,t4,t5,t6,t7⟩:=t
 refine ((abM.1 ((s0,s1,s2,amF,amG,amH,amI,amJ),(t1,t2,t3,t4,t5,t6,t7)) () hp).lib (β:=λi=>i) (vs:=[.pointer (some ⟨b,0,none⟩),trV (t1,t2,t3,t4,t5,t6,t7)]) rfl h.wt h.no ⟨⟨b,cs,rfl,h1,h2⟩,⟨_,rfl,rfl,rfl,rfl,rfl,rfl,rfl,rfl,aa⟩,aa⟩ hb).mono ?_
 generalize ((s0,s1,s2,amF,amG,amH,amI,amJ):ay)=S at *
 generalize ((t1,t2,t3,t4,t5,t6,t7):bf)=t at *
 rintro e w' ⟨v,r,os,T',β',rfl,⟨z,hz,rfl,rfl,_⟩,hv,hB,hW,hO⟩
 have hz:z=qJ S t:=hz
 obtain⟨⟨vs⟩,rfl,hv2⟩:=(show AV.rel T' β' (bS S t z) v from hv)
 have hm2:∃y,vs=[y,.bool z]:=by
  match vs,hv2 with
  |[y,q],⟨_,hq,_⟩=>
   have hq:q= .bool z:=hq
   exact⟨y,by rw [hq]⟩
 obtain⟨y,rfl⟩:=hm2
 refine⟨y,by rw [←hz],hB,λcG=>?_⟩
 have hzt:z=true:=hz.trans cG
 subst hzt
 have hy:SV.rel T' β' (.xs 0 5 0 (bf.many t).toNat) y:=hv2.1
 have hmk:=hm cG
 have hl:(List.take (bf.many t).toNat (bA S t).1).length=(bf.many t).toNat:=by rw [ZB9];omega
 rcases hy with ⟨h0,p,rfl⟩ |⟨cap,n,rfl,EY,hT0,_⟩
 ·exact .inl ⟨List.eq_nil_of_length_eq_zero (by rw [hl];exact h0),p,0,rfl⟩
 ·obtain⟨_,_,⟨mg,e',hc',ahV⟩,_⟩:=hO.at_ 0 (.rs ae (bA S t).1) rfl (by intro h;cases h)
  obtain⟨_,z',are,_⟩:=ahV
  have hw:win mg (0*ae.length) (flat ae (((bA S t).1.drop 0).take (bf.many t).toNat)):=A2 are 0 _
  have:=aqA (cap:=cap) hc' (o:=0) (L:=(bA S t).1.take (bf.many t).toNat) hw
  rw [hl] at this
  exact this
end
end GL
namespace GL
noncomputable section
end
end GL
namespace GL
noncomputable section
def anu:List Pt→List Pt→Nat
 |p::x,q::y=>(bif ptrEq p q&& !(au p) then 1 else 0)+anu x y
 |_,_=>0
def aoP (x:List Pt):Nat:=x.countP λp=>au p
theorem aoh:∀x y:List Pt,anu x y≤x.length∧anu x y≤y.length
 |[],y=>⟨ZA7 _,ZA7 _⟩
 |_::_,[]=>⟨ZA7 _,ZA7 _⟩
 |p::x,q::y=>by
  have h:=aoh x y
  unfold anu
  rw [ZA1,ZA1]
  cases ptrEq p q&& !(au p)<;>simp<;>omega
theorem aog:∀x:List Pt,anu x []=0
 |[]=>rfl
 |_::_=>rfl
theorem ap8 {x y:List Pt}{i:Nat}(hx:i<x.length) (hy:i<y.length):anu (x.drop i) (y.drop i)=(bif ptrEq (nth ae x i) (nth ae y i)&& !(au (nth ae x i)) then 1 else 0)+anu (x.drop (i+1)) (y.drop (i+1)):=by
 rw [bW (ek:=ae) hx,bW (ek:=ae) hy];rfl
theorem apN {x y:List Pt}{i:Nat}(h:¬(i<x.length∧i<y.length)):anu (x.drop i) (y.drop i)=0:=by
 by_cases hx:i<x.length
 ·rw [show y.drop i=[] from ZB3 (by omega)];exact aog _
 ·rw [show x.drop i=[] from ZB3 (by omega)];rfl
structure amp (X Y:List Pt) (i:Nat) (n:Int):Prop where
 n:n=(anu X Y:Int)-anu (X.drop i) (Y.drop i)
 x:i≤X.length
 y:i≤Y.length
theorem amp.z (X Y:List Pt):amp X Y 0 0:=⟨by simp,ZA7 _,ZA7 _⟩
theorem amp.st {X Y:List Pt}{i:Nat}{n:Int}(h:amp X Y i n) (h1:i<X.length) (h2:i<Y.length) (c:Bool) (hc:(ptrEq (nth ae X i) (nth ae Y i)&& !(au (nth ae X i)))=c):amp X Y (i+1) (n+bif c then 1 else 0):=by
 have e:=ap8 h1 h2
 rw [hc] at e
 refine⟨?_,h1,h2⟩
 have:=h.n
 cases c with
 |true=>simp only [cond_true] at e ⊢;omega
 |false=>simp only [cond_false] at e ⊢;omega
theorem amp.hit {X Y:List Pt}{i:Nat}{n:Int}(h:amp X Y i n) (h1:i<X.length) (h2:i<Y.length) (hq:ptrEq (nth ae X i) (nth ae Y i)=true) (hh:(!(au (nth ae X i)))=true):amp X Y (i+1) (n+1):=h.st h1 h2 true (by rw [hq,hh];rfl)
theorem amp.mi {X Y:List Pt}{i:Nat}{n:Int}(h:amp X Y i n) (h1:i<X.length) (h2:i<Y.length) (hq:ptrEq (nth ae X i) (nth ae Y i)=false∨(!(au (nth ae X i)))=false):amp X Y (i+1) n:=by
 have e:=h.st h1 h2 false (by rcases hq with hq |hq<;>rw [hq];exact Bool.false_and _;exact ZD7 _)
 rw [cond_false,Int.add_zero] at e;exact e
theorem amp.amt {X Y:List Pt}{i:Nat}{n:Int}(h:amp X Y i n) (hx:X.length≤16): -16≤n∧n≤16:=by
 have h1:=(aoh X Y).1
 have h2:=(aoh (X.drop i) (Y.drop i)).1
 rw [ZC8] at h2
 have:=h.n;omega
theorem amp.e {X Y:List Pt}{i:Nat}{n:Int}(h:amp X Y i n) (he:¬(i<X.length∧i<Y.length)):n=(anu X Y:Int):=by
 have:=apN he;have:=h.n;omega
theorem aoI {i n:Nat}(h:decide ((i:Int)<(n:Int))=true):i<n:=by have:=aJ h;omega
end
end GL
namespace GL
noncomputable section
structure ari (l:List Int):Prop where
 jK:∀b∈l,0≤b∧b≤255
structure amo (X:List Pt) (m0:Int) (i:Nat) (m:Int):Prop where
 x:i≤X.length
 m:m=m0+(aoP (X.take i):Int)
theorem amo.z (X:List Pt) (m0:Int):amo X m0 0 m0:=⟨ZA7 _,(Int.add_zero _).symm⟩
theorem amo.hit {X:List Pt}{m0 m:Int}{i:Nat}(h:amo X m0 i m) (h1:i<X.length) (hp:au (nth ae X i)=true):amo X m0 (i+1) (m+1):=
 ⟨h1,by rw [h.m];unfold aoP;rw [GB h1,List.countP_append];simp [hp];omega⟩
theorem amo.mi {X:List Pt}{m0 m:Int}{i:Nat}(h:amo X m0 i m) (h1:i<X.length) (hp:au (nth ae X i)=false):amo X m0 (i+1) m:=
 ⟨h1,by rw [h.m];unfold aoP;rw [GB h1,List.countP_append];simp [hp]⟩
theorem amo.amt {X:List Pt}{m0 m:Int}{i:Nat}(h:amo X m0 i m) (hx:X.length≤16):m0≤m∧m≤m0+16:=by
 have h1:aoP (X.take i)≤(X.take i).length:=List.countP_le_length ..
 rw [ZB9] at h1
 have:=h.m;omega
theorem amo.fin {X:List Pt}{m0 m:Int}{i:Nat}(h:amo X m0 i m) (hi:¬i<X.length):m=m0+(aoP X:Int):=by
 have:=h.m
 rwa [ZD1 (by omega)] at this
end
end GL
namespace GL
noncomputable section
end
end GL
namespace GL
noncomputable section
def anh (s:ay):List ByteArray→Bool
 |[]=>true
 |x::l=>bif decide (x=⟨#[]⟩) then anh s l else bif !(bz x).2 then false else bif !(qJ s (cT (bz x).1)) then false else anh s l
theorem aqX {s:ay}{x:ByteArray}{l:List ByteArray}(h:decide (x=⟨#[]⟩)=true):anh s (x::l)=anh s l:=by rw [anh,h];rfl
theorem aq0 {s:ay}{x:ByteArray}{l:List ByteArray}(h:decide (x=⟨#[]⟩)=false) (h1:(!(bz x).2)=true):anh s (x::l)=false:=by rw [anh,h,h1];rfl
theorem aqZ {s:ay}{x:ByteArray}{l:List ByteArray}(h:decide (x=⟨#[]⟩)=false) (h1:(!(bz x).2)=false) (h2:(!(qJ s (cT (bz x).1)))=true):anh s (x::l)=false:=by rw [anh,h,h1,h2];rfl
theorem aqY {s:ay}{x:ByteArray}{l:List ByteArray}(h:decide (x=⟨#[]⟩)=false) (h1:(!(bz x).2)=false) (h2:(!(qJ s (cT (bz x).1)))=false):anh s (x::l)=anh s l:=by rw [anh,h,h1,h2];rfl
def aot (s:ay) (t:bf):Bool:=bif qJ s t then anh s (bo s t) else false
theorem apM {s:ay}{t:bf}(h:qJ s t=false):aot s t=false:=by unfold aot;rw [h];rfl
theorem apL {s:ay}{t:bf}(h:qJ s t=true):aot s t=anh s (bo s t):=by unfold aot;rw [h];rfl
theorem ao9 {s:ay}{t:bf}(h:aot s t=true):qJ s t=true:=by
 cases h2:qJ s t with
 |true=>rfl
 |false=>rw [apM h2] at h;cases h
def amZ (s:ay) (t:bf):Bool:=iI s&&aot s t
theorem aof {s:ay}{t:bf}(h:amZ s t=true):KK s∧qJ s t=true∧anh s (bo s t)=true:=by
 obtain⟨h1,h2⟩:=Bool.and_eq_true_iff.1 h
 exact⟨QM.1 h1,ao9 h2,by rw [←apL (ao9 h2)];exact h2⟩
def anP (s:ay) (t:bf) (k:Int):fu×Bool:=bif amZ s t then cK s t k else (nz,false)
theorem aqz {s:ay}{t:bf}{k:Int}(h:amZ s t=false):anP s t k=(nz,false):=by unfold anP;rw [h];rfl
theorem apW {s:ay}{t:bf}{k:Int}(h:amZ s t=true):anP s t k=cK s t k:=by unfold anP;rw [h];rfl
def anJ:List ByteArray→Nat→List Int
 |[],_=>[]
 |x::l,k=>bif decide (x≠⟨#[]⟩) then (k:Int)::anJ l (k+1) else anJ l (k+1)
def am2 (s:ay) (t:bf):List Int×Bool:=bif amZ s t then (anJ (bo s t) 0,true) else ([],false)
theorem an3 {s:ay}{t:bf}(h:amZ s t=false):am2 s t=([],false):=by unfold am2;rw [h];rfl
theorem anO {s:ay}{t:bf}(h:amZ s t=true):am2 s t=(anJ (bo s t) 0,true):=by unfold am2;rw [h];rfl
structure LsI (X:List ByteArray) (i:Nat) (out:List Int):Prop where
 x:i≤X.length
 e:out++anJ (X.drop i) i=anJ X 0
theorem LsI.z (X:List ByteArray):LsI X 0 []:=⟨ZA7 _,rfl⟩
theorem LsI.y {X:List ByteArray}{i:Nat}{out:List Int}(h:LsI X i out) (hi:i<X.length) (h2:decide (nth ab X i≠⟨#[]⟩)=true):LsI X (i+1) (out++[(i:Int)]):=
 ⟨hi,by rw [←h.e,bW (ek:=ab) hi,anJ,h2,cond_true,ZD2];rfl⟩
theorem LsI.n {X:List ByteArray}{i:Nat}{out:List Int}(h:LsI X i out) (hi:i<X.length) (h2:decide (nth ab X i≠⟨#[]⟩)=false):LsI X (i+1) out:=
 ⟨hi,by rw [←h.e,bW (ek:=ab) hi,anJ,h2,cond_false]⟩
theorem LsI.f {X:List ByteArray}{i:Nat}{out:List Int}(h:LsI X i out) (hi:¬i<X.length):anJ X 0=out:=by
 have:=h.e
 rw [ZB3 (by omega),anJ,ZE5] at this
 exact this.symm
theorem aoJ:∀(l:List ByteArray) (k:Nat),(anJ l k).length≤l.length
 |[],_=>ZB5 _
 |x::l,k=>by
  have:=aoJ l (k+1)
  unfold anJ
  cases decide (x≠⟨#[]⟩)<;>simp<;>omega
theorem LsI.len {X:List ByteArray}{i:Nat}{out:List Int}(h:LsI X i out):out.length≤X.length:=by
 have h1:=congrArg List.length h.e
 rw [ZA0] at h1
 have:=aoJ X 0;omega
def aok (S:ay) (t:bf):Prop:=S.rd
def anb (S:ay) (t:bf):AV:=.s (.q (aot S t))
def aqo (S:ay) (t:bf):List AV:=[]
def apl:cn where
 A:=[.a xv,.a [.int,.int,.int,.int,.int,.int,.int]]
 B:=[]
 pre:=λx b=>aok (x.1) (x.2)
 r:=λx b _=>anb (x.1) (x.2)
 o:=λx b _=>aqo (x.1) (x.2)
theorem aqF:Has Tryz.prog 46 apl:=by
 refine Has.fm zT zF zF (l:=[(69,JW),(50,dc),(82,ng)]) ⟨adR,iR,CT,aa⟩ Tryz.func46 ?_
 rintro⟨⟨(aj:List ByteArray),(ak:List Int),(an:List Int),(ao:Int),(ah:List Pt),(aq:Int),(ai:List Pt),(ar:Bool)⟩,⟨(t1:Int),(t2:Int),(t3:Int),(t4:Int),(t5:Int),(t6:Int),(t7:Int)⟩⟩ _ (hp:aok (aj,ak,an,ao,ah,aq,ai,ar) (t1,t2,t3,t4,t5,t6,t7))
 show vc _ _ _ _ (entry [.a [.vz ab aj,.vz ag ak,.vz ag an,.int ao,.vz ae ah,.int aq,.vz ae ai,.q ar],.a [.int t1,.int t2,.int t3,.int t4,.int t5,.int t6,.int t7]] []) _
 have dF:ay.rd (aj,ak,an,ao,ah,aq,ai,ar):=hp
 have hk:(!(qJ (aj,ak,an,ao,ah,aq,ai,ar) (t1,t2,t3,t4,t5,t6,t7)))=false→(0≤t7∧t7≤16)∧bf.ok (t1,t2,t3,t4,t5,t6,t7)∧(bo (aj,ak,an,ao,ah,aq,ai,ar) (t1,t2,t3,t4,t5,t6,t7)).length=t7.toNat:=λh=>⟨(ao3 (cL h)).1,anX (cL h),fq (anX (cL h))⟩
 refine⟨⟨⟨tv9,tv8,aa⟩,?_⟩,λx1 w2=>⟨λw3=>?_,λw4=>⟨⟨⟨tv9,tv8,aa⟩,?_,?_,?_,?_⟩,λx5 w6=>?_⟩⟩⟩
 all_goals first|refine aw ?_|refine ax ?_|exact a8|(dsimp only [JW,zr,dc,eF,ng,lf];omega)|exact a7|exact dF|exact (ahx (cL w4))|exact (hk w4).1.1|exact (hk w4).1.2|skip
 ·refine⟨[],[],_,_,_,ζ,az,(),aa,?_,?_,ζ⟩
  ·(show _=anb (aj,ak,an,ao,ah,aq,ai,ar) (t1,t2,t3,t4,t5,t6,t7));unfold anb;first|(rw [apM (s:=(aj,ak,an,ao,ah,aq,ai,ar)) (t:=(t1,t2,t3,t4,t5,t6,t7)) (uv w3)];rfl)|rfl
  ·rfl
 ·obtain⟨⟨h0,h16⟩,cG,hl⟩:=hk w4
  have hy:=apL (s:=(aj,ak,an,ao,ah,aq,ai,ar)) (t:=(t1,t2,t3,t4,t5,t6,t7)) (cL w4)
  refine cN (l:=[(69,JW),(50,dc),(82,ng)]) (ex:=zT) (wr:=zF) (pt:=zF) ⟨adR,iR,CT,aa⟩ [.s 2,.s 3,.b 1002,.b 1003,.s 5,.b 170000] (λi:Nat=>[(.s 6,.int i)]) (λi=>(i:Int)≤t7∧anh (aj,ak,an,ao,ah,aq,ai,ar) ((bo (aj,ak,an,ao,ah,aq,ai,ar) (t1,t2,t3,t4,t5,t6,t7)).drop i)=anh (aj,ak,an,ao,ah,aq,ai,ar) (bo (aj,ak,an,ao,ah,aq,ai,ar) (t1,t2,t3,t4,t5,t6,t7))) (λi=>t7.toNat-i) 0 [] ⟨h0,rfl⟩ dM ?_
  rintro i ⟨(hi:(i:Int)≤t7),(hr:anh (aj,ak,an,ao,ah,aq,ai,ar) ((bo (aj,ak,an,ao,ah,aq,ai,ar) (t1,t2,t3,t4,t5,t6,t7)).drop i)=anh (aj,ak,an,ao,ah,aq,ai,ar) (bo (aj,ak,an,ao,ah,aq,ai,ar) (t1,t2,t3,t4,t5,t6,t7)))⟩
  have bU:decide ((i:Int)<t7)=true→i<(bo (aj,ak,an,ao,ah,aq,ai,ar) (t1,t2,t3,t4,t5,t6,t7)).length:=λh=>by have:=aJ h;omega
  have dj:=WS (wv (s:=(aj,ak,an,ao,ah,aq,ai,ar)) (t:=(t1,t2,t3,t4,t5,t6,t7)) dF) i
  have hd:∀h:decide ((i:Int)<t7)=true,aot (aj,ak,an,ao,ah,aq,ai,ar) (t1,t2,t3,t4,t5,t6,t7)=anh (aj,ak,an,ao,ah,aq,ai,ar) (nth ab (bo (aj,ak,an,ao,ah,aq,ai,ar) (t1,t2,t3,t4,t5,t6,t7)) i::(bo (aj,ak,an,ao,ah,aq,ai,ar) (t1,t2,t3,t4,t5,t6,t7)).drop (i+1)):=λh=>by rw [hy,←hr,bW (ek:=ab) (bU h)]
  have hn:∀h:decide ((i:Int)<t7)=true,anh (aj,ak,an,ao,ah,aq,ai,ar) ((bo (aj,ak,an,ao,ah,aq,ai,ar) (t1,t2,t3,t4,t5,t6,t7)).drop (i+1))=anh (aj,ak,an,ao,ah,aq,ai,ar) (nth ab (bo (aj,ak,an,ao,ah,aq,ai,ar) (t1,t2,t3,t4,t5,t6,t7)) i::(bo (aj,ak,an,ao,ah,aq,ai,ar) (t1,t2,t3,t4,t5,t6,t7)).drop (i+1))→((i+1:Nat):Int)≤t7∧anh (aj,ak,an,ao,ah,aq,ai,ar) ((bo (aj,ak,an,ao,ah,aq,ai,ar) (t1,t2,t3,t4,t5,t6,t7)).drop (i+1))=anh (aj,ak,an,ao,ah,aq,ai,ar) (bo (aj,ak,an,ao,ah,aq,ai,ar) (t1,t2,t3,t4,t5,t6,t7)):=λh e=>⟨by have:=aJ h;omega,by rw [e,←bW (ek:=ab) (bU h),hr]⟩
  refine⟨λw1=>⟨⟨?_,?_⟩,?_,λw2=>⟨⟨?_,?_⟩,?_⟩,λw3=>⟨⟨tv2,?_⟩,λx4 w5=>⟨aa,λw6=>?_,λw7=>⟨⟨⟨tv9,tv8,aa⟩,?_⟩,λx8 w9=>⟨λdy=>?_,λkA=>⟨⟨?_,?_⟩,?_⟩⟩⟩⟩⟩⟩,λdJ=>?_⟩
  all_goals first|refine aw ?_|refine ax ?_|exact a8|(dsimp only [JW,zr,dc,eF,ng,lf];omega)|exact a7|exact bU w1|exact dj|exact dF|skip
  ·refine⟨(i+1),[],?_,?_,?_⟩
   rotate_right
   ·exact bV
   ·exact hn w1 (aqX w2).symm
   ·show t7.toNat-(i+1)<t7.toNat-i;have:=aJ w1;omega
  ·have e:=(hd w1).trans (aq0 w3 w6)
   refine⟨[],[],_,_,_,ζ,az,(),aa,?_,?_,ζ⟩
   ·(show _=anb (aj,ak,an,ao,ah,aq,ai,ar) (t1,t2,t3,t4,t5,t6,t7));unfold anb;first|(rw [e];rfl)|rfl
   ·rfl
  ·have e:=(hd w1).trans (aqZ w3 w7 dy)
   refine⟨[],[],_,_,_,ζ,az,(),aa,?_,?_,ζ⟩
   ·(show _=anb (aj,ak,an,ao,ah,aq,ai,ar) (t1,t2,t3,t4,t5,t6,t7));unfold anb;first|(rw [e];rfl)|rfl
   ·rfl
  ·refine⟨(i+1),[],?_,?_,?_⟩
   rotate_right
   ·exact bV
   ·exact hn w1 (aqY w3 w7 kA).symm
   ·show t7.toNat-(i+1)<t7.toNat-i;have:=aJ w1;omega
  ·have h12:¬(i:Int)<t7:=aA dJ
   have e:aot (aj,ak,an,ao,ah,aq,ai,ar) (t1,t2,t3,t4,t5,t6,t7)=true:=by rw [hy,←hr,ZB3 (by omega)];rfl
   refine⟨[],[],_,_,_,ζ,az,(),aa,?_,?_,ζ⟩
   ·(show _=anb (aj,ak,an,ao,ah,aq,ai,ar) (t1,t2,t3,t4,t5,t6,t7));unfold anb;first|(rw [e];rfl)|rfl
   ·rfl
def anz (S:ay) (t:bf):Prop:=S.gone.length≤1000000∧S.dead.length≤1000000
def anm (S:ay) (t:bf):AV:=.s (.q (amZ S t))
def apQ (S:ay) (t:bf):List AV:=[]
def anF:cn where
 A:=[.a xv,.a [.int,.int,.int,.int,.int,.int,.int]]
 B:=[]
 pre:=λx b=>anz (x.1) (x.2)
 r:=λx b _=>anm (x.1) (x.2)
 o:=λx b _=>apQ (x.1) (x.2)
theorem ao5:Has Tryz.prog 15 anF:=by
 refine Has.fm zT zF zF (l:=[(45,sM),(46,apl)]) ⟨MI,aqF,aa⟩ Tryz.func15 ?_
 rintro⟨⟨(aj:List ByteArray),(ak:List Int),(an:List Int),(ao:Int),(ah:List Pt),(aq:Int),(ai:List Pt),(ar:Bool)⟩,⟨(t1:Int),(t2:Int),(t3:Int),(t4:Int),(t5:Int),(t6:Int),(t7:Int)⟩⟩ _ (hp:anz (aj,ak,an,ao,ah,aq,ai,ar) (t1,t2,t3,t4,t5,t6,t7))
 show vc _ _ _ _ (entry [.a [.vz ab aj,.vz ag ak,.vz ag an,.int ao,.vz ae ah,.int aq,.vz ae ai,.q ar],.a [.int t1,.int t2,.int t3,.int t4,.int t5,.int t6,.int t7]] []) _
 let g':=(aj,ak,an,ao,ah,aq,ai,ar)
 let A':=(t1,t2,t3,t4,t5,t6,t7)
 obtain⟨hg,hd⟩:=hp
 refine⟨⟨⟨tv9,aa⟩,?_,?_⟩,λx1 w2=>⟨aa,λw3=>⟨⟨⟨tv9,tv8,aa⟩,?_⟩,λx4 w5=>?_⟩,λw6=>?_⟩⟩
 all_goals first|refine aw ?_|refine ax ?_|exact a8|(dsimp only [sM,q9,apl,aok];omega)|exact a7|exact hg|exact hd|skip
 ·exact (QM.1 w3).rd
 ·have e:amZ g' A'=aot g' A':=by unfold amZ;rw [show iI g'=true from w3];rfl
  refine⟨[],[],_,_,_,ζ,az,(),aa,?_,?_,ζ⟩
  ·(show _=anm g' A');unfold anm;first|(rw [e];rfl)|rfl
  ·rfl
 ·have e:amZ g' A'=false:=by unfold amZ;rw [show iI g'=false from w6];rfl
  refine⟨[],[],_,_,_,ζ,az,(),aa,?_,?_,ζ⟩
  ·(show _=anm g' A');unfold anm;first|(rw [e];rfl)|rfl
  ·rfl
def anj (S:ay) (t:bf):Prop:=S.gone.length≤1000000∧S.dead.length≤1000000
def ane (S:ay) (t:bf):AV:=.t [.s (.vw ag (am2 S t).1),.s (.q (am2 S t).2)]
def apd (S:ay) (t:bf):List AV:=[]
def ann:cn where
 A:=[.a xv,.a [.int,.int,.int,.int,.int,.int,.int]]
 B:=[]
 pre:=λx b=>anj (x.1) (x.2)
 r:=λx b _=>ane (x.1) (x.2)
 o:=λx b _=>apd (x.1) (x.2)
theorem aoq:Has Tryz.prog 22 ann:=by
 refine Has.fm zT zF zF (l:=[(15,anF),(50,dc)]) ⟨ao5,iR,aa⟩ Tryz.func22 ?_
 rintro⟨⟨(aj:List ByteArray),(ak:List Int),(an:List Int),(ao:Int),(ah:List Pt),(aq:Int),(ai:List Pt),(ar:Bool)⟩,⟨(t1:Int),(t2:Int),(t3:Int),(t4:Int),(t5:Int),(t6:Int),(t7:Int)⟩⟩ _ (hp:anj (aj,ak,an,ao,ah,aq,ai,ar) (t1,t2,t3,t4,t5,t6,t7))
 show vc _ _ _ _ (entry [.a [.vz ab aj,.vz ag ak,.vz ag an,.int ao,.vz ae ah,.int aq,.vz ae ai,.q ar],.a [.int t1,.int t2,.int t3,.int t4,.int t5,.int t6,.int t7]] []) _
 let g':=(aj,ak,an,ao,ah,aq,ai,ar)
 let A':=(t1,t2,t3,t4,t5,t6,t7)
 obtain⟨hg,hd⟩:=hp
 have hk:(!(amZ g' A'))=false→(KK g'∧qJ g' A'=true)∧((0≤t7∧t7≤16)∧(bo g' A').length=t7.toNat):=λh=>have h2:=aof (cL h);⟨⟨h2.1,h2.2.1⟩,(ao3 h2.2.1).1,fq (anX h2.2.1)⟩
 refine⟨aa,⟨⟨tv9,tv8,aa⟩,?_,?_⟩,λx1 w2=>⟨λw3=>?_,λw4=>⟨⟨⟨tv9,tv8,aa⟩,?_,?_,?_,?_⟩,λx5 w6=>?_⟩⟩⟩
 all_goals first|refine aw ?_|refine ax ?_|exact a8|(dsimp only [anF,anz,dc,eF];omega)|exact a7|exact hg|exact hd|exact (hk w4).1.1.rd|exact ahx (hk w4).1.2|exact (hk w4).2.1.1|exact (hk w4).2.1.2|skip
 ·have e:=an3 (s:=g') (t:=A') (uv w3)
  refine⟨[],[],_,_,_,ζ,cf,(),aa,?_,?_,ζ⟩
  ·(show _=ane g' A');unfold ane;first|(rw [e];rfl)|rfl
  ·rfl
 ·obtain⟨_,⟨h0,h16⟩,hl⟩:=hk w4
  have e:=anO (s:=g') (t:=A') (cL w4)
  refine cN (l:=[(15,anF),(50,dc)]) (ex:=zT) (wr:=zF) (pt:=zF) ⟨ao5,iR,aa⟩ [.s 7,.b 180000] (λy:Nat×List Int=>[(.s 8,.int y.1),(.s 6,.s (.xs 1017 1 0 y.2.length)),(.b 1017,.rs ag y.2)]) (λy=>LsI (bo g' A') y.1 y.2) (λy=>(bo g' A').length-y.1) (0,[]) [(1017,1009)] (LsI.z _) dM ?_
  rintro⟨i,out⟩ (hI:LsI (bo g' A') i out)
  have hx:=hI.x
  have hlen:=hI.len
  refine⟨λw1=>⟨⟨?_,?_⟩,?_,λw2=>⟨aa,⟨⟨?_,?_⟩,?_,?_⟩,⟨?_,?_⟩,?_⟩,λw3=>⟨⟨?_,?_⟩,?_⟩⟩,λw4=>?_⟩
  all_goals first|refine aw ?_|refine ax ?_|exact a8|(dsimp only [anF,anz,dc,eF];omega)|exact a7|exact aJ w1|exact aoI w1|skip
  ·refine⟨(i+1,out++[(i:Int)]),[(1017,1032)],?_,?_,?_⟩
   rotate_right
   ·exact bV
   ·exact hI.y (aoI w1) w2
   ·show (bo g' A').length-(i+1)<(bo g' A').length-i;have h1:i<(bo g' A').length:=aoI w1;omega
  ·refine⟨(i+1,out),[],?_,?_,?_⟩
   rotate_right
   ·exact bV
   ·exact hI.n (aoI w1) w3
   ·show (bo g' A').length-(i+1)<(bo g' A').length-i;have h1:i<(bo g' A').length:=aoI w1;omega
  ·have e2:am2 g' A'=(out,true):=by rw [e,hI.f (λh=>aA w4 (Int.ofNat_lt.2 h))]
   refine⟨[],[],_,_,_,ζ,cf,(),aa,?_,?_,ζ⟩
   ·(show _=ane g' A');unfold ane;first|(rw [e2];exact vwI)|rfl
   ·rfl
end
end GL
namespace GL
def anR (S:ay) (t:bf) (k:Int) (n:fu):Prop:=S.wg 1046000∧t.ok∧0≤k∧k≤15
def apy (S:ay) (t:bf) (k:Int) (n:fu) (z:Bool):Prop:=z=(aY S t k (aC n)).2.2
def anl (S:ay) (t:bf) (k:Int) (n:fu) (z:Bool):AV:=match z with |true=>.t [.a (kW 0 1 2 5 6 (aY S t k (aC n)).1),trA (aY S t k (aC n)).2.1,.s (.q true)] |false=>.t [.a (kW 0 1 2 3 4 (aY S t k (aC n)).1),trA (aY S t k (aC n)).2.1,.s (.q false)]
def anv (S:ay) (t:bf) (k:Int) (n:fu) (z:Bool):List AV:=match z with |true=>[.rs ab (aY S t k (aC n)).1.rows,.rs ag (aY S t k (aC n)).1.refs,.rs ag (aY S t k (aC n)).1.last,.zz,.zz,.rs ae (aY S t k (aC n)).1.gone,.rs ae (aY S t k (aC n)).1.dead] |false=>GF (aY S t k (aC n)).1++[.zz,.zz]
def aom:cn where
 A:=[.a (stB 0 1 2 3 4),.a [.int,.int,.int,.int,.int,.int,.int],.s .int,.a [.int,.int,.int,.int,.int,.int,.int,.int,.int,.int]]
 B:=[.r ab,.r ag,.r ag,.r ae,.r ae]
 pre:=λx b=>stW x.1 b∧anR (gP x.1 b) (x.2.1) (x.2.2.1) (x.2.2.2)
 α:=λ_ _=>Bool
 φ:=λx b z=>apy (gP x.1 b) (x.2.1) (x.2.2.1) (x.2.2.2) z
 r:=λx b z=>anl (gP x.1 b) (x.2.1) (x.2.2.1) (x.2.2.2) z
 o:=λx b z=>anv (gP x.1 b) (x.2.1) (x.2.2.1) (x.2.2.2) z
 nf:=2
 mv:=true
theorem aqd:Has Tryz.prog 77 aom:=by
 refine Has.ofZ zT zF zF (l:=[(118,sO),(60,ez)]) ⟨MK,lY,aa⟩ Tryz.func77 ?_
 rintro⟨⟨(AU:Nat),(AT:Nat),(AS:Nat),(ao:Int),(AR:Nat),(aq:Int),(AQ:Nat),(ar:Bool)⟩,⟨(t1:Int),(t2:Int),(t3:Int),(t4:Int),(t5:Int),(t6:Int),(t7:Int)⟩,(k:Int),⟨(n1:Int),(n2:Int),(n3:Int),(n4:Int),(n5:Int),(n6:Int),(n7:Int),(n8:Int),(n9:Int),(cw:Int)⟩⟩ ⟨(aj:List ByteArray),(ak:List Int),(an:List Int),(ah:List Pt),(ai:List Pt)⟩ ⟨⟨(gC:AU=List.length aj),(gB:AT=List.length ak),(gA:AS=List.length an),(gz:AR=List.length ah),(gy:AQ=List.length ai)⟩,(hp:anR (aj,ak,an,ao,ah,aq,ai,ar) (t1,t2,t3,t4,t5,t6,t7) k (n1,n2,n3,n4,n5,n6,n7,n8,n9,cw))⟩
 subst gC gB gA gz gy
 show vc _ _ _ _ (entry [.a [.xs 0 1 0 aj.length,.xs 1 1 0 ak.length,.xs 2 1 0 an.length,.int ao,.xs 3 5 0 ah.length,.int aq,.xs 4 5 0 ai.length,.q ar],.a [.int t1,.int t2,.int t3,.int t4,.int t5,.int t6,.int t7],.int k,.a [.int n1,.int n2,.int n3,.int n4,.int n5,.int n6,.int n7,.int n8,.int n9,.int cw]] [.rs ab aj,.rs ag ak,.rs ag an,.rs ae ah,.rs ae ai]) _
 let g':=(n1,n2,n3,n4,n5,n6,n7,n8,n9,cw)
 let A':=(aj,ak,an,ao,ah,aq,ai,ar)
 let B':=(t1,t2,t3,t4,t5,t6,t7)
 obtain⟨ll,cG,hk0,EX⟩:=hp
 have ll:ay.wg A' 1046000:=ll
 have cG:bf.ok B':=cG
 have dj:=WW g'
 refine⟨[.s 4,.b 1004],Sq11,ζ,[.s 5,.b 1005],Sq12,ζ,Sq2,Sq13,ζ,[.s 7,.b 1007],Sq14,ζ,Sq14,Sq15,ζ,⟨⟨tv11,aa⟩,aa⟩,?_,λx1 w2=>⟨[.s 11,.s 12,.s 13,.s 15,.b 0,.b 1,.b 2,.b 3,.b 4,.b 1000170001,.b 1000170000],[.s 16,.b 0,.b 1,.b 2,.b 3,.b 4,.b 1000170000,.b 1000170001],ζ,⟨⟨tv9,tv8,tv3⟩,⟨?_,?_,?_,?_,?_⟩,?_,?_,?_,?_,?_,?_,?_,?_⟩,?_,λ|false=>λw3=>⟨Sq16,Sq17,ζ,Sq16,Sq18,ζ,Sq16,Sq19,ζ,[.s 8,.s 17,.b 1008],[.b 1008],ζ,[.s 9,.s 18,.b 1009],[.b 1009],ζ,Sq19,Sq10,ζ,?_⟩ |true=>λw4=>⟨Sq16,Sq17,ζ,Sq16,Sq18,ζ,Sq16,Sq19,ζ,[.s 8,.s 17,.b 1008],[.b 1008],ζ,[.s 9,.s 18,.b 1009],[.b 1009],ζ,Sq19,Sq10,ζ,?_⟩⟩⟩
 all_goals first|refine aw ?_|refine ax ?_|exact a8|(dsimp only [sO,ra,ez,fK,gP];omega)|exact a7|exact ll.wf|exact cG.rd|exact cG.m1|exact ll.g|exact ll.d|exact ZB0 dj (by decide)|exact⟨_,rfl⟩|skip
 ·have hz:(aY A' B' k (aC g')).2.2=false:=(show false=(aY A' B' k (aC g')).2.2 from w3).symm
  refine⟨[],[],_,_,_,ζ,az,false,2,(by show false=(aY A' B' k (aC g')).2.2;rw [hz]),?_,?_,ζ⟩
  ·(show _=anl A' B' k g' false);unfold anl;first|(rw [hz];rfl)|rfl
  ·(show _=anv A' B' k g' false);unfold anv;first|(rw [hz];rfl)|rfl
 ·have hz:(aY A' B' k (aC g')).2.2=true:=(show true=(aY A' B' k (aC g')).2.2 from w4).symm
  refine⟨[1000170000,1000170001],[],_,_,_,ζ,az,true,0,(by show true=(aY A' B' k (aC g')).2.2;rw [hz]),?_,?_,ζ⟩
  ·(show _=anl A' B' k g' true);unfold anl;first|(rw [hz];rfl)|rfl
  ·(show _=anv A' B' k g' true);unfold anv;first|(rw [hz];rfl)|rfl
abbrev aoH (n:fu):fu:=(n.1,n.2.1+1,n.2.2)
theorem ans (s:ay) (t:bf) (k:Nat):0≤(nth o7 (oE s t) k).2.1∧(nth o7 (oE s t) k).2.1≤9:=by
 have h0:∀x:ByteArray,0≤(bz x).1.2.1∧(bz x).1.2.1≤9:=λx=>by
  cases h:(bz x).2 with
  |false=>rw [WY h];decide
  |true=>have:=lh (WX h);omega
 unfold nth oE
 rw [List.getElem?_map]
 cases (bo s t)[k]? with
 |none=>decide
 |some x=>exact h0 x
theorem FS.aqM {u:ay}{t:bf}{x:Int}{text:ByteArray}(hF:FS u t) (hW:u.wg 10000) (hx:0≤x∧x≤15) (hz:false=(aY u t x text).2.2):um u (aY u t x text).1:=(nq hW hF.fi.tree.ok hx.1 hx.2).2.2 hz.symm
def anq (r:List Int×Int):Prop:=Rdr r 900000
def apc (r:List Int×Int) (z:ay×bf×Nat×Int):Prop:=(z.1.gone.length≤20001∧z.1.dead.length≤20001)∧(r.2≤z.2.2.2∧z.2.2.2≤r.2+40000)∧z.2.2.1≤z.1.rows.length∧-1≤z.2.1.2.2.2.2.2.2∧z.2.1.2.2.2.2.2.2≤18
def apa (r:List Int×Int) (z:ay×bf×Nat×Int):AV:=.t [.a [.xs 1 1 z.2.2.1 (z.1.rows.length-z.2.2.1),.xs 2 1 0 z.1.refs.length,.xs 3 1 0 z.1.last.length,.int z.1.cg,.xs 4 5 0 z.1.gone.length,.int z.1.bZ,.xs 5 5 0 z.1.dead.length,.q z.1.same],trA z.2.1]
def apz (r:List Int×Int) (z:ay×bf×Nat×Int):List AV:=[.a [.vw mf r.1,.int z.2.2.2],.rs ab z.1.rows,.rs ag z.1.refs,.rs ag z.1.last,.rs ae z.1.gone,.rs ae z.1.dead]
def anw:cn where
 A:=[.b 0]
 B:=[.a [.vw mf,.int]]
 pre:=λx b=>anq b
 α:=λ_ _=>ay×bf×Nat×Int
 φ:=λx b z=>apc b z
 r:=λx b z=>apa b z
 o:=λx b z=>apz b z
 nf:=5
theorem aoM:Has Tryz.prog 43 anw:=by
 refine Has.fm zT zF zF (l:=[(57,kP),(58,ba),(59,kR),(60,ez),(61,cS),(77,aom),(64,na)]) ⟨yD,dh,yF,lY,pc,aqd,CO,aa⟩ Tryz.func43 ?_
 rintro _ ⟨(rb:List Int),(rp:Int)⟩ (hp:anq (rb,rp))
 show vc _ _ _ _ (entry [.s (.bp 0 0)] [.a [.vw mf rb,.int rp]]) _
 have hr:Rdr (rb,rp) 900000:=hp
 have hp0:0≤rp:=hr.p0
 have hp1:rp≤900000:=hr.p1
 have hmm:∀{z:ay×bf×Int},(FS z.1 z.2.1∧z.1.wg 10000∧rp≤z.2.2∧z.2.2≤rp+20000)→0<((oE z.1 z.2.1).length:Int)∧((oE z.1 z.2.1).length:Int)≤16:=λ{z} h=>by
  rw [WV h.1.fi.tree.ok]
  have h1:=h.1.many;have h2:=h.1.fi.tree.m1;omega
 have hmn:∀{z:ay×bf×Int},(FS z.1 z.2.1∧z.1.wg 10000∧rp≤z.2.2∧z.2.2≤rp+20000)→0≤z.2.1.2.2.2.2.2.2∧z.2.1.2.2.2.2.2.2≤16:=λ{z} h=>⟨h.1.fi.tree.ok.m0,h.1.fi.tree.ok.m1⟩
 have hgd:∀{z:ay×bf×Int},(FS z.1 z.2.1∧z.1.wg 10000∧rp≤z.2.2∧z.2.2≤rp+20000)→z.1.gone.length≤20001∧z.1.dead.length≤20001:=λ{z} h=>⟨ZB0 h.2.1.g (by decide),ZB0 h.2.1.d (by decide)⟩
 have hp6:∀{n:Nat} {p:Int} {x:Int×Int},(n≤15∧0<n)→(x.1=0∨(0≤x.1∧x.1<(n:Int)))∧x.2=p+1→0≤x.1∧x.1≤15:=λhn h=>by have:=pk (n:=_) (by omega) h;omega
 refine⟨⟨tv2,?_⟩,λx1 w2=>⟨⟨tv3,?_,?_⟩,λx3 w4=>⟨λw5=>⟨Sq0,Sq23,ζ,[.s 4,.b 1004],Sq24,ζ,[.s 23,.s 24,.b 0,.b 170000,.b 170001,.b 170002,.b 170003,.b 170004,.b 260004,.b 260003,.b 260002,.b 260001,.b 260000],[.s 25,.b 0,.b 260000,.b 260001,.b 260002,.b 260003,.b 260004],ζ,⟨⟨aa,⟨⟨?_,?_⟩,⟨?_,?_⟩,⟨?_,?_⟩,aa,⟨?_,?_⟩,aa,⟨?_,?_⟩,tv2⟩,aa⟩,?_,?_⟩,?_,λx6 w7=>⟨[.s 5,.b 1005],Sq26,ζ,[.s 2,.s 25,.b 1002],[.b 1002],ζ,[.s 3,.s 26,.b 1003],[.b 1003],ζ,?_⟩⟩,λw8=>⟨λw9=>⟨[.s 4,.b 1004],Sq30,ζ,[.s 5,.b 1005],Sq31,ζ,Sq0,Sq32,ζ,[.s 32,.b 0],[.s 33,.b 0],ζ,⟨tv3,?_,?_⟩,?_,λx10 kA=>⟨Sq0,Sq34,ζ,[.s 34,.b 0],[.s 35,.b 0],ζ,⟨tv3,?_,?_,?_⟩,?_,λx12 iU=>⟨[.s 30,.s 31,.s 33,.s 35,.b 170000,.b 170001,.b 170002,.b 170003,.b 170004,.b 1000370001,.b 1000370000],[.s 36,.b 170000,.b 170001,.b 170002,.b 170003,.b 170004,.b 1000370000,.b 1000370001],ζ,⟨⟨tv9,tv8,tv3⟩,⟨?_,?_,?_,?_,?_⟩,?_,?_,?_,?_,?_,?_,?_,?_⟩,?_,λ|false=>λgO=>⟨Sq36,Sq29,ζ,Sq29,Sq37,ζ,Sq29,Sq38,ζ,Sq29,Sq39,ζ,[.b 1006],[.s 6,.b 1006],ζ,[.b 1007],[.s 7,.b 1007],ζ,[.s 6,.s 37,.b 1006],[.b 1006],ζ,[.s 7,.s 38,.b 1007],[.b 1007],ζ,Sq39,Sq8,ζ,λqK=>⟨[.s 6,.b 1006],Sq41,ζ,[.s 7,.b 1007],Sq42,ζ,[.s 2,.s 41,.b 1002],[.b 1002],ζ,[.s 3,.s 42,.b 1003],[.b 1003],ζ,?_⟩,λkg=>⟨[.s 4,.b 1004],Sq78,ζ,[.s 5,.b 1005],Sq79,ζ,[.s 2,.s 78,.b 1002],[.b 1002],ζ,[.s 3,.s 79,.b 1003],[.b 1003],ζ,?_⟩⟩ |true=>λxh=>⟨Sq36,Sq29,ζ,Sq29,Sq37,ζ,Sq29,Sq38,ζ,Sq29,Sq39,ζ,[.b 1006],[.s 6,.b 1006],ζ,[.b 1007],[.s 7,.b 1007],ζ,[.s 6,.s 37,.b 1006],[.b 1006],ζ,[.s 7,.s 38,.b 1007],[.b 1007],ζ,Sq39,Sq8,ζ,λrS=>⟨[.s 6,.b 1006],Sq41,ζ,[.s 7,.b 1007],Sq42,ζ,[.s 2,.s 41,.b 1002],[.b 1002],ζ,[.s 3,.s 42,.b 1003],[.b 1003],ζ,?_⟩,λoL=>⟨[.s 4,.b 1004],Sq78,ζ,[.s 5,.b 1005],Sq79,ζ,[.s 2,.s 78,.b 1002],[.b 1002],ζ,[.s 3,.s 79,.b 1003],[.b 1003],ζ,?_⟩⟩⟩⟩⟩,λuI=>⟨λA4=>⟨⟨⟨⟨⟨?_,?_⟩,⟨?_,?_⟩,⟨?_,?_⟩,aa,⟨?_,?_⟩,aa,⟨?_,?_⟩,tv2⟩,tv8,aa⟩,?_,?_⟩,λx22 xK=>⟨⟨tv3,?_,?_⟩,λx24 w25=>⟨⟨?_,?_⟩,⟨?_,?_⟩,[.s 4,.b 1004],Sq60,ζ,[.s 5,.b 1005],Sq61,ζ,Sq0,Sq62,ζ,[.s 62,.b 0],[.s 63,.b 0],ζ,⟨tv3,?_,?_⟩,?_,λx26 w27=>⟨[.s 10,.b 1010],Sq64,ζ,[.s 60,.s 61,.s 63,.s 64,.b 170000,.b 170001,.b 170002,.b 170003,.b 170004,.b 1000660001,.b 1000660000],[.s 65,.b 170000,.b 170001,.b 170002,.b 170003,.b 170004,.b 1000660000,.b 1000660001],ζ,⟨⟨tv9,tv8,aa,tv11,aa⟩,⟨?_,?_,?_,?_,?_⟩,?_,?_,?_,?_⟩,?_,λ|false=>λw28=>⟨Sq65,Sq59,ζ,Sq59,Sq66,ζ,Sq59,Sq67,ζ,Sq59,Sq68,ζ,[.b 1011],[.s 11,.b 1011],ζ,[.b 1012],[.s 12,.b 1012],ζ,[.s 11,.s 66,.b 1011],[.b 1011],ζ,[.s 12,.s 67,.b 1012],[.b 1012],ζ,Sq68,Sq13,ζ,λw29=>⟨[.s 11,.b 1011],Sq70,ζ,[.s 12,.b 1012],Sq71,ζ,[.s 2,.s 70,.b 1002],[.b 1002],ζ,[.s 3,.s 71,.b 1003],[.b 1003],ζ,?_⟩,λw30=>⟨[.s 4,.b 1004],Sq78,ζ,[.s 5,.b 1005],Sq79,ζ,[.s 2,.s 78,.b 1002],[.b 1002],ζ,[.s 3,.s 79,.b 1003],[.b 1003],ζ,?_⟩⟩ |true=>λw31=>⟨Sq65,Sq59,ζ,Sq59,Sq66,ζ,Sq59,Sq67,ζ,Sq59,Sq68,ζ,[.b 1011],[.s 11,.b 1011],ζ,[.b 1012],[.s 12,.b 1012],ζ,[.s 11,.s 66,.b 1011],[.b 1011],ζ,[.s 12,.s 67,.b 1012],[.b 1012],ζ,Sq68,Sq13,ζ,λw32=>⟨[.s 11,.b 1011],Sq70,ζ,[.s 12,.b 1012],Sq71,ζ,[.s 2,.s 70,.b 1002],[.b 1002],ζ,[.s 3,.s 71,.b 1003],[.b 1003],ζ,?_⟩,λw33=>⟨[.s 4,.b 1004],Sq78,ζ,[.s 5,.b 1005],Sq79,ζ,[.s 2,.s 78,.b 1002],[.b 1002],ζ,[.s 3,.s 79,.b 1003],[.b 1003],ζ,?_⟩⟩⟩⟩⟩⟩,λw34=>⟨λw35=>⟨⟨?_,?_⟩,[.s 4,.b 1004],Sq78,ζ,[.s 5,.b 1005],Sq79,ζ,[.s 2,.s 78,.b 1002],[.b 1002],ζ,[.s 3,.s 79,.b 1003],[.b 1003],ζ,?_⟩,λw36=>⟨[.s 4,.b 1004],Sq78,ζ,[.s 5,.b 1005],Sq79,ζ,[.s 2,.s 78,.b 1002],[.b 1002],ζ,[.s 3,.s 79,.b 1003],[.b 1003],ζ,?_⟩⟩⟩⟩⟩⟩⟩
 all_goals first|refine aw ?_|refine ax ?_|exact a8|(dsimp only [kP,lL,ba,ck,kR,lN,ez,fK,cS,ie,aom,anR,na,nL,gP];omega)|exact a7|exact hr|exact hr.at (show 0≤x1.2.2 by have e:rp≤x1.2.2∧x1.2.2≤rp+20000:=w2.2.2;omega) (show x1.2.2≤_ by have e:rp≤x1.2.2∧x1.2.2≤rp+20000:=w2.2.2;omega)|exact hr.at (show 0≤x3.2 by have e:rp≤x1.2.2∧x1.2.2≤rp+20000:=w2.2.2;have e3:x3.2=x1.2.2+1:=w4.2;omega) (show x3.2≤_ by have e:rp≤x1.2.2∧x1.2.2≤rp+20000:=w2.2.2;have e3:x3.2=x1.2.2+1:=w4.2;omega)|exact (show FS x1.1 x1.2.1 from w2.1).ta.hur w2.2.1 (by decide)|exact⟨(x1.1,0,x3.2),hgd w2,⟨ZC1 _,(by show x3.2≤x3.2+1100;omega)⟩,ZA7 _⟩|exact⟨(0,x3.2+1),.inl rfl,rfl⟩|exact (show FS x1.1 x1.2.1 from w2.1).fi.acc.wf.rd|exact (show FS x1.1 x1.2.1 from w2.1).fi.acc.wf|exact (show FS x1.1 x1.2.1 from w2.1).fi.tree.ok|exact (show FS x1.1 x1.2.1 from w2.1).fi.tree.ok.rd|exact (show FS x1.1 x1.2.1 from w2.1).fi.tree.ok.m1|exact ZE0 (hmm w2).2 (by decide)|exact ZB0 (hgd w2).1 (by decide)|exact ZB0 (hgd w2).2 (by decide)|exact (w2.2.1).mono (by decide)|exact⟨_,rfl⟩|exact hr.at (show 0≤x10.2 by have e:rp≤x1.2.2∧x1.2.2≤rp+20000:=w2.2.2;have e3:x3.2=x1.2.2+1:=w4.2;have e10:x10.2=x3.2+1:=kA.2;omega) (show x10.2≤_ by have e:rp≤x1.2.2∧x1.2.2≤rp+20000:=w2.2.2;have e3:x3.2=x1.2.2+1:=w4.2;have e10:x10.2=x3.2+1:=kA.2;omega)|exact⟨(⟨#[]⟩,x10.2),(by show ((0:Nat):Int)≤6;decide),ZC1 _,(by show x10.2≤x10.2+1000;omega)⟩|exact (pk (n:=6) (by decide) kA).1|(show x10.1≤15;have h:=(pk (n:=6) (by decide) kA).2;omega)|(show x12.1.size≤1000000;have h:(x12.1.size:Int)≤6:=iU.1;omega)|exact (pk (hmm w2).1 w25).1|exact (pk (hmm w2).1 w25).2|(show gK≤(nth o7 (oE x1.1 x1.2.1) x24.1.toNat).2.1+1;have h:=ans x1.1 x1.2.1 x24.1.toNat;unfold gK;omega)|(show (nth o7 (oE x1.1 x1.2.1) x24.1.toNat).2.1+1≤imax;have h:=ans x1.1 x1.2.1 x24.1.toNat;unfold imax;omega)|exact hr.at (show 0≤x24.2 by have e:rp≤x1.2.2∧x1.2.2≤rp+20000:=w2.2.2;have e3:x3.2=x1.2.2+1:=w4.2;have e10:x24.2=x3.2+1:=w25.2;omega) (show x24.2≤_ by have e:rp≤x1.2.2∧x1.2.2≤rp+20000:=w2.2.2;have e3:x3.2=x1.2.2+1:=w4.2;have e10:x24.2=x3.2+1:=w25.2;omega)|exact⟨(0,x24.2+1),.inl rfl,rfl⟩|exact (pk (n:=4) (by decide) w27).1|(show x26.1≤15;have h:=(pk (n:=4) (by decide) w27).2;omega)|(show gK≤x1.2.1.2.2.2.2.2.2+1;have h:=hmn w2;unfold gK;omega)|(show x1.2.1.2.2.2.2.2.2+1≤imax;have h:=hmn w2;unfold imax;omega)|(show x6.2.1+(x6.1.rows.length-x6.2.1)≤x6.1.rows.length;have h:x6.2.1≤x6.1.rows.length:=w7.2.2;omega)|skip
 all_goals first|exact absurd (show false=true from qK) Bool.noConfusion|exact absurd (show true=false from oL) Bool.noConfusion|exact absurd (show false=true from w29) Bool.noConfusion|exact absurd (show true=false from w33) Bool.noConfusion|skip
 ·have e:rp≤x1.2.2∧x1.2.2≤rp+20000:=w2.2.2
  have e3:x3.2=x1.2.2+1:=w4.2
  have hm:=hmn w2
  have xB:(-1:Int)≤x1.2.1.2.2.2.2.2.2:=by omega
  have EW:x1.2.1.2.2.2.2.2.2≤(18:Int):=by omega
  have e7:x3.2≤x6.2.2∧x6.2.2≤x3.2+1100:=w7.2.1
  refine⟨[260000,260001,260002,260003,260004],[],_,_,_,ζ,cf,(x6.1,x1.2.1,x6.2.1,x6.2.2),⟨w7.1,⟨by show rp≤x6.2.2;omega,by show x6.2.2≤rp+40000;omega⟩,w7.2.2,xB,EW⟩,ζ,ζ,ζ⟩
 ·have e:rp≤x1.2.2∧x1.2.2≤rp+20000:=w2.2.2
  have e3:x3.2=x1.2.2+1:=w4.2
  have hm:=hmn w2
  have xB:(-1:Int)≤x1.2.1.2.2.2.2.2.2:=by omega
  have EW:x1.2.1.2.2.2.2.2.2≤(18:Int):=by omega
  have e10:x10.2=x3.2+1:=kA.2
  have e12:x10.2≤x12.2∧x12.2≤x10.2+1000:=iU.2
  have hx:0≤x10.1∧x10.1≤15:=by have h:=pk (n:=6) (by decide) kA;omega
  have hS:um x1.1 (aY x1.1 x1.2.1 x10.1 x12.1).1:=FS.aqM w2.1 w2.2.1 hx gO
  refine⟨[170000,170001,170002,170003,170004],[],_,_,_,ζ,cf,((aY x1.1 x1.2.1 x10.1 x12.1).1,x1.2.1,0,x12.2),⟨⟨by show (aY x1.1 x1.2.1 x10.1 x12.1).1.gone.length≤20001;rw [hS.gone];exact (hgd w2).1,by show (aY x1.1 x1.2.1 x10.1 x12.1).1.dead.length≤20001;rw [hS.dead];exact (hgd w2).2⟩,⟨by show rp≤x12.2;omega,by show x12.2≤rp+40000;omega⟩,ZA7 _,xB,EW⟩,(congrArg (λx=>AV.t [A0.a x,trA x1.2.1]) (nD (b0:=1) (b1:=2) (b2:=3) (b3:=4) (b4:=5) hS w2.2.1.wf)),ζ,ζ⟩
 ·have e:rp≤x1.2.2∧x1.2.2≤rp+20000:=w2.2.2
  have e3:x3.2=x1.2.2+1:=w4.2
  have hm:=hmn w2
  have xB:(-1:Int)≤x1.2.1.2.2.2.2.2.2:=by omega
  have EW:x1.2.1.2.2.2.2.2.2≤(18:Int):=by omega
  have e10:x10.2=x3.2+1:=kA.2
  have e12:x10.2≤x12.2∧x12.2≤x10.2+1000:=iU.2
  have hx:0≤x10.1∧x10.1≤15:=by have h:=pk (n:=6) (by decide) kA;omega
  have hP:=nq (text:=x12.1) w2.2.1 (show FS x1.1 x1.2.1 from w2.1).fi.tree.ok hx.1 hx.2
  refine⟨[170000,170001,170002,1000370000,1000370001],[],_,_,_,ζ,cf,((aY x1.1 x1.2.1 x10.1 x12.1).1,(aY x1.1 x1.2.1 x10.1 x12.1).2.1,0,x12.2),⟨⟨ZB0 hP.1.g (by decide),ZB0 hP.1.d (by decide)⟩,⟨by show rp≤x12.2;omega,by show x12.2≤rp+40000;omega⟩,ZA7 _,by show (-1:Int)≤(aY x1.1 x1.2.1 x10.1 x12.1).2.1.2.2.2.2.2.2;have h:0≤(aY x1.1 x1.2.1 x10.1 x12.1).2.1.2.2.2.2.2.2:=hP.2.1.m0;omega,by show (aY x1.1 x1.2.1 x10.1 x12.1).2.1.2.2.2.2.2.2≤(18:Int);have h:(aY x1.1 x1.2.1 x10.1 x12.1).2.1.2.2.2.2.2.2≤16:=hP.2.1.m1;omega⟩,ζ,ζ,ζ⟩
 ·exact (show∀N:Int,(0≤N∧N≤9)→gK≤N+1 from λN h=>by unfold gK;omega) _ (ans x1.1 x1.2.1 x24.1.toNat)
 ·exact (show∀N:Int,(0≤N∧N≤9)→N+1≤imax from λN h=>by unfold imax;omega) _ (ans x1.1 x1.2.1 x24.1.toNat)
 ·have e:rp≤x1.2.2∧x1.2.2≤rp+20000:=w2.2.2
  have e3:x3.2=x1.2.2+1:=w4.2
  have hm:=hmn w2
  have xB:(-1:Int)≤x1.2.1.2.2.2.2.2.2:=by omega
  have EW:x1.2.1.2.2.2.2.2.2≤(18:Int):=by omega
  have e10:x24.2=x3.2+1:=w25.2
  have e12:x26.2=x24.2+1:=w27.2
  have hx:0≤x26.1∧x26.1≤15:=by have h:=pk (n:=4) (by decide) w27;omega
  have hS:um x1.1 (aY x1.1 x1.2.1 x26.1 (aC (aoH (nth o7 (oE x1.1 x1.2.1) x24.1.toNat)))).1:=FS.aqM w2.1 w2.2.1 hx w28
  refine⟨[170000,170001,170002,170003,170004],[],_,_,_,ζ,cf,((aY x1.1 x1.2.1 x26.1 (aC (aoH (nth o7 (oE x1.1 x1.2.1) x24.1.toNat)))).1,x1.2.1,0,x26.2),⟨⟨by show (aY x1.1 x1.2.1 x26.1 (aC (aoH (nth o7 (oE x1.1 x1.2.1) x24.1.toNat)))).1.gone.length≤20001;rw [hS.gone];exact (hgd w2).1,by show (aY x1.1 x1.2.1 x26.1 (aC (aoH (nth o7 (oE x1.1 x1.2.1) x24.1.toNat)))).1.dead.length≤20001;rw [hS.dead];exact (hgd w2).2⟩,⟨by show rp≤x26.2;omega,by show x26.2≤rp+40000;omega⟩,ZA7 _,xB,EW⟩,(congrArg (λx=>AV.t [A0.a x,trA x1.2.1]) (nD (b0:=1) (b1:=2) (b2:=3) (b3:=4) (b4:=5) hS w2.2.1.wf)),ζ,ζ⟩
 ·have e:rp≤x1.2.2∧x1.2.2≤rp+20000:=w2.2.2
  have e3:x3.2=x1.2.2+1:=w4.2
  have hm:=hmn w2
  have xB:(-1:Int)≤x1.2.1.2.2.2.2.2.2:=by omega
  have EW:x1.2.1.2.2.2.2.2.2≤(18:Int):=by omega
  have e10:x24.2=x3.2+1:=w25.2
  have e12:x26.2=x24.2+1:=w27.2
  have hx:0≤x26.1∧x26.1≤15:=by have h:=pk (n:=4) (by decide) w27;omega
  have hP:=nq (text:=(aC (aoH (nth o7 (oE x1.1 x1.2.1) x24.1.toNat)))) w2.2.1 (show FS x1.1 x1.2.1 from w2.1).fi.tree.ok hx.1 hx.2
  refine⟨[170000,170001,170002,1000660000,1000660001],[],_,_,_,ζ,cf,((aY x1.1 x1.2.1 x26.1 (aC (aoH (nth o7 (oE x1.1 x1.2.1) x24.1.toNat)))).1,(aY x1.1 x1.2.1 x26.1 (aC (aoH (nth o7 (oE x1.1 x1.2.1) x24.1.toNat)))).2.1,0,x26.2),⟨⟨ZB0 hP.1.g (by decide),ZB0 hP.1.d (by decide)⟩,⟨by show rp≤x26.2;omega,by show x26.2≤rp+40000;omega⟩,ZA7 _,by show (-1:Int)≤(aY x1.1 x1.2.1 x26.1 (aC (aoH (nth o7 (oE x1.1 x1.2.1) x24.1.toNat)))).2.1.2.2.2.2.2.2;have h:0≤(aY x1.1 x1.2.1 x26.1 (aC (aoH (nth o7 (oE x1.1 x1.2.1) x24.1.toNat)))).2.1.2.2.2.2.2.2:=hP.2.1.m0;omega,by show (aY x1.1 x1.2.1 x26.1 (aC (aoH (nth o7 (oE x1.1 x1.2.1) x24.1.toNat)))).2.1.2.2.2.2.2.2≤(18:Int);have h:(aY x1.1 x1.2.1 x26.1 (aC (aoH (nth o7 (oE x1.1 x1.2.1) x24.1.toNat)))).2.1.2.2.2.2.2.2≤16:=hP.2.1.m1;omega⟩,ζ,ζ,ζ⟩
 ·have e:rp≤x1.2.2∧x1.2.2≤rp+20000:=w2.2.2
  have e3:x3.2=x1.2.2+1:=w4.2
  have hm:=hmn w2
  have xB:(-1:Int)≤x1.2.1.2.2.2.2.2.2:=by omega
  have EW:x1.2.1.2.2.2.2.2.2≤(18:Int):=by omega
  refine⟨[170000,170001,170002,170003,170004],[],_,_,_,ζ,cf,(x1.1,(x1.2.1.1,x1.2.1.2.1,x1.2.1.2.2.1,x1.2.1.2.2.2.1,x1.2.1.2.2.2.2.1,x1.2.1.2.2.2.2.2.1,x1.2.1.2.2.2.2.2.2+1),0,x3.2),⟨hgd w2,⟨by show rp≤x3.2;omega,by show x3.2≤rp+40000;omega⟩,ZA7 _,by show (-1:Int)≤x1.2.1.2.2.2.2.2.2+1;omega,by show x1.2.1.2.2.2.2.2.2+1≤(18:Int);omega⟩,ζ,ζ,ζ⟩
 ·have e:rp≤x1.2.2∧x1.2.2≤rp+20000:=w2.2.2
  have e3:x3.2=x1.2.2+1:=w4.2
  have hm:=hmn w2
  have xB:(-1:Int)≤x1.2.1.2.2.2.2.2.2:=by omega
  have EW:x1.2.1.2.2.2.2.2.2≤(18:Int):=by omega
  refine⟨[170000,170001,170002,170003,170004],[],_,_,_,ζ,cf,(x1.1,x1.2.1,0,x3.2),⟨hgd w2,⟨by show rp≤x3.2;omega,by show x3.2≤rp+40000;omega⟩,ZA7 _,xB,EW⟩,ζ,ζ,ζ⟩
