/- A drawn law returns true for every code (its row lists package variables, tied by the card): part 22. -/
import Derived.Test.YtkgpljpmdkflmaaGreatDoorPan
import Derived.Test.YtkgpljpmdkflmaaGreatDoorPau
set_option maxHeartbeats 20000000
set_option maxRecDepth 100000
set_option linter.all false
namespace Go.Proofs.YtkgpljpmdkflmaaGreatDoor
namespace GL
structure uq (s u:ay):Prop where
 wf:u.wf
 gone:u.gone=s.gone
 dead:u.dead=s.dead
 cj:u.cj=s.cj
 ca:u.ca=s.ca
 same:u.same=s.same
theorem uq.trans {a b c:ay}(h:uq a b) (h2:uq b c):uq a c:=⟨h2.wf,h2.gone.trans h.gone,h2.dead.trans h.dead,h2.cj.trans h.cj,h2.ca.trans h.ca,h2.same.trans h.same⟩
theorem ab1 {s:ay}{l:List Pt}{lv:Int}{o:Pt}(h:s.wf):uq s (ef s l lv o).1:=by
 obtain⟨h1,h2,h3,h4,h5⟩:=C7 s l lv o
 exact⟨PN h,h1,h2,h3,h4,h5⟩
theorem DM {s:ay}{text:ByteArray}{lv:Int}(h:s.wf):uq s (bd s text lv).1:=by
 refine⟨AY h,?_,?_,?_,?_,?_⟩<;>
 ·rcases jM s text lv with ⟨_,e⟩ |⟨k,_,e,_⟩<;>rw [e]<;>rfl
theorem JC {lv:Int}{kc l:List Pt}:∀{f:Nat}{s:ay}{i:Nat}{nx sy:List Pt},s.wf→uq s (fJ f s lv kc l i nx sy).1
 |0,s,i,nx,sy,h=>⟨h,rfl,rfl,rfl,rfl,rfl⟩
 |f+1,s,i,nx,sy,h=>by
  unfold fJ
  cases decide ((i:Int)*4<l.length) with
  |false=>exact⟨h,rfl,rfl,rfl,rfl,rfl⟩
  |true=>
   have h1:=ab1 (l:=qR l i) (lv:=lv) (o:=nth ae kc i) h
   cases !(ef s (qR l i) lv (nth ae kc i)).2.2 with
   |true=>exact h1
   |false=>exact h1.trans (JC h1.wf)
theorem wP {t:bf}{d:Int}:∀{f:Nat}{s:ay}{lv:Int}{l sy:List Pt},s.wf→uq s (mr f s t d lv l sy).1
 |0,s,lv,l,sy,h=>⟨h,rfl,rfl,rfl,rfl,rfl⟩
 |f+1,s,lv,l,sy,h=>by
  unfold mr
  cases decide (lv≤d) with
  |false=>exact⟨h,rfl,rfl,rfl,rfl,rfl⟩
  |true=>
   have h1:=JC (f:=5) (lv:=lv) (kc:=dM s t d lv) (l:=eL l) (i:=0) (nx:=[]) (sy:=sy) h
   simp only [cond_true]
   cases hf:fJ 5 s lv (dM s t d lv) (eL l) 0 [] sy with
   |mk s' r=>
    rw [hf] at h1
    cases r with
    |none=>exact h1
    |some q=>exact h1.trans (wP h1.wf)
theorem C2:∀{l sy:List Pt}{s:ay},s.wf→(dY l sy s).wf∧(dY l sy s).gone.length≤s.gone.length+l.length∧(dY l sy s).dead.length≤s.dead.length+l.length
 |[],sy,s,h=>⟨h,ZB5 _,ZB5 _⟩
 |o::l,sy,s,h=>by
  unfold dY
  cases gY sy o with
  |true=>
   have:=C2 (l:=l) (sy:=sy) h
   rw [ZA1]
   exact⟨this.1,by have:=this.2.1;show (dY l sy s).gone.length≤_;omega,by have:=this.2.2;show (dY l sy s).dead.length≤_;omega⟩
  |false=>
   have h1:=C2 (l:=l) (sy:=sy) (qt (p:=o) h)
   have h2:=pj s o
   rw [ZA1]
   exact⟨h1.1,by have:=h1.2.1;show (dY l sy (cN s o)).gone.length≤_;omega,by have:=h1.2.2;show (dY l sy (cN s o)).dead.length≤_;omega⟩
theorem FE {s:ay}{t:bf}{l:List Pt}{many:Int}(h:s.wf):(bR s t l many).1.wf∧(bR s t l many).1.gone.length≤s.gone.length+5∧(bR s t l many).1.dead.length≤s.dead.length+5∧((bR s t l many).2.2=false→(bR s t l many).1.gone=s.gone∧(bR s t l many).1.dead=s.dead):=by
 unfold bR
 have h1:=wP (f:=3) (t:=t) (d:=bj many) (lv:=1) (l:=l.take many.toNat) (sy:=[]) h
 cases hf:mr 3 s t (bj many) 1 (l.take many.toNat) [] with
 |mk s' r=>
  rw [hf] at h1
  have h1:uq s s':=h1
  cases r with
  |none=>exact⟨h1.wf,by show s'.gone.length≤_;rw [h1.gone];omega,by show s'.dead.length≤_;rw [h1.dead];omega,fun _=>⟨h1.gone,h1.dead⟩⟩
  |some q=>
   have h2:=C2 (l:=bz s t) (sy:=q.2) h1.wf
   have h3:=IS s t
   rw [h1.gone,h1.dead] at h2
   exact⟨h2.1,ZB0 h2.2.1 (by omega),ZB0 h2.2.2 (by omega),fun h=>by cases h⟩
def pU (s:ay) (t:bf) (leaves:List Pt) (k:Nat) (p:Pt) (many:Int) (old:Pt):ay×bf×Bool:=
 bif !(bR s t (leaves.set k p) many).2.2 then ((bR s t (leaves.set k p) many).1,(bR s t (leaves.set k p) many).2.1,false)
 else (bif !(ptrEq p old) then cN (bR s t (leaves.set k p) many).1 old else (bR s t (leaves.set k p) many).1,(bR s t (leaves.set k p) many).2.1,true)
def bO (t:bf) (k:Int):Int:=max t.many (k+1)
def dW (s:ay) (t:bf) (k:Int):Pt:=nth ae (aB s t) k.toNat
def gV (s:ay) (t:bf) (k:Int):ByteArray:=(bG s (dW s t k)).1
def aY (s:ay) (t:bf) (k:Int) (text:ByteArray):ay×bf×Bool:=
 bif decide (gV s t k=text)&&decide (bO t k=t.many) then (s,t,true) else
 bif decide (gV s t k≠text) then
  (bif decide (text≠⟨#[]⟩) then
   (bif !(bd s text 0).2.2 then (s,t,false) else pU (bd s text 0).1 t (aB s t) k.toNat (bd s text 0).2.1 (bO t k) (dW s t k))
  else pU s t (aB s t) k.toNat bN (bO t k) (dW s t k))
 else pU s t (aB s t) k.toNat (dW s t k) (bO t k) (dW s t k)
def fL (S:ay) (t:bf) (k:Int) (text:ByteArray):Prop:=S.wf∧t.rd∧0≤k∧k≤15∧t.many≤16∧S.gone.length≤1046000∧S.dead.length≤1046000∧text.size≤1000000
def aaS (S:ay) (t:bf) (k:Int) (text:ByteArray) (z:Bool):Prop:=z=(aY S t k text).2.2
def gS (S:ay) (t:bf) (k:Int) (text:ByteArray) (z:Bool):AV:=match z with |true=>.t [.a (kZ 0 1 2 5 6 (aY S t k text).1),trA (aY S t k text).2.1,.s (.q true)] |false=>.t [.a (kZ 0 1 2 3 4 (aY S t k text).1),trA (aY S t k text).2.1,.s (.q false)]
def jr (S:ay) (t:bf) (k:Int) (text:ByteArray) (z:Bool):List AV:=match z with |true=>[.rs ab (aY S t k text).1.rows,.rs ag (aY S t k text).1.refs,.rs ag (aY S t k text).1.last,.zz,.zz,.rs ae (aY S t k text).1.gone,.rs ae (aY S t k text).1.dead] |false=>GD (aY S t k text).1++[.zz,.zz]
def eA:ct where
 A:=[.a (stB 0 1 2 3 4),.a [.int,.int,.int,.int,.int,.int,.int],.s .int,.s .str]
 B:=[.r ab,.r ag,.r ag,.r ae,.r ae]
 pre:=fun x b=>stW x.1 b∧fL (gQ x.1 b) (x.2.1) (x.2.2.1) (x.2.2.2)
 α:=fun _ _=>Bool
 φ:=fun x b z=>aaS (gQ x.1 b) (x.2.1) (x.2.2.1) (x.2.2.2) z
 r:=fun x b z=>gS (gQ x.1 b) (x.2.1) (x.2.2.1) (x.2.2.2) z
 o:=fun x b z=>jr (gQ x.1 b) (x.2.1) (x.2.2.1) (x.2.2.2) z
 nf:=2
 mv:=true
theorem l6:Has Tryz.prog 75 eA:=by
 refine Has.ofP 8 zT zF zF (l:=[(97,ez),(117,eB),(120,ni),(121,j4),(122,cK)]) ⟨l5,l7,CQ,wR,gy,aa⟩ Tryz.func75 ?_
 rintro⟨⟨(AU:Nat),(AT:Nat),(AS:Nat),(ao:Int),(AR:Nat),(aq:Int),(AQ:Nat),(ar:Bool)⟩,⟨(t1:Int),(t2:Int),(t3:Int),(t4:Int),(t5:Int),(t6:Int),(t7:Int)⟩,(k:Int),(text:ByteArray)⟩ ⟨(aj:List ByteArray),(ak:List Int),(an:List Int),(ah:List Pt),(ai:List Pt)⟩ ⟨⟨(gD:AU=List.length aj),(gC:AT=List.length ak),(gB:AS=List.length an),(gA:AR=List.length ah),(gz:AQ=List.length ai)⟩,(hp:fL (aj,ak,an,ao,ah,aq,ai,ar) (t1,t2,t3,t4,t5,t6,t7) k text)⟩
 subst gD gC gB gA gz
 show vcP _ _ _ _ 8 _ (entry [.a [.xs 0 1 0 aj.length,.xs 1 1 0 ak.length,.xs 2 1 0 an.length,.int ao,.xs 3 5 0 ah.length,.int aq,.xs 4 5 0 ai.length,.q ar],.a [.int t1,.int t2,.int t3,.int t4,.int t5,.int t6,.int t7],.int k,.str text] [.rs ab aj,.rs ag ak,.rs ag an,.rs ae ah,.rs ae ai])
 obtain⟨oP,sV,hk0,EW,(hm:t7≤16),(hg:ah.length≤1046000),(hd:ai.length≤1046000),hts⟩:=hp
 have oP:ay.wf (aj,ak,an,ao,ah,aq,ai,ar):=oP
 have sV:bf.rd (t1,t2,t3,t4,t5,t6,t7):=sV
 have hwl:=gi (s:=(aj,ak,an,ao,ah,aq,ai,ar)) sV
 have hwo:=lD (s:=(aj,ak,an,ao,ah,aq,ai,ar)) sV
 have hoa:=nW (oE hwo k.toNat)
 have h64:aj.length=64:=oP.n.1
 have akW:0≤bO (t1,t2,t3,t4,t5,t6,t7) k:=by show 0≤max t7 (k+1);omega
 have akV:bO (t1,t2,t3,t4,t5,t6,t7) k≤16:=by show max t7 (k+1)≤16;omega
 refine ze (l:=[(97,ez),(117,eB),(120,ni),(121,j4),(122,cK)]) (ex:=zT) (wr:=zF) (pt:=zF) ⟨l5,l7,CQ,wR,gy,aa⟩ (fun y:ay×Pt=>[(.s 2,.int k),(.s 4,.s (.bp 1004 0)),(.s 5,.s (.bp 1005 0)),(.s 8,.s (.bp 1008 0)),(.s 9,.s (.bp 1009 0)),(.s 11,.s (.xs 240000 5 0 (aB (aj,ak,an,ao,ah,aq,ai,ar) (t1,t2,t3,t4,t5,t6,t7)).length)),(.s 12,.s (.bp 1012 0)),(.s 15,.int (bO (t1,t2,t3,t4,t5,t6,t7) k)),(.s 16,.s (.bp 1016 0)),(.b 1004,.a (kZ 0 1 2 3 4 y.1)),(.b 0,.rs ab y.1.rows),(.b 1,.rs ag y.1.refs),(.b 2,.rs ag y.1.last),(.b 3,.rs ae y.1.gone),(.b 4,.rs ae y.1.dead),(.b 1005,.a [.int t1,.int t2,.int t3,.int t4,.int t5,.int t6,.int t7]),(.b 1008,.a (uI pD.zero)),(.b 1009,.a (uI sY.zero)),(.b 240000,.rs ae (aB (aj,ak,an,ao,ah,aq,ai,ar) (t1,t2,t3,t4,t5,t6,t7))),(.b 1012,.a (EK.AX ae (dW (aj,ak,an,ao,ah,aq,ai,ar) (t1,t2,t3,t4,t5,t6,t7) k))),(.b 1016,.a (EK.AX ae y.2))]) (fun y=>y.1.wf∧(y.1.gone.length≤1046000∧y.1.dead.length≤1046000)∧aY (aj,ak,an,ao,ah,aq,ai,ar) (t1,t2,t3,t4,t5,t6,t7) k text=pU y.1 (t1,t2,t3,t4,t5,t6,t7) (aB (aj,ak,an,ao,ah,aq,ai,ar) (t1,t2,t3,t4,t5,t6,t7)) k.toNat y.2 (bO (t1,t2,t3,t4,t5,t6,t7) k) (dW (aj,ak,an,ao,ah,aq,ai,ar) (t1,t2,t3,t4,t5,t6,t7) k)) (xf 8 (J7 Tryz.f75)) ?_ (fun tail=>?_)
 ·rintro⟨u,p⟩ ⟨(hu:u.wf),⟨(hug:u.gone.length≤1046000),(hud:u.dead.length≤1046000)⟩,(hM:aY (aj,ak,an,ao,ah,aq,ai,ar) (t1,t2,t3,t4,t5,t6,t7) k text=pU u (t1,t2,t3,t4,t5,t6,t7) (aB (aj,ak,an,ao,ah,aq,ai,ar) (t1,t2,t3,t4,t5,t6,t7)) k.toNat p (bO (t1,t2,t3,t4,t5,t6,t7) k) (dW (aj,ak,an,ao,ah,aq,ai,ar) (t1,t2,t3,t4,t5,t6,t7) k))⟩
  have hly:=FE (t:=(t1,t2,t3,t4,t5,t6,t7)) (l:=(aB (aj,ak,an,ao,ah,aq,ai,ar) (t1,t2,t3,t4,t5,t6,t7)).set k.toNat p) (many:=bO (t1,t2,t3,t4,t5,t6,t7) k) hu
  refine⟨⟨?_,?_⟩,?_,⟨⟨⟨aa,aa,aa,aa,aa,aa,aa,aa,aa⟩,⟨aa,aa,aa,aa,aa,aa,aa,aa⟩,⟨?_,?_⟩,aa,aa⟩,⟨?_,?_,?_,?_,?_⟩,?_,?_,?_,?_,?_,?_,?_⟩,fun |false=>fun w1=>⟨fun w2=>⟨[.s 4,.b 1004],Sq85,rfl,[.s 5,.b 1005],Sq86,rfl,[.s 8,.s 85,.b 1008],[.b 1008],rfl,[.s 9,.s 86,.b 1009],[.b 1009],rfl,[],Sq10,rfl,?_⟩,fun w3=>⟨fun w4=>⟨⟨⟨⟨aa,aa,aa,aa,aa,aa,aa,aa,aa⟩,⟨aa,aa,aa,aa,aa,aa⟩,aa⟩,⟨?_,?_,?_,?_,?_⟩,⟨?_,?_,?_⟩,?_,?_,?_,?_⟩,fun x5 w6=>⟨[.s 4,.b 1004],Sq93,rfl,[.s 5,.b 1005],Sq94,rfl,[.s 8,.s 93,.b 1008],[.b 1008],rfl,[.s 9,.s 94,.b 1009],[.b 1009],rfl,[],Sq10,rfl,?_⟩⟩,fun w7=>⟨[.s 4,.b 1004],Sq93,rfl,[.s 5,.b 1005],Sq94,rfl,[.s 8,.s 93,.b 1008],[.b 1008],rfl,[.s 9,.s 94,.b 1009],[.b 1009],rfl,[],Sq10,rfl,?_⟩⟩⟩ |true=>fun w8=>⟨fun w9=>⟨[.s 4,.b 1004],Sq85,rfl,[.s 5,.b 1005],Sq86,rfl,[.s 8,.s 85,.b 1008],[.b 1008],rfl,[.s 9,.s 86,.b 1009],[.b 1009],rfl,[],Sq10,rfl,?_⟩,fun dy=>⟨fun kC=>⟨⟨⟨⟨aa,aa,aa,aa,aa,aa,aa,aa,aa⟩,⟨aa,aa,aa,aa,aa,aa⟩,aa⟩,⟨?_,?_,?_,?_,?_⟩,⟨?_,?_,?_⟩,?_,?_,?_,?_⟩,fun x12 iV=>⟨[.s 4,.b 1004],Sq93,rfl,[.s 5,.b 1005],Sq94,rfl,[.s 8,.s 93,.b 1008],[.b 1008],rfl,[.s 9,.s 94,.b 1009],[.b 1009],rfl,[],Sq10,rfl,?_⟩⟩,fun gP=>⟨[.s 4,.b 1004],Sq93,rfl,[.s 5,.b 1005],Sq94,rfl,[.s 8,.s 93,.b 1008],[.b 1008],rfl,[.s 9,.s 94,.b 1009],[.b 1009],rfl,[],Sq10,rfl,?_⟩⟩⟩⟩
  all_goals first|refine aw ?_|refine ax ?_|exact a8|(dsimp only [ez,fU,eB,fV,ni,nP,j4,k7,cK,dI,gQ];omega)|exact a7|exact absurd (show true=false from w3) Bool.noConfusion|exact absurd (show false=true from w9) Bool.noConfusion|exact hu|exact sV|exact ZC3.symm|(show ((aB (aj,ak,an,ao,ah,aq,ai,ar) (t1,t2,t3,t4,t5,t6,t7)).set k.toNat p).length=16;rw [ZC3];exact hwl)|exact akW|exact akV|exact ZB0 hug (by decide)|exact ZB0 hud (by decide)|exact hly.1.n.1|exact hly.1.n.2.1|exact hly.1.n.2.2|exact hoa.1|exact hoa.2|exact ZB0 hly.2.1 (by omega)|exact ZB0 hly.2.2.1 (by omega)|skip
  ·have hz:(bR u (t1,t2,t3,t4,t5,t6,t7) ((aB (aj,ak,an,ao,ah,aq,ai,ar) (t1,t2,t3,t4,t5,t6,t7)).set k.toNat p) (bO (t1,t2,t3,t4,t5,t6,t7) k)).2.2=false:=(show false=(bR u (t1,t2,t3,t4,t5,t6,t7) ((aB (aj,ak,an,ao,ah,aq,ai,ar) (t1,t2,t3,t4,t5,t6,t7)).set k.toNat p) (bO (t1,t2,t3,t4,t5,t6,t7) k)).2.2 from w1).symm
   have e:(aY (aj,ak,an,ao,ah,aq,ai,ar) (t1,t2,t3,t4,t5,t6,t7) k text)=((bR u (t1,t2,t3,t4,t5,t6,t7) ((aB (aj,ak,an,ao,ah,aq,ai,ar) (t1,t2,t3,t4,t5,t6,t7)).set k.toNat p) (bO (t1,t2,t3,t4,t5,t6,t7) k)).1,(bR u (t1,t2,t3,t4,t5,t6,t7) ((aB (aj,ak,an,ao,ah,aq,ai,ar) (t1,t2,t3,t4,t5,t6,t7)).set k.toNat p) (bO (t1,t2,t3,t4,t5,t6,t7) k)).2.1,false):=by rw [hM];unfold pU;rw [hz];rfl
   refine⟨[],[],_,_,_,rfl,az,false,2,(by show false=(aY (aj,ak,an,ao,ah,aq,ai,ar) (t1,t2,t3,t4,t5,t6,t7) k text).2.2;rw [e]),?_,?_,rfl⟩
   ·(show _=gS (aj,ak,an,ao,ah,aq,ai,ar) (t1,t2,t3,t4,t5,t6,t7) k text false);unfold gS;first|(rw [e];rfl)|rfl
   ·(show _=jr (aj,ak,an,ao,ah,aq,ai,ar) (t1,t2,t3,t4,t5,t6,t7) k text false);unfold jr;first|(rw [e];rfl)|rfl
  ·exact absurd (show true=false from w3) Bool.noConfusion
  ·exact absurd (show true=false from w3) Bool.noConfusion
  ·exact absurd (show false=true from w9) Bool.noConfusion
  ·have hz:(bR u (t1,t2,t3,t4,t5,t6,t7) ((aB (aj,ak,an,ao,ah,aq,ai,ar) (t1,t2,t3,t4,t5,t6,t7)).set k.toNat p) (bO (t1,t2,t3,t4,t5,t6,t7) k)).2.2=true:=(show true=(bR u (t1,t2,t3,t4,t5,t6,t7) ((aB (aj,ak,an,ao,ah,aq,ai,ar) (t1,t2,t3,t4,t5,t6,t7)).set k.toNat p) (bO (t1,t2,t3,t4,t5,t6,t7) k)).2.2 from w8).symm
   have hpe:(!(ptrEq p (dW (aj,ak,an,ao,ah,aq,ai,ar) (t1,t2,t3,t4,t5,t6,t7) k)))=true:=kC
   have e:(aY (aj,ak,an,ao,ah,aq,ai,ar) (t1,t2,t3,t4,t5,t6,t7) k text)=(cN (bR u (t1,t2,t3,t4,t5,t6,t7) ((aB (aj,ak,an,ao,ah,aq,ai,ar) (t1,t2,t3,t4,t5,t6,t7)).set k.toNat p) (bO (t1,t2,t3,t4,t5,t6,t7) k)).1 (dW (aj,ak,an,ao,ah,aq,ai,ar) (t1,t2,t3,t4,t5,t6,t7) k),(bR u (t1,t2,t3,t4,t5,t6,t7) ((aB (aj,ak,an,ao,ah,aq,ai,ar) (t1,t2,t3,t4,t5,t6,t7)).set k.toNat p) (bO (t1,t2,t3,t4,t5,t6,t7) k)).2.1,true):=by rw [hM];unfold pU;rw [hz,hpe];rfl
   refine⟨[1000930000,1000930001],[],_,_,_,rfl,az,true,0,(by show true=(aY (aj,ak,an,ao,ah,aq,ai,ar) (t1,t2,t3,t4,t5,t6,t7) k text).2.2;rw [e]),?_,?_,rfl⟩
   ·(show _=gS (aj,ak,an,ao,ah,aq,ai,ar) (t1,t2,t3,t4,t5,t6,t7) k text true);unfold gS;first|(rw [e];rfl)|rfl
   ·(show _=jr (aj,ak,an,ao,ah,aq,ai,ar) (t1,t2,t3,t4,t5,t6,t7) k text true);unfold jr;first|(rw [e];rfl)|rfl
  ·have hz:(bR u (t1,t2,t3,t4,t5,t6,t7) ((aB (aj,ak,an,ao,ah,aq,ai,ar) (t1,t2,t3,t4,t5,t6,t7)).set k.toNat p) (bO (t1,t2,t3,t4,t5,t6,t7) k)).2.2=true:=(show true=(bR u (t1,t2,t3,t4,t5,t6,t7) ((aB (aj,ak,an,ao,ah,aq,ai,ar) (t1,t2,t3,t4,t5,t6,t7)).set k.toNat p) (bO (t1,t2,t3,t4,t5,t6,t7) k)).2.2 from w8).symm
   have hpe:(!(ptrEq p (dW (aj,ak,an,ao,ah,aq,ai,ar) (t1,t2,t3,t4,t5,t6,t7) k)))=false:=gP
   have e:(aY (aj,ak,an,ao,ah,aq,ai,ar) (t1,t2,t3,t4,t5,t6,t7) k text)=((bR u (t1,t2,t3,t4,t5,t6,t7) ((aB (aj,ak,an,ao,ah,aq,ai,ar) (t1,t2,t3,t4,t5,t6,t7)).set k.toNat p) (bO (t1,t2,t3,t4,t5,t6,t7) k)).1,(bR u (t1,t2,t3,t4,t5,t6,t7) ((aB (aj,ak,an,ao,ah,aq,ai,ar) (t1,t2,t3,t4,t5,t6,t7)).set k.toNat p) (bO (t1,t2,t3,t4,t5,t6,t7) k)).2.1,true):=by rw [hM];unfold pU;rw [hz,hpe];rfl
   refine⟨[1000800000,1000800001],[],_,_,_,rfl,az,true,0,(by show true=(aY (aj,ak,an,ao,ah,aq,ai,ar) (t1,t2,t3,t4,t5,t6,t7) k text).2.2;rw [e]),?_,?_,rfl⟩
   ·(show _=gS (aj,ak,an,ao,ah,aq,ai,ar) (t1,t2,t3,t4,t5,t6,t7) k text true);unfold gS;first|(rw [e];rfl)|rfl
   ·(show _=jr (aj,ak,an,ao,ah,aq,ai,ar) (t1,t2,t3,t4,t5,t6,t7) k text true);unfold jr;first|(rw [e];rfl)|rfl
 ·refine⟨⟨⟨⟨⟨?_,?_⟩,⟨?_,?_⟩,⟨?_,?_⟩,aa,⟨?_,?_⟩,aa,⟨?_,?_⟩,aa,aa⟩,⟨aa,aa,aa,aa,aa,aa,aa,aa⟩,aa⟩,?_,?_⟩,fun x1 w2=>⟨⟨?_,?_⟩,?_,⟨⟨⟨⟨?_,?_⟩,⟨?_,?_⟩,⟨?_,?_⟩,aa,⟨?_,?_⟩,aa,⟨?_,?_⟩,aa,aa⟩,⟨aa,aa,aa,aa,aa,aa⟩,aa⟩,fun x3 w4=>?_,?_,?_⟩,fun x5 w6=>⟨⟨?_,?_⟩,aa,fun w7=>⟨fun w8=>⟨[.s 4,.b 1004],Sq48,rfl,[.s 5,.b 1005],Sq49,rfl,[.s 8,.s 48,.b 1008],[.b 1008],rfl,[.s 9,.s 49,.b 1009],[.b 1009],rfl,[],Sq10,rfl,?_⟩,fun w9=>⟨fun dy=>⟨fun kC=>⟨⟨⟨⟨aa,aa,aa,aa,aa,aa,aa,aa,aa⟩,aa,aa,aa⟩,⟨?_,?_,?_,?_,?_⟩,⟨?_,?_,?_⟩,?_⟩,fun x12 iV=>⟨fun gP=>⟨[.s 4,.b 1004],Sq66,rfl,[.s 5,.b 1005],Sq67,rfl,[.s 8,.s 66,.b 1008],[.b 1008],rfl,[.s 9,.s 67,.b 1009],[.b 1009],rfl,[],Sq10,rfl,?_⟩,fun qN=>?_⟩⟩,fun ki=>?_⟩,fun xk=>?_⟩⟩,fun rV=>⟨fun oN=>⟨fun uL=>⟨⟨⟨⟨aa,aa,aa,aa,aa,aa,aa,aa,aa⟩,aa,aa,aa⟩,⟨?_,?_,?_,?_,?_⟩,⟨?_,?_,?_⟩,?_⟩,fun x21 A3=>⟨fun xM=>⟨[.s 4,.b 1004],Sq66,rfl,[.s 5,.b 1005],Sq67,rfl,[.s 8,.s 66,.b 1008],[.b 1008],rfl,[.s 9,.s 67,.b 1009],[.b 1009],rfl,[],Sq10,rfl,?_⟩,fun rU=>?_⟩⟩,fun w25=>?_⟩,fun w26=>?_⟩⟩⟩⟩
  all_goals first|refine aw ?_|refine ax ?_|exact a8|(dsimp only [ez,fU,eB,fV,ni,nP,j4,k7,cK,dI,gQ];omega)|exact a7|exact absurd (aJ w7) (aJ dy)|exact oP.rd|exact sV|exact oP.sz _ w4|exact hoa.1|(show _<(aj.length:Int);rw [h64];exact hoa.2)|exact oP.n.1|exact oP.n.2.1|exact oP.n.2.2|skip
  ·have c1:decide (gV (aj,ak,an,ao,ah,aq,ai,ar) (t1,t2,t3,t4,t5,t6,t7) k=text)=true:=w7
   have c2:decide (bO (t1,t2,t3,t4,t5,t6,t7) k=bf.many (t1,t2,t3,t4,t5,t6,t7))=true:=w8
   have e:(aY (aj,ak,an,ao,ah,aq,ai,ar) (t1,t2,t3,t4,t5,t6,t7) k text)=((aj,ak,an,ao,ah,aq,ai,ar),(t1,t2,t3,t4,t5,t6,t7),true):=by unfold aY;rw [c1,c2];rfl
   refine⟨[3,4],[],_,_,_,rfl,az,true,0,(by show true=(aY (aj,ak,an,ao,ah,aq,ai,ar) (t1,t2,t3,t4,t5,t6,t7) k text).2.2;rw [e]),?_,?_,rfl⟩
   ·(show _=gS (aj,ak,an,ao,ah,aq,ai,ar) (t1,t2,t3,t4,t5,t6,t7) k text true);unfold gS;first|(rw [e];rfl)|rfl
   ·(show _=jr (aj,ak,an,ao,ah,aq,ai,ar) (t1,t2,t3,t4,t5,t6,t7) k text true);unfold jr;first|(rw [e];rfl)|rfl
  ·exact absurd (aJ w7) (aJ dy)
  ·exact absurd (aJ w7) (aJ dy)
  ·exact absurd (aJ w7) (aJ dy)
  ·have c1:decide (gV (aj,ak,an,ao,ah,aq,ai,ar) (t1,t2,t3,t4,t5,t6,t7) k=text)=true:=w7
   have c2:decide (bO (t1,t2,t3,t4,t5,t6,t7) k=bf.many (t1,t2,t3,t4,t5,t6,t7))=false:=w9
   have c3:decide (gV (aj,ak,an,ao,ah,aq,ai,ar) (t1,t2,t3,t4,t5,t6,t7) k≠text)=false:=xk
   have e:(aY (aj,ak,an,ao,ah,aq,ai,ar) (t1,t2,t3,t4,t5,t6,t7) k text)=pU (aj,ak,an,ao,ah,aq,ai,ar) (t1,t2,t3,t4,t5,t6,t7) (aB (aj,ak,an,ao,ah,aq,ai,ar) (t1,t2,t3,t4,t5,t6,t7)) k.toNat (dW (aj,ak,an,ao,ah,aq,ai,ar) (t1,t2,t3,t4,t5,t6,t7) k) (bO (t1,t2,t3,t4,t5,t6,t7) k) (dW (aj,ak,an,ao,ah,aq,ai,ar) (t1,t2,t3,t4,t5,t6,t7) k):=by unfold aY;rw [c1,c2,c3];rfl
   refine joinTail tail (((aj,ak,an,ao,ah,aq,ai,ar),dW (aj,ak,an,ao,ah,aq,ai,ar) (t1,t2,t3,t4,t5,t6,t7) k)) [] ((⟨oP,⟨hg,hd⟩,e⟩)) ?_
   repeat' (first|exact trivial|rfl|exact rfl|exact fP ZA0.symm|apply And.intro)
  ·have c1:decide (gV (aj,ak,an,ao,ah,aq,ai,ar) (t1,t2,t3,t4,t5,t6,t7) k=text)=false:=rV
   have c3:decide (gV (aj,ak,an,ao,ah,aq,ai,ar) (t1,t2,t3,t4,t5,t6,t7) k≠text)=true:=oN
   have c4:decide (text≠⟨#[]⟩)=true:=uL
   have c5:(!(bd (aj,ak,an,ao,ah,aq,ai,ar) text 0).2.2)=true:=xM
   have e:(aY (aj,ak,an,ao,ah,aq,ai,ar) (t1,t2,t3,t4,t5,t6,t7) k text)=((aj,ak,an,ao,ah,aq,ai,ar),(t1,t2,t3,t4,t5,t6,t7),false):=by unfold aY;rw [c1,c3,c4,c5];rfl
   have e2:(bd (aj,ak,an,ao,ah,aq,ai,ar) text 0).1=(aj,ak,an,ao,ah,aq,ai,ar):=by
    rcases jM (aj,ak,an,ao,ah,aq,ai,ar) text 0 with ⟨_,h⟩ |⟨_,h,_⟩
    ·exact h
    ·rw [h] at c5;cases c5
   refine⟨[],[],_,_,_,rfl,az,false,2,(by show false=(aY (aj,ak,an,ao,ah,aq,ai,ar) (t1,t2,t3,t4,t5,t6,t7) k text).2.2;rw [e]),?_,?_,rfl⟩
   ·(show _=gS (aj,ak,an,ao,ah,aq,ai,ar) (t1,t2,t3,t4,t5,t6,t7) k text false);unfold gS;first|(rw [e];rfl)|(rw [e];exact congrArg (fun x:ay=>GD x++[AV.zz,AV.zz]) e2)|rfl
   ·(show _=jr (aj,ak,an,ao,ah,aq,ai,ar) (t1,t2,t3,t4,t5,t6,t7) k text false);unfold jr;first|(rw [e];rfl)|(rw [e];exact congrArg (fun x:ay=>GD x++[AV.zz,AV.zz]) e2)|rfl
  ·have c1:decide (gV (aj,ak,an,ao,ah,aq,ai,ar) (t1,t2,t3,t4,t5,t6,t7) k=text)=false:=rV
   have c3:decide (gV (aj,ak,an,ao,ah,aq,ai,ar) (t1,t2,t3,t4,t5,t6,t7) k≠text)=true:=oN
   have c4:decide (text≠⟨#[]⟩)=true:=uL
   have c5:(!(bd (aj,ak,an,ao,ah,aq,ai,ar) text 0).2.2)=false:=rU
   have hws:=DM (text:=text) (lv:=0) oP
   have e:(aY (aj,ak,an,ao,ah,aq,ai,ar) (t1,t2,t3,t4,t5,t6,t7) k text)=pU (bd (aj,ak,an,ao,ah,aq,ai,ar) text 0).1 (t1,t2,t3,t4,t5,t6,t7) (aB (aj,ak,an,ao,ah,aq,ai,ar) (t1,t2,t3,t4,t5,t6,t7)) k.toNat (bd (aj,ak,an,ao,ah,aq,ai,ar) text 0).2.1 (bO (t1,t2,t3,t4,t5,t6,t7) k) (dW (aj,ak,an,ao,ah,aq,ai,ar) (t1,t2,t3,t4,t5,t6,t7) k):=by unfold aY;rw [c1,c3,c4,c5];rfl
   refine joinTail tail (((bd (aj,ak,an,ao,ah,aq,ai,ar) text 0).1,(bd (aj,ak,an,ao,ah,aq,ai,ar) text 0).2.1)) [] ((⟨hws.wf,⟨(by show (bd (aj,ak,an,ao,ah,aq,ai,ar) text 0).1.gone.length≤1046000;rw [hws.gone];exact hg),(by show (bd (aj,ak,an,ao,ah,aq,ai,ar) text 0).1.dead.length≤1046000;rw [hws.dead];exact hd)⟩,e⟩)) ?_
   repeat' (first|exact trivial|rfl|exact rfl|exact fP ZA0.symm|apply And.intro)
  ·have c1:decide (gV (aj,ak,an,ao,ah,aq,ai,ar) (t1,t2,t3,t4,t5,t6,t7) k=text)=false:=rV
   have c3:decide (gV (aj,ak,an,ao,ah,aq,ai,ar) (t1,t2,t3,t4,t5,t6,t7) k≠text)=true:=oN
   have c4:decide (text≠⟨#[]⟩)=false:=w25
   have e:(aY (aj,ak,an,ao,ah,aq,ai,ar) (t1,t2,t3,t4,t5,t6,t7) k text)=pU (aj,ak,an,ao,ah,aq,ai,ar) (t1,t2,t3,t4,t5,t6,t7) (aB (aj,ak,an,ao,ah,aq,ai,ar) (t1,t2,t3,t4,t5,t6,t7)) k.toNat bN (bO (t1,t2,t3,t4,t5,t6,t7) k) (dW (aj,ak,an,ao,ah,aq,ai,ar) (t1,t2,t3,t4,t5,t6,t7) k):=by unfold aY;rw [c1,c3,c4];rfl
   refine joinTail tail (((aj,ak,an,ao,ah,aq,ai,ar),bN)) [] ((⟨oP,⟨hg,hd⟩,e⟩)) ?_
   repeat' (first|exact trivial|rfl|exact rfl|exact fP ZA0.symm|apply And.intro)
  ·exact absurd (aA rV) (aA w26)
end GL
namespace GL
def dx:List Pt→ay→ay
 |[],s=>s
 |p::l,s=>dx l (cN s p)
theorem C1:∀{l:List Pt}{s:ay},s.wf→(dx l s).wf∧(dx l s).gone.length≤s.gone.length+l.length∧(dx l s).dead.length≤s.dead.length+l.length
 |[],s,h=>⟨h,ZB5 _,ZB5 _⟩
 |o::l,s,h=>by
  have h1:=C1 (l:=l) (qt (p:=o) h)
  have h2:=pj s o
  rw [ZA1]
  exact⟨h1.1,by have:=h1.2.1;show (dx l (cN s o)).gone.length≤_;omega,by have:=h1.2.2;show (dx l (cN s o)).dead.length≤_;omega⟩
theorem wY (s:ay) (p:Pt):(cN s p).cj=s.cj:=by
 unfold cN
 cases au p with
 |true=>rfl
 |false=>
  cases decide (p.2.1≤s.ca) with
  |true=>rfl
  |false=>
   cases decide (p.2.1<s.cj) with
   |true=>rfl
   |false=>rfl
theorem yN:∀(l:List Pt) (s:ay),(dx l s).cj=s.cj
 |[],_=>rfl
 |p::l,s=>(yN l (cN s p)).trans (wY s p)
theorem I4:∀(l stays:List Pt) (s:ay),(dY l stays s).cj=s.cj
 |[],_,_=>rfl
 |p::l,stays,s=>by
  refine (I4 l stays _).trans ?_
  cases gY stays p with
  |true=>rfl
  |false=>exact wY s p
theorem IA {s:ay}{t:bf}{l:List Pt}{many:Int}(h:s.wf):(bR s t l many).1.cj=s.cj:=by
 unfold bR
 have h1:=wP (f:=3) (t:=t) (d:=bj many) (lv:=1) (l:=l.take many.toNat) (sy:=[]) h
 cases hf:mr 3 s t (bj many) 1 (l.take many.toNat) [] with
 |mk s' r=>
  rw [hf] at h1
  cases r with
  |none=>exact h1.cj
  |some q=>obtain⟨x,y⟩:=q;exact (I4 _ _ s').trans h1.cj
theorem CL {s:ay}{t:bf}{l:List Pt}{many:Int}(h:s.wf) (hz:(bR s t l many).2.2=false):uq s (bR s t l many).1:=by
 unfold bR at hz ⊢
 have h1:=wP (f:=3) (t:=t) (d:=bj many) (lv:=1) (l:=l.take many.toNat) (sy:=[]) h
 cases hf:mr 3 s t (bj many) 1 (l.take many.toNat) [] with
 |mk s' r=>
  rw [hf] at h1 hz
  cases r with
  |none=>exact h1
  |some q=>cases hz
def UB (s:ay) (t:bf) (many:Int):ay×bf×Bool:=
 bif !(bR s t (aB s t) many).2.2 then ((bR s t (aB s t) many).1,t,false)
 else (dx ((aB s t).drop many.toNat) (bR s t (aB s t) many).1,(bR s t (aB s t) many).2.1,true)
def cG (s:ay) (t:bf) (many:Int):ay×bf×Bool:=bif decide (many=t.many) then (s,t,true) else UB s t many
theorem aeW {s:ay}{t:bf}{many:Int}(h:decide (many=t.many)=true):cG s t many=(s,t,true):=by unfold cG;rw [h];rfl
theorem aeV {s:ay}{t:bf}{many:Int}(h:decide (many=t.many)=false) (h2:(!(bR s t (aB s t) many).2.2)=true):cG s t many=((bR s t (aB s t) many).1,t,false):=by unfold cG UB;rw [h,h2];rfl
theorem aeU {s:ay}{t:bf}{many:Int}(h:decide (many=t.many)=false) (h2:(!(bR s t (aB s t) many).2.2)=false):cG s t many=(dx ((aB s t).drop many.toNat) (bR s t (aB s t) many).1,(bR s t (aB s t) many).2.1,true):=by unfold cG UB;rw [h,h2];rfl
theorem acL (a b l:Int) (s:ByteArray):aZ (gw a b l s).1=true:=by
 cases h1:iB s.size 1 128 with
 |false=>rw [BX h1];decide
 |true=>cases h2:aZ (a,b,(s.size:Int),qQ s,l) with
  |false=>rw [BW h2];decide
  |true=>rw [BV h1 h2];exact h2
theorem FV (s:ay) (text:ByteArray) (lv:Int):aZ (bd s text lv).2.1=true:=by
 cases h:decide (db s text lv<0) with
 |true=>rw [nD rfl h];rfl
 |false=>cases h2: !(gw (db s text lv) s.cj lv text).2 with
  |true=>rw [mC rfl h h2];rfl
  |false=>rw [pb rfl h h2];exact acL _ _ _ _
theorem aex {s:ay}{l:List Pt}{lv:Int}{o:Pt}(h:aZ o=true):aZ (ef s l lv o).2.1=true:=by
 cases h1:nY l with
 |true=>rw [JF h1];rfl
 |false=>cases h2:fE s l o with
  |true=>rw [JE h1 h2];exact h
  |false=>rw [tU h1 h2];exact FV _ _ _
theorem MZ {lv:Int}{kc l:List Pt}(hw:∀q∈kc,aZ q=true):∀{f:Nat}{s s':ay}{i:Nat}{nx sy n y:List Pt},fJ f s lv kc l i nx sy=(s',some (n,y))→(∀q∈nx,aZ q=true)→∀q∈n,aZ q=true
 |0,s,s',i,nx,sy,n,y,h,hn=>by cases h;exact hn
 |f+1,s,s',i,nx,sy,n,y,h,hn=>by
  unfold fJ at h
  cases hc:decide ((i:Int)*4<l.length) with
  |false=>rw [hc] at h;cases h;exact hn
  |true=>
   rw [hc,cond_true] at h
   cases hf: !(ef s (qR l i) lv (nth ae kc i)).2.2 with
   |true=>rw [hf] at h;cases h
   |false=>
    rw [hf,cond_false] at h
    refine MZ hw h fun q hq=>?_
    rcases ZB4.1 hq with hq |hq
    ·exact hn q hq
    ·rw [ZC7.1 hq];exact aex (oE hw i)
theorem S5 {t:bf}{d:Int}(ht:t.rd):∀{f:Nat}{s s':ay}{lv:Int}{l sy n y:List Pt},mr f s t d lv l sy=(s',some (n,y))→(∀q∈l,aZ q=true)→∀q∈n,aZ q=true
 |0,s,s',lv,l,sy,n,y,h,hn=>by cases h;exact hn
 |f+1,s,s',lv,l,sy,n,y,h,hn=>by
  unfold mr at h
  cases hc:decide (lv≤d) with
  |false=>rw [hc] at h;cases h;exact hn
  |true=>
   rw [hc,cond_true] at h
   cases hf:fJ 5 s lv (dM s t d lv) (eL l) 0 [] sy with
   |mk u r=>
    rw [hf] at h
    cases r with
    |none=>cases h
    |some q=>exact S5 ht h (MZ (Y4 ht) hf fun _ h=>by cases h)
structure bf.ok (t:bf):Prop where
 rd:t.rd
 m0:0≤t.many
 m1:t.many≤16
theorem P5:nB.ok:=⟨⟨by decide,by decide⟩,by decide,by decide⟩
theorem S4 {s:ay}{t:bf}{l:List Pt}{many:Int}(ht:t.rd) (hl:∀q∈l,aZ q=true) (h0:0≤many) (h1:many≤16):(bR s t l many).2.1.ok:=by
 unfold bR
 cases hf:mr 3 s t (bj many) 1 (l.take many.toNat) [] with
 |mk u r=>
  cases r with
  |none=>exact P5
  |some q=>
   have h:=S5 ht hf fun q hq=>hl q (ZE6 hq)
   refine⟨⟨(pq many).2,?_⟩,h0,h1⟩
   show aZ (rootOf q.1)=true
   unfold rootOf
   cases decide ((q.1.length:Int)>0) with
   |true=>exact oE h 0
   |false=>rfl
theorem uT {s:ay}{t:bf}(h:t.rd) {k:Nat}{p:Pt}(hp:aZ p=true):∀q∈(aB s t).set k p,aZ q=true:=by
 intro q hq
 rcases List.mem_or_eq_of_mem_set hq with hq |hq
 ·exact lD h q hq
 ·rw [hq];exact hp
structure ay.wg (s:ay) (n:Nat):Prop where
 wf:s.wf
 g:s.gone.length≤n
 d:s.dead.length≤n
 t:s.cj≤((1000+n:Nat):Int)
theorem ay.wg.mono {s:ay}{n m:Nat}(h:s.wg n) (hm:n≤m):s.wg m:=⟨h.wf,ZB0 h.g hm,ZB0 h.d hm,by have:=h.t;omega⟩
theorem uq.wg {s u:ay}{n:Nat}(h:uq s u) (hs:s.wg n):u.wg n:=⟨h.wf,by rw [h.gone];exact hs.g,by rw [h.dead];exact hs.d,by rw [h.cj];exact hs.t⟩
theorem OA {s:ay}{t:bf}{l:List Pt}{k:Nat}{p old:Pt}{many:Int}{n:Nat}(hs:s.wg n) (ht:t.rd) (hl:∀q∈l.set k p,aZ q=true) (h0:0≤many) (h1:many≤16):(pU s t l k p many old).1.wg (n+6)∧(pU s t l k p many old).2.1.ok∧((pU s t l k p many old).2.2=false→uq s (pU s t l k p many old).1):=by
 have h2:=FE (t:=t) (l:=l.set k p) (many:=many) hs.wf
 have h3:=S4 (s:=s) ht hl h0 h1
 have hg:=hs.g;have hd:=hs.d
 unfold pU
 cases hz: !(bR s t (l.set k p) many).2.2 with
 |true=>
  have h4:=CL hs.wf (J8 hz)
  exact⟨(h4.wg hs).mono (by omega),h3,fun _=>h4⟩
 |false=>
  refine⟨?_,h3,fun h=>by cases h⟩
  cases !(ptrEq p old) with
  |true=>
   have h5:=pj (bR s t (l.set k p) many).1 old
   exact⟨qt h2.1,by show (cN _ old).gone.length≤_;omega,by show (cN _ old).dead.length≤_;omega,by show (cN _ old).cj≤_;rw [wY,IA hs.wf];have:=hs.t;omega⟩
  |false=>exact⟨h2.1,by show (bR s t (l.set k p) many).1.gone.length≤_;omega,by show (bR s t (l.set k p) many).1.dead.length≤_;omega,by show (bR s t (l.set k p) many).1.cj≤_;rw [IA hs.wf];have:=hs.t;omega⟩
theorem nt {s:ay}{t:bf}{k:Int}{text:ByteArray}{n:Nat}(hs:s.wg n) (ht:t.ok) (hk0:0≤k) (hk:k≤15):(aY s t k text).1.wg (n+6)∧(aY s t k text).2.1.ok∧((aY s t k text).2.2=false→uq s (aY s t k text).1):=by
 have CW:0≤bO t k:=by unfold bO;have:=ht.m0;omega
 have hm1:bO t k≤16:=by unfold bO;have:=ht.m1;omega
 have hold:aZ (dW s t k)=true:=oE (lD ht.rd) _
 have hrefl:uq s s:=⟨hs.wf,rfl,rfl,rfl,rfl,rfl⟩
 unfold aY
 cases decide (gV s t k=text)&&decide (bO t k=t.many) with
 |true=>exact⟨hs.mono (by omega),ht,fun h=>by cases h⟩
 |false=>
  cases decide (gV s t k≠text) with
  |true=>
   cases decide (text≠⟨#[]⟩) with
   |true=>
    have hw:=DM (text:=text) (lv:=0) hs.wf
    cases hz: !(bd s text 0).2.2 with
    |true=>exact⟨hs.mono (by omega),ht,fun _=>hrefl⟩
    |false=>
     have h:=OA (old:=dW s t k) (hw.wg hs) ht.rd (uT (s:=s) (k:=k.toNat) ht.rd (FV s text 0)) CW hm1
     exact⟨h.1,h.2.1,fun hh=>hw.trans (h.2.2 hh)⟩
   |false=>exact OA hs ht.rd (uT ht.rd (by decide)) CW hm1
  |false=>exact OA hs ht.rd (uT ht.rd hold) CW hm1
theorem FQ {s:ay}{t:bf}{many:Int}{n:Nat}(hs:s.wg n) (ht:t.ok) (h0:0≤many) (h1:many≤16):(cG s t many).1.wg (n+21)∧(cG s t many).2.1.ok∧((cG s t many).2.2=false→uq s (cG s t many).1):=by
 have h2:=FE (t:=t) (l:=aB s t) (many:=many) hs.wf
 have h3:=S4 (s:=s) ht.rd (lD (s:=s) ht.rd) h0 h1
 have hg:=hs.g;have hd:=hs.d
 unfold cG
 cases decide (many=t.many) with
 |true=>exact⟨hs.mono (by omega),ht,fun h=>by cases h⟩
 |false=>
  show (UB s t many).1.wg (n+21)∧(UB s t many).2.1.ok∧((UB s t many).2.2=false→uq s (UB s t many).1)
  unfold UB
  cases hz: !(bR s t (aB s t) many).2.2 with
  |true=>
   have h4:=CL hs.wf (J8 hz)
   exact⟨(h4.wg hs).mono (by omega),ht,fun _=>h4⟩
  |false=>
   have h5:=C1 (l:=(aB s t).drop many.toNat) h2.1
   have h6:((aB s t).drop many.toNat).length≤16:=by rw [ZD0,gi ht.rd];omega
   refine⟨⟨h5.1,?_,?_,?_⟩,h3,fun h=>by cases h⟩
   ·show (dx ((aB s t).drop many.toNat) (bR s t (aB s t) many).1).gone.length≤_;omega
   ·show (dx ((aB s t).drop many.toNat) (bR s t (aB s t) many).1).dead.length≤_;omega
   ·show (dx ((aB s t).drop many.toNat) (bR s t (aB s t) many).1).cj≤_;rw [yN,IA hs.wf];have:=hs.t;omega
end GL
namespace GL
theorem size_pos {s:ByteArray}(h:s≠⟨#[]⟩):1≤s.size:=by
 cases s with
 |mk a=>
  refine Nat.one_le_iff_ne_zero.2 fun e=>h ?_
  have:a= #[]:=Array.eq_empty_of_size_eq_zero e
  rw [this]
def pcF:Nat→ByteArray→List ByteArray
 |0,_=>[]
 |f+1,s=>bif decide ((s.size:Int)>128) then s.extract 0 128::pcF f (s.extract 128 s.size) else bif decide (s≠⟨#[]⟩) then [s] else []
def kE (s:ByteArray):List ByteArray:=pcF (s.size+1) s
theorem acR {f:Nat}{s:ByteArray}(h:decide ((s.size:Int)>128)=true):pcF (f+1) s=s.extract 0 128::pcF f (s.extract 128 s.size):=by rw [pcF,h];rfl
theorem acQ {f:Nat}{s:ByteArray}(h:decide ((s.size:Int)>128)=false) (h2:decide (s≠⟨#[]⟩)=true):pcF (f+1) s=[s]:=by rw [pcF,h,h2];rfl
theorem acP {f:Nat}{s:ByteArray}(h:decide ((s.size:Int)>128)=false) (h2:decide (s≠⟨#[]⟩)=false):pcF (f+1) s=[]:=by rw [pcF,h,h2];rfl
theorem afx:∀(f:Nat) (s:ByteArray),(pcF f s).length≤f
 |0,_=>ZB5 _
 |f+1,s=>by
  unfold pcF
  cases decide ((s.size:Int)>128) with
  |true=>show (_::pcF f _).length≤_;rw [ZA1];have:=afx f (s.extract 128 s.size);omega
  |false=>cases decide (s≠⟨#[]⟩) with
   |true=>show 1≤f+1;omega
   |false=>exact ZA7 _
theorem YJ {u:ByteArray}(h:(u.size:Int)>0):(u.extract 0 ((u.size:Int)-1).toNat).size+1=u.size:=by
 rw [ZC5,Nat.min_eq_left (by omega)];omega
def lL (s:ByteArray):Prop:=s.size≤1000000
def lF (s:ByteArray):AV:=.s (.xs 0 1 0 (kE s).length)
def nT (s:ByteArray):List AV:=[.rs ab (kE s)]
def qy:ct where
 A:=[.s .str]
 B:=[]
 pre:=fun x b=>lL x
 r:=fun x b _=>lF x
 o:=fun x b _=>nT x
 nf:=1
theorem ID:Has Tryz.prog 123 qy:=by
 refine Has.fu zT zF zF (l:=[]) trivial Tryz.func123 ?_
 rintro (s:ByteArray) _ (hp:lL s)
 show vc _ _ _ _ (entry [.str s] []) _
 unfold lL at hp
 refine⟨aa,?_⟩
 all_goals first|refine aw ?_|refine ax ?_|exact a8|exact a7|skip
 refine cO (l:=[]) (ex:=zT) (wr:=zF) (pt:=zF) trivial [] (fun y:Nat×List ByteArray×ByteArray=>[(.s 0,.str y.2.2),(.s 3,.s (.xs 1004 1 0 y.2.1.length)),(.b 1004,.rs ab y.2.1)]) (fun y=>y.2.2.size<y.1∧y.1≤s.size+1∧y.2.1.length+y.1≤s.size+1∧y.2.1++pcF y.1 y.2.2=kE s) (fun y=>y.1) (s.size+1,[],s) [] ⟨ZD9 _,ZB5 _,by show 0+(s.size+1)≤s.size+1;omega,rfl⟩ dN ?_
 rintro⟨f,out,u⟩ ⟨(hf:u.size<f),(hf1:f≤s.size+1),(hol:out.length+f≤s.size+1),(he:out++pcF f u=kE s)⟩
 refine⟨fun w1=>⟨⟨?_,?_,?_⟩,aa,⟨⟨?_,?_⟩,?_,?_⟩,⟨?_,?_,?_⟩,?_⟩,fun w2=>⟨fun w3=>⟨aa,⟨⟨?_,?_⟩,?_,?_⟩,?_⟩,fun w4=>?_⟩⟩
 all_goals first|refine aw ?_|refine ax ?_|exact a8|exact a7|skip
 ·obtain⟨g,rfl⟩:∃g,f=g+1:=⟨f-1,by omega⟩
  have dj:decide ((u.size:Int)>128)=true:=w1
  have al8:=aJ dj
  refine⟨(g,out++[u.extract 0 128],u.extract 128 u.size),[(1004,1012)],?_,?_,?_⟩
  rotate_right
  ·exact bW
  ·refine⟨by show (u.extract 128 u.size).size<g;rw [ZC5];omega,by show g≤s.size+1;omega,by show (out++[u.extract 0 128]).length+g≤s.size+1;rw [ZA0];show out.length+1+g≤_;omega,?_⟩
   rw [←he,acR dj,ZD2];rfl
  ·exact ZD9 g
 ·obtain⟨g,rfl⟩:∃g,f=g+1:=⟨f-1,by omega⟩
  have e:kE s=out++[u]:=by rw [←he,acQ w2 w3]
  refine⟨[1020],[],_,_,_,rfl,az,(),aa,?_,?_,rfl⟩
  ·(show _=lF s);unfold lF;first|(rw [e,ZA0];rfl)|(rw [e];rfl)|rfl
  ·(show _=nT s);unfold nT;first|(rw [e,ZA0];rfl)|(rw [e];rfl)|rfl
 ·obtain⟨g,rfl⟩:∃g,f=g+1:=⟨f-1,by omega⟩
  have e:kE s=out:=by rw [←he,acP w2 w4,ZE5]
  refine⟨[1004],[],_,_,_,rfl,az,(),aa,?_,?_,rfl⟩
  ·(show _=lF s);unfold lF;first|(rw [e];rfl)|rfl
  ·(show _=nT s);unfold nT;first|(rw [e];rfl)|rfl
def zrB (s:ByteArray):Bool:=decide ((s.size:Int)>0)&&decide (bM s ((s.size:Int)-1).toNat=0)
def zrF:Nat→ByteArray→ByteArray
 |0,s=>s
 |f+1,s=>bif zrB s then zrF f (s.extract 0 ((s.size:Int)-1).toNat) else s
def zrM (s:ByteArray):ByteArray:=zrF (s.size+1) s
theorem agt {f:Nat}{s:ByteArray}(h:zrB s=true):zrF (f+1) s=zrF f (s.extract 0 ((s.size:Int)-1).toNat):=by rw [zrF,h];rfl
theorem acg {f:Nat}{s:ByteArray}(h:zrB s=false):zrF (f+1) s=s:=by rw [zrF,h];rfl
def qd (s:ByteArray):Prop:=s.size≤1000000
def pO (s:ByteArray):AV:=.s (.str (zrM s))
def abg (s:ByteArray):List AV:=[]
def vX:ct where
 A:=[.s .str]
 B:=[]
 pre:=fun x b=>qd x
 r:=fun x b _=>pO x
 o:=fun x b _=>abg x
theorem S8:Has Tryz.prog 135 vX:=by
 refine Has.fu zT zF zF (l:=[]) trivial Tryz.func135 ?_
 rintro (s:ByteArray) _ (hp:qd s)
 show vc _ _ _ _ (entry [.str s] []) _
 unfold qd at hp
 refine cO (l:=[]) (ex:=zT) (wr:=zF) (pt:=zF) trivial [] (fun y:Nat×ByteArray=>[(.s 0,.str y.2)]) (fun y=>y.2.size<y.1∧y.2.size≤1000000∧zrF y.1 y.2=zrM s) (fun y=>y.1) (s.size+1,s) [] ⟨ZD9 _,hp,rfl⟩ dN ?_
 rintro⟨f,u⟩ ⟨(hf:u.size<f),(hu:u.size≤1000000),(he:zrF f u=zrM s)⟩
 obtain⟨g,rfl⟩:∃g,f=g+1:=⟨f-1,by omega⟩
 refine⟨aa,fun w1=>⟨⟨?_,?_⟩,⟨?_,?_⟩,fun w2=>⟨⟨?_,?_⟩,⟨?_,?_,?_⟩,?_⟩,fun w3=>?_⟩,fun w4=>?_⟩
 all_goals first|refine aw ?_|refine ax ?_|exact a8|exact a7|skip
 ·have hb:zrB u=true:=by unfold zrB;rw [w1,w2];rfl
  have h1:(u.size:Int)>0:=aJ w1
  refine⟨(g,u.extract 0 ((u.size:Int)-1).toNat),[],?_,?_,?_⟩
  rotate_right
  ·exact bW
  ·exact⟨by show (u.extract 0 ((u.size:Int)-1).toNat).size<g;have:=YJ h1;omega,by show (u.extract 0 ((u.size:Int)-1).toNat).size≤1000000;have:=YJ h1;omega,by rw [←he,agt hb]⟩
  ·exact ZD9 g
 ·have hb:zrB u=false:=by unfold zrB;rw [w1,show decide (bM u ((u.size:Int)-1).toNat=0)=false from w3];rfl
  have e:zrM s=u:=by rw [←he,acg hb]
  refine⟨[],[],_,_,_,rfl,az,(),aa,?_,?_,rfl⟩
  ·(show _=pO s);unfold pO;first|(rw [e];rfl)|rfl
  ·rfl
 ·have hb:zrB u=false:=by unfold zrB;rw [show decide ((u.size:Int)>0)=false from w4];rfl
  have e:zrM s=u:=by rw [←he,acg hb]
  refine⟨[],[],_,_,_,rfl,az,(),aa,?_,?_,rfl⟩
  ·(show _=pO s);unfold pO;first|(rw [e];rfl)|rfl
  ·rfl
def kI (n:Int):ByteArray:=fb (List.replicate (max 0 n).toNat 0)
def jQ (n:Int):Prop:=n≤100000
def s7 (n:Int):AV:=.s (.str (kI n))
def RZ (n:Int):List AV:=[]
def iF:ct where
 A:=[.s .int]
 B:=[]
 pre:=fun x b=>jQ x
 r:=fun x b _=>s7 x
 o:=fun x b _=>RZ x
theorem tK:Has Tryz.prog 136 iF:=by
 refine Has.fu zT zF zF (l:=[]) trivial Tryz.func136 ?_
 rintro (n:Int) _ (hp:jQ n)
 show vc _ _ _ _ (entry [.int n] []) _
 have hn:n≤100000:=hp
 refine⟨⟨?_,⟨?_,?_⟩⟩,⟨⟨?_,?_⟩,?_⟩⟩
 all_goals first|refine aw ?_|refine ax ?_|exact a8|exact a7|skip
 refine⟨[],[],_,_,_,rfl,az,(),aa,?_,?_,rfl⟩
 ·(show _=s7 n);unfold s7;first|rfl
 ·rfl
end GL
end Go.Proofs.YtkgpljpmdkflmaaGreatDoor
