/- A drawn law returns true for every code (its row lists package variables, tied by the card): part 22. -/
import Derived.Test.YtnkbdhldiinfdaaGreatDoorPan
import Derived.Test.YtnkbdhldiinfdaaGreatDoorPau
set_option maxHeartbeats 20000000
set_option maxRecDepth 100000
set_option linter.all false
namespace Go.Proofs.YtnkbdhldiinfdaaGreatDoor
namespace GL
structure um (s u:ay):Prop where
 wf:u.wf
 gone:u.gone=s.gone
 dead:u.dead=s.dead
 cg:u.cg=s.cg
 bZ:u.bZ=s.bZ
 same:u.same=s.same
theorem um.trans {a b c:ay}(h:um a b) (h2:um b c):um a c:=⟨h2.wf,h2.gone.trans h.gone,h2.dead.trans h.dead,h2.cg.trans h.cg,h2.bZ.trans h.bZ,h2.same.trans h.same⟩
theorem ab4 {s:ay}{l:List Pt}{lv:Int}{o:Pt}(h:s.wf):um s (ee s l lv o).1:=by
 obtain⟨h1,h2,h3,h4,h5⟩:=C6 s l lv o
 exact⟨PQ h,h1,h2,h3,h4,h5⟩
theorem DL {s:ay}{text:ByteArray}{lv:Int}(h:s.wf):um s (bd s text lv).1:=by
 refine⟨AY h,?_,?_,?_,?_,?_⟩<;>
 ·rcases jL s text lv with ⟨_,e⟩ |⟨k,_,e,_⟩<;>rw [e]<;>rfl
theorem JD {lv:Int}{ka l:List Pt}:∀{f:Nat}{s:ay}{i:Nat}{nx sy:List Pt},s.wf→um s (fI f s lv ka l i nx sy).1
 |0,s,i,nx,sy,h=>⟨h,rfl,rfl,rfl,rfl,rfl⟩
 |f+1,s,i,nx,sy,h=>by
  unfold fI
  cases decide ((i:Int)*4<l.length) with
  |false=>exact⟨h,rfl,rfl,rfl,rfl,rfl⟩
  |true=>
   have h1:=ab4 (l:=qO l i) (lv:=lv) (o:=nth ae ka i) h
   cases !(ee s (qO l i) lv (nth ae ka i)).2.2 with
   |true=>exact h1
   |false=>exact h1.trans (JD h1.wf)
theorem wM {t:bf}{d:Int}:∀{f:Nat}{s:ay}{lv:Int}{l sy:List Pt},s.wf→um s (mm f s t d lv l sy).1
 |0,s,lv,l,sy,h=>⟨h,rfl,rfl,rfl,rfl,rfl⟩
 |f+1,s,lv,l,sy,h=>by
  unfold mm
  cases decide (lv≤d) with
  |false=>exact⟨h,rfl,rfl,rfl,rfl,rfl⟩
  |true=>
   have h1:=JD (f:=5) (lv:=lv) (ka:=dL s t d lv) (l:=eK l) (i:=0) (nx:=[]) (sy:=sy) h
   simp only [cond_true]
   cases hf:fI 5 s lv (dL s t d lv) (eK l) 0 [] sy with
   |mk s' r=>
    rw [hf] at h1
    cases r with
    |none=>exact h1
    |some q=>exact h1.trans (wM h1.wf)
theorem C1:∀{l sy:List Pt}{s:ay},s.wf→(dX l sy s).wf∧(dX l sy s).gone.length≤s.gone.length+l.length∧(dX l sy s).dead.length≤s.dead.length+l.length
 |[],sy,s,h=>⟨h,ZB5 _,ZB5 _⟩
 |o::l,sy,s,h=>by
  unfold dX
  cases gW sy o with
  |true=>
   have:=C1 (l:=l) (sy:=sy) h
   rw [ZA1]
   exact⟨this.1,by have:=this.2.1;show (dX l sy s).gone.length≤_;omega,by have:=this.2.2;show (dX l sy s).dead.length≤_;omega⟩
  |false=>
   have h1:=C1 (l:=l) (sy:=sy) (qq (p:=o) h)
   have h2:=pg s o
   rw [ZA1]
   exact⟨h1.1,by have:=h1.2.1;show (dX l sy (cM s o)).gone.length≤_;omega,by have:=h1.2.2;show (dX l sy (cM s o)).dead.length≤_;omega⟩
theorem FF {s:ay}{t:bf}{l:List Pt}{many:Int}(h:s.wf):(bQ s t l many).1.wf∧(bQ s t l many).1.gone.length≤s.gone.length+5∧(bQ s t l many).1.dead.length≤s.dead.length+5∧((bQ s t l many).2.2=false→(bQ s t l many).1.gone=s.gone∧(bQ s t l many).1.dead=s.dead):=by
 unfold bQ
 have h1:=wM (f:=3) (t:=t) (d:=bj many) (lv:=1) (l:=l.take many.toNat) (sy:=[]) h
 cases hf:mm 3 s t (bj many) 1 (l.take many.toNat) [] with
 |mk s' r=>
  rw [hf] at h1
  have h1:um s s':=h1
  cases r with
  |none=>exact⟨h1.wf,by show s'.gone.length≤_;rw [h1.gone];omega,by show s'.dead.length≤_;rw [h1.dead];omega,fun _=>⟨h1.gone,h1.dead⟩⟩
  |some q=>
   have h2:=C1 (l:=bw s t) (sy:=q.2) h1.wf
   have h3:=IT s t
   rw [h1.gone,h1.dead] at h2
   exact⟨h2.1,ZB0 h2.2.1 (by omega),ZB0 h2.2.2 (by omega),fun h=>by cases h⟩
def pS (s:ay) (t:bf) (leaves:List Pt) (k:Nat) (p:Pt) (many:Int) (old:Pt):ay×bf×Bool:=
 bif !(bQ s t (leaves.set k p) many).2.2 then ((bQ s t (leaves.set k p) many).1,(bQ s t (leaves.set k p) many).2.1,false)
 else (bif !(ptrEq p old) then cM (bQ s t (leaves.set k p) many).1 old else (bQ s t (leaves.set k p) many).1,(bQ s t (leaves.set k p) many).2.1,true)
def bN (t:bf) (k:Int):Int:=max t.many (k+1)
def dV (s:ay) (t:bf) (k:Int):Pt:=nth ae (aB s t) k.toNat
def gU (s:ay) (t:bf) (k:Int):ByteArray:=(bF s (dV s t k)).1
def aY (s:ay) (t:bf) (k:Int) (text:ByteArray):ay×bf×Bool:=
 bif decide (gU s t k=text)&&decide (bN t k=t.many) then (s,t,true) else
 bif decide (gU s t k≠text) then
  (bif decide (text≠⟨#[]⟩) then
   (bif !(bd s text 0).2.2 then (s,t,false) else pS (bd s text 0).1 t (aB s t) k.toNat (bd s text 0).2.1 (bN t k) (dV s t k))
  else pS s t (aB s t) k.toNat bM (bN t k) (dV s t k))
 else pS s t (aB s t) k.toNat (dV s t k) (bN t k) (dV s t k)
def fK (S:ay) (t:bf) (k:Int) (text:ByteArray):Prop:=S.wf∧t.rd∧0≤k∧k≤15∧t.many≤16∧S.gone.length≤1046000∧S.dead.length≤1046000∧text.size≤1000000
def aaV (S:ay) (t:bf) (k:Int) (text:ByteArray) (z:Bool):Prop:=z=(aY S t k text).2.2
def gR (S:ay) (t:bf) (k:Int) (text:ByteArray) (z:Bool):AV:=match z with |true=>.t [.a (kW 0 1 2 5 6 (aY S t k text).1),trA (aY S t k text).2.1,.s (.q true)] |false=>.t [.a (kW 0 1 2 3 4 (aY S t k text).1),trA (aY S t k text).2.1,.s (.q false)]
def jo (S:ay) (t:bf) (k:Int) (text:ByteArray) (z:Bool):List AV:=match z with |true=>[.rs ab (aY S t k text).1.rows,.rs ag (aY S t k text).1.refs,.rs ag (aY S t k text).1.last,.zz,.zz,.rs ae (aY S t k text).1.gone,.rs ae (aY S t k text).1.dead] |false=>GF (aY S t k text).1++[.zz,.zz]
def ez:cn where
 A:=[.a (stB 0 1 2 3 4),.a [.int,.int,.int,.int,.int,.int,.int],.s .int,.s .str]
 B:=[.r ab,.r ag,.r ag,.r ae,.r ae]
 pre:=fun x b=>stW x.1 b∧fK (gP x.1 b) (x.2.1) (x.2.2.1) (x.2.2.2)
 α:=fun _ _=>Bool
 φ:=fun x b z=>aaV (gP x.1 b) (x.2.1) (x.2.2.1) (x.2.2.2) z
 r:=fun x b z=>gR (gP x.1 b) (x.2.1) (x.2.2.1) (x.2.2.2) z
 o:=fun x b z=>jo (gP x.1 b) (x.2.1) (x.2.2.1) (x.2.2.2) z
 nf:=2
 mv:=true
theorem lY:Has Tryz.prog 60 ez:=by
 refine Has.ofP 8 zT zF zF (l:=[(70,ey),(71,eA),(93,nb),(94,j1),(95,cJ)]) ⟨lX,lZ,CQ,wO,gx,aa⟩ Tryz.func60 ?_
 rintro⟨⟨(AU:Nat),(AT:Nat),(AS:Nat),(ao:Int),(AR:Nat),(aq:Int),(AQ:Nat),(ar:Bool)⟩,⟨(t1:Int),(t2:Int),(t3:Int),(t4:Int),(t5:Int),(t6:Int),(t7:Int)⟩,(k:Int),(text:ByteArray)⟩ ⟨(aj:List ByteArray),(ak:List Int),(an:List Int),(ah:List Pt),(ai:List Pt)⟩ ⟨⟨(gC:AU=List.length aj),(gB:AT=List.length ak),(gA:AS=List.length an),(gz:AR=List.length ah),(gy:AQ=List.length ai)⟩,(hp:fK (aj,ak,an,ao,ah,aq,ai,ar) (t1,t2,t3,t4,t5,t6,t7) k text)⟩
 subst gC gB gA gz gy
 show vcP _ _ _ _ 8 _ (entry [.a [.xs 0 1 0 aj.length,.xs 1 1 0 ak.length,.xs 2 1 0 an.length,.int ao,.xs 3 5 0 ah.length,.int aq,.xs 4 5 0 ai.length,.q ar],.a [.int t1,.int t2,.int t3,.int t4,.int t5,.int t6,.int t7],.int k,.str text] [.rs ab aj,.rs ag ak,.rs ag an,.rs ae ah,.rs ae ai])
 obtain⟨oN,sS,hk0,EX,(hm:t7≤16),(hg:ah.length≤1046000),(hd:ai.length≤1046000),hts⟩:=hp
 have oN:ay.wf (aj,ak,an,ao,ah,aq,ai,ar):=oN
 have sS:bf.rd (t1,t2,t3,t4,t5,t6,t7):=sS
 have hwl:=gi (s:=(aj,ak,an,ao,ah,aq,ai,ar)) sS
 have hwo:=lA (s:=(aj,ak,an,ao,ah,aq,ai,ar)) sS
 have hoa:=nT (oC hwo k.toNat)
 have h64:aj.length=64:=oN.n.1
 have ak2:0≤bN (t1,t2,t3,t4,t5,t6,t7) k:=by show 0≤max t7 (k+1);omega
 have ak1:bN (t1,t2,t3,t4,t5,t6,t7) k≤16:=by show max t7 (k+1)≤16;omega
 refine zb (l:=[(70,ey),(71,eA),(93,nb),(94,j1),(95,cJ)]) (ex:=zT) (wr:=zF) (pt:=zF) ⟨lX,lZ,CQ,wO,gx,aa⟩ (fun y:ay×Pt=>[(.s 2,.int k),(.s 4,.s (.bp 1004 0)),(.s 5,.s (.bp 1005 0)),(.s 8,.s (.bp 1008 0)),(.s 9,.s (.bp 1009 0)),(.s 11,.s (.xs 240000 5 0 (aB (aj,ak,an,ao,ah,aq,ai,ar) (t1,t2,t3,t4,t5,t6,t7)).length)),(.s 12,.s (.bp 1012 0)),(.s 15,.int (bN (t1,t2,t3,t4,t5,t6,t7) k)),(.s 16,.s (.bp 1016 0)),(.b 1004,.a (kW 0 1 2 3 4 y.1)),(.b 0,.rs ab y.1.rows),(.b 1,.rs ag y.1.refs),(.b 2,.rs ag y.1.last),(.b 3,.rs ae y.1.gone),(.b 4,.rs ae y.1.dead),(.b 1005,.a [.int t1,.int t2,.int t3,.int t4,.int t5,.int t6,.int t7]),(.b 1008,.a (uF pB.zero)),(.b 1009,.a (uF sV.zero)),(.b 240000,.rs ae (aB (aj,ak,an,ao,ah,aq,ai,ar) (t1,t2,t3,t4,t5,t6,t7))),(.b 1012,.a (EK.AX ae (dV (aj,ak,an,ao,ah,aq,ai,ar) (t1,t2,t3,t4,t5,t6,t7) k))),(.b 1016,.a (EK.AX ae y.2))]) (fun y=>y.1.wf∧(y.1.gone.length≤1046000∧y.1.dead.length≤1046000)∧aY (aj,ak,an,ao,ah,aq,ai,ar) (t1,t2,t3,t4,t5,t6,t7) k text=pS y.1 (t1,t2,t3,t4,t5,t6,t7) (aB (aj,ak,an,ao,ah,aq,ai,ar) (t1,t2,t3,t4,t5,t6,t7)) k.toNat y.2 (bN (t1,t2,t3,t4,t5,t6,t7) k) (dV (aj,ak,an,ao,ah,aq,ai,ar) (t1,t2,t3,t4,t5,t6,t7) k)) (xc 8 (J9 Tryz.f60)) ?_ (fun tail=>?_)
 ·rintro⟨u,p⟩ ⟨(hu:u.wf),⟨(hug:u.gone.length≤1046000),(hud:u.dead.length≤1046000)⟩,(hM:aY (aj,ak,an,ao,ah,aq,ai,ar) (t1,t2,t3,t4,t5,t6,t7) k text=pS u (t1,t2,t3,t4,t5,t6,t7) (aB (aj,ak,an,ao,ah,aq,ai,ar) (t1,t2,t3,t4,t5,t6,t7)) k.toNat p (bN (t1,t2,t3,t4,t5,t6,t7) k) (dV (aj,ak,an,ao,ah,aq,ai,ar) (t1,t2,t3,t4,t5,t6,t7) k))⟩
  have hly:=FF (t:=(t1,t2,t3,t4,t5,t6,t7)) (l:=(aB (aj,ak,an,ao,ah,aq,ai,ar) (t1,t2,t3,t4,t5,t6,t7)).set k.toNat p) (many:=bN (t1,t2,t3,t4,t5,t6,t7) k) hu
  refine⟨⟨?_,?_⟩,?_,⟨⟨tv9,tv8,⟨?_,?_⟩,tv2⟩,⟨?_,?_,?_,?_,?_⟩,?_,?_,?_,?_,?_,?_,?_⟩,fun |false=>fun w1=>⟨fun w2=>⟨[.s 4,.b 1004],Sq85,rfl,[.s 5,.b 1005],Sq86,rfl,[.s 8,.s 85,.b 1008],[.b 1008],rfl,[.s 9,.s 86,.b 1009],[.b 1009],rfl,[],Sq10,rfl,?_⟩,fun w3=>⟨fun w4=>⟨⟨⟨tv9,tv6,aa⟩,⟨?_,?_,?_,?_,?_⟩,⟨?_,?_,?_⟩,?_,?_,?_,?_⟩,fun x5 w6=>⟨[.s 4,.b 1004],Sq93,rfl,[.s 5,.b 1005],Sq94,rfl,[.s 8,.s 93,.b 1008],[.b 1008],rfl,[.s 9,.s 94,.b 1009],[.b 1009],rfl,[],Sq10,rfl,?_⟩⟩,fun w7=>⟨[.s 4,.b 1004],Sq93,rfl,[.s 5,.b 1005],Sq94,rfl,[.s 8,.s 93,.b 1008],[.b 1008],rfl,[.s 9,.s 94,.b 1009],[.b 1009],rfl,[],Sq10,rfl,?_⟩⟩⟩ |true=>fun w8=>⟨fun w9=>⟨[.s 4,.b 1004],Sq85,rfl,[.s 5,.b 1005],Sq86,rfl,[.s 8,.s 85,.b 1008],[.b 1008],rfl,[.s 9,.s 86,.b 1009],[.b 1009],rfl,[],Sq10,rfl,?_⟩,fun dy=>⟨fun kA=>⟨⟨⟨tv9,tv6,aa⟩,⟨?_,?_,?_,?_,?_⟩,⟨?_,?_,?_⟩,?_,?_,?_,?_⟩,fun x12 iU=>⟨[.s 4,.b 1004],Sq93,rfl,[.s 5,.b 1005],Sq94,rfl,[.s 8,.s 93,.b 1008],[.b 1008],rfl,[.s 9,.s 94,.b 1009],[.b 1009],rfl,[],Sq10,rfl,?_⟩⟩,fun gO=>⟨[.s 4,.b 1004],Sq93,rfl,[.s 5,.b 1005],Sq94,rfl,[.s 8,.s 93,.b 1008],[.b 1008],rfl,[.s 9,.s 94,.b 1009],[.b 1009],rfl,[],Sq10,rfl,?_⟩⟩⟩⟩
  all_goals first|refine aw ?_|refine ax ?_|exact a8|(dsimp only [ey,fU,eA,fV,nb,nM,j1,kY,cJ,dH,gP];omega)|exact a7|exact absurd (show true=false from w3) Bool.noConfusion|exact absurd (show false=true from w9) Bool.noConfusion|exact hu|exact sS|exact ZC3.symm|(show ((aB (aj,ak,an,ao,ah,aq,ai,ar) (t1,t2,t3,t4,t5,t6,t7)).set k.toNat p).length=16;rw [ZC3];exact hwl)|exact ak2|exact ak1|exact ZB0 hug (by decide)|exact ZB0 hud (by decide)|exact hly.1.n.1|exact hly.1.n.2.1|exact hly.1.n.2.2|exact hoa.1|exact hoa.2|exact ZB0 hly.2.1 (by omega)|exact ZB0 hly.2.2.1 (by omega)|skip
  ·have hz:(bQ u (t1,t2,t3,t4,t5,t6,t7) ((aB (aj,ak,an,ao,ah,aq,ai,ar) (t1,t2,t3,t4,t5,t6,t7)).set k.toNat p) (bN (t1,t2,t3,t4,t5,t6,t7) k)).2.2=false:=(show false=(bQ u (t1,t2,t3,t4,t5,t6,t7) ((aB (aj,ak,an,ao,ah,aq,ai,ar) (t1,t2,t3,t4,t5,t6,t7)).set k.toNat p) (bN (t1,t2,t3,t4,t5,t6,t7) k)).2.2 from w1).symm
   have e:(aY (aj,ak,an,ao,ah,aq,ai,ar) (t1,t2,t3,t4,t5,t6,t7) k text)=((bQ u (t1,t2,t3,t4,t5,t6,t7) ((aB (aj,ak,an,ao,ah,aq,ai,ar) (t1,t2,t3,t4,t5,t6,t7)).set k.toNat p) (bN (t1,t2,t3,t4,t5,t6,t7) k)).1,(bQ u (t1,t2,t3,t4,t5,t6,t7) ((aB (aj,ak,an,ao,ah,aq,ai,ar) (t1,t2,t3,t4,t5,t6,t7)).set k.toNat p) (bN (t1,t2,t3,t4,t5,t6,t7) k)).2.1,false):=by rw [hM];unfold pS;rw [hz];rfl
   refine⟨[],[],_,_,_,rfl,az,false,2,(by show false=(aY (aj,ak,an,ao,ah,aq,ai,ar) (t1,t2,t3,t4,t5,t6,t7) k text).2.2;rw [e]),?_,?_,rfl⟩
   ·(show _=gR (aj,ak,an,ao,ah,aq,ai,ar) (t1,t2,t3,t4,t5,t6,t7) k text false);unfold gR;first|(rw [e];rfl)|rfl
   ·(show _=jo (aj,ak,an,ao,ah,aq,ai,ar) (t1,t2,t3,t4,t5,t6,t7) k text false);unfold jo;first|(rw [e];rfl)|rfl
  ·exact absurd (show true=false from w3) Bool.noConfusion
  ·exact absurd (show true=false from w3) Bool.noConfusion
  ·exact absurd (show false=true from w9) Bool.noConfusion
  ·have hz:(bQ u (t1,t2,t3,t4,t5,t6,t7) ((aB (aj,ak,an,ao,ah,aq,ai,ar) (t1,t2,t3,t4,t5,t6,t7)).set k.toNat p) (bN (t1,t2,t3,t4,t5,t6,t7) k)).2.2=true:=(show true=(bQ u (t1,t2,t3,t4,t5,t6,t7) ((aB (aj,ak,an,ao,ah,aq,ai,ar) (t1,t2,t3,t4,t5,t6,t7)).set k.toNat p) (bN (t1,t2,t3,t4,t5,t6,t7) k)).2.2 from w8).symm
   have hpe:(!(ptrEq p (dV (aj,ak,an,ao,ah,aq,ai,ar) (t1,t2,t3,t4,t5,t6,t7) k)))=true:=kA
   have e:(aY (aj,ak,an,ao,ah,aq,ai,ar) (t1,t2,t3,t4,t5,t6,t7) k text)=(cM (bQ u (t1,t2,t3,t4,t5,t6,t7) ((aB (aj,ak,an,ao,ah,aq,ai,ar) (t1,t2,t3,t4,t5,t6,t7)).set k.toNat p) (bN (t1,t2,t3,t4,t5,t6,t7) k)).1 (dV (aj,ak,an,ao,ah,aq,ai,ar) (t1,t2,t3,t4,t5,t6,t7) k),(bQ u (t1,t2,t3,t4,t5,t6,t7) ((aB (aj,ak,an,ao,ah,aq,ai,ar) (t1,t2,t3,t4,t5,t6,t7)).set k.toNat p) (bN (t1,t2,t3,t4,t5,t6,t7) k)).2.1,true):=by rw [hM];unfold pS;rw [hz,hpe];rfl
   refine⟨[1000930000,1000930001],[],_,_,_,rfl,az,true,0,(by show true=(aY (aj,ak,an,ao,ah,aq,ai,ar) (t1,t2,t3,t4,t5,t6,t7) k text).2.2;rw [e]),?_,?_,rfl⟩
   ·(show _=gR (aj,ak,an,ao,ah,aq,ai,ar) (t1,t2,t3,t4,t5,t6,t7) k text true);unfold gR;first|(rw [e];rfl)|rfl
   ·(show _=jo (aj,ak,an,ao,ah,aq,ai,ar) (t1,t2,t3,t4,t5,t6,t7) k text true);unfold jo;first|(rw [e];rfl)|rfl
  ·have hz:(bQ u (t1,t2,t3,t4,t5,t6,t7) ((aB (aj,ak,an,ao,ah,aq,ai,ar) (t1,t2,t3,t4,t5,t6,t7)).set k.toNat p) (bN (t1,t2,t3,t4,t5,t6,t7) k)).2.2=true:=(show true=(bQ u (t1,t2,t3,t4,t5,t6,t7) ((aB (aj,ak,an,ao,ah,aq,ai,ar) (t1,t2,t3,t4,t5,t6,t7)).set k.toNat p) (bN (t1,t2,t3,t4,t5,t6,t7) k)).2.2 from w8).symm
   have hpe:(!(ptrEq p (dV (aj,ak,an,ao,ah,aq,ai,ar) (t1,t2,t3,t4,t5,t6,t7) k)))=false:=gO
   have e:(aY (aj,ak,an,ao,ah,aq,ai,ar) (t1,t2,t3,t4,t5,t6,t7) k text)=((bQ u (t1,t2,t3,t4,t5,t6,t7) ((aB (aj,ak,an,ao,ah,aq,ai,ar) (t1,t2,t3,t4,t5,t6,t7)).set k.toNat p) (bN (t1,t2,t3,t4,t5,t6,t7) k)).1,(bQ u (t1,t2,t3,t4,t5,t6,t7) ((aB (aj,ak,an,ao,ah,aq,ai,ar) (t1,t2,t3,t4,t5,t6,t7)).set k.toNat p) (bN (t1,t2,t3,t4,t5,t6,t7) k)).2.1,true):=by rw [hM];unfold pS;rw [hz,hpe];rfl
   refine⟨[1000800000,1000800001],[],_,_,_,rfl,az,true,0,(by show true=(aY (aj,ak,an,ao,ah,aq,ai,ar) (t1,t2,t3,t4,t5,t6,t7) k text).2.2;rw [e]),?_,?_,rfl⟩
   ·(show _=gR (aj,ak,an,ao,ah,aq,ai,ar) (t1,t2,t3,t4,t5,t6,t7) k text true);unfold gR;first|(rw [e];rfl)|rfl
   ·(show _=jo (aj,ak,an,ao,ah,aq,ai,ar) (t1,t2,t3,t4,t5,t6,t7) k text true);unfold jo;first|(rw [e];rfl)|rfl
 ·refine⟨⟨⟨⟨⟨?_,?_⟩,⟨?_,?_⟩,⟨?_,?_⟩,aa,⟨?_,?_⟩,aa,⟨?_,?_⟩,tv2⟩,tv8,aa⟩,?_,?_⟩,fun x1 w2=>⟨⟨?_,?_⟩,?_,⟨⟨⟨⟨?_,?_⟩,⟨?_,?_⟩,⟨?_,?_⟩,aa,⟨?_,?_⟩,aa,⟨?_,?_⟩,tv2⟩,tv6,aa⟩,fun x3 w4=>?_,?_,?_⟩,fun x5 w6=>⟨⟨?_,?_⟩,aa,fun w7=>⟨fun w8=>⟨[.s 4,.b 1004],Sq48,rfl,[.s 5,.b 1005],Sq49,rfl,[.s 8,.s 48,.b 1008],[.b 1008],rfl,[.s 9,.s 49,.b 1009],[.b 1009],rfl,[],Sq10,rfl,?_⟩,fun w9=>⟨fun dy=>⟨fun kA=>⟨⟨⟨tv9,tv3⟩,⟨?_,?_,?_,?_,?_⟩,⟨?_,?_,?_⟩,?_⟩,fun x12 iU=>⟨fun gO=>⟨[.s 4,.b 1004],Sq66,rfl,[.s 5,.b 1005],Sq67,rfl,[.s 8,.s 66,.b 1008],[.b 1008],rfl,[.s 9,.s 67,.b 1009],[.b 1009],rfl,[],Sq10,rfl,?_⟩,fun qK=>?_⟩⟩,fun kg=>?_⟩,fun xh=>?_⟩⟩,fun rS=>⟨fun oL=>⟨fun uI=>⟨⟨⟨tv9,tv3⟩,⟨?_,?_,?_,?_,?_⟩,⟨?_,?_,?_⟩,?_⟩,fun x21 A3=>⟨fun xK=>⟨[.s 4,.b 1004],Sq66,rfl,[.s 5,.b 1005],Sq67,rfl,[.s 8,.s 66,.b 1008],[.b 1008],rfl,[.s 9,.s 67,.b 1009],[.b 1009],rfl,[],Sq10,rfl,?_⟩,fun rR=>?_⟩⟩,fun w25=>?_⟩,fun w26=>?_⟩⟩⟩⟩
  all_goals first|refine aw ?_|refine ax ?_|exact a8|(dsimp only [ey,fU,eA,fV,nb,nM,j1,kY,cJ,dH,gP];omega)|exact a7|exact absurd (aJ w7) (aJ dy)|exact oN.rd|exact sS|exact oN.sz _ w4|exact hoa.1|(show _<(aj.length:Int);rw [h64];exact hoa.2)|exact oN.n.1|exact oN.n.2.1|exact oN.n.2.2|skip
  ·have c1:decide (gU (aj,ak,an,ao,ah,aq,ai,ar) (t1,t2,t3,t4,t5,t6,t7) k=text)=true:=w7
   have c2:decide (bN (t1,t2,t3,t4,t5,t6,t7) k=bf.many (t1,t2,t3,t4,t5,t6,t7))=true:=w8
   have e:(aY (aj,ak,an,ao,ah,aq,ai,ar) (t1,t2,t3,t4,t5,t6,t7) k text)=((aj,ak,an,ao,ah,aq,ai,ar),(t1,t2,t3,t4,t5,t6,t7),true):=by unfold aY;rw [c1,c2];rfl
   refine⟨[3,4],[],_,_,_,rfl,az,true,0,(by show true=(aY (aj,ak,an,ao,ah,aq,ai,ar) (t1,t2,t3,t4,t5,t6,t7) k text).2.2;rw [e]),?_,?_,rfl⟩
   ·(show _=gR (aj,ak,an,ao,ah,aq,ai,ar) (t1,t2,t3,t4,t5,t6,t7) k text true);unfold gR;first|(rw [e];rfl)|rfl
   ·(show _=jo (aj,ak,an,ao,ah,aq,ai,ar) (t1,t2,t3,t4,t5,t6,t7) k text true);unfold jo;first|(rw [e];rfl)|rfl
  ·exact absurd (aJ w7) (aJ dy)
  ·exact absurd (aJ w7) (aJ dy)
  ·exact absurd (aJ w7) (aJ dy)
  ·have c1:decide (gU (aj,ak,an,ao,ah,aq,ai,ar) (t1,t2,t3,t4,t5,t6,t7) k=text)=true:=w7
   have c2:decide (bN (t1,t2,t3,t4,t5,t6,t7) k=bf.many (t1,t2,t3,t4,t5,t6,t7))=false:=w9
   have c3:decide (gU (aj,ak,an,ao,ah,aq,ai,ar) (t1,t2,t3,t4,t5,t6,t7) k≠text)=false:=xh
   have e:(aY (aj,ak,an,ao,ah,aq,ai,ar) (t1,t2,t3,t4,t5,t6,t7) k text)=pS (aj,ak,an,ao,ah,aq,ai,ar) (t1,t2,t3,t4,t5,t6,t7) (aB (aj,ak,an,ao,ah,aq,ai,ar) (t1,t2,t3,t4,t5,t6,t7)) k.toNat (dV (aj,ak,an,ao,ah,aq,ai,ar) (t1,t2,t3,t4,t5,t6,t7) k) (bN (t1,t2,t3,t4,t5,t6,t7) k) (dV (aj,ak,an,ao,ah,aq,ai,ar) (t1,t2,t3,t4,t5,t6,t7) k):=by unfold aY;rw [c1,c2,c3];rfl
   refine joinTail tail (((aj,ak,an,ao,ah,aq,ai,ar),dV (aj,ak,an,ao,ah,aq,ai,ar) (t1,t2,t3,t4,t5,t6,t7) k)) [] ((⟨oN,⟨hg,hd⟩,e⟩)) ?_
   repeat' (first|exact trivial|rfl|exact rfl|exact fP ZA0.symm|apply And.intro)
  ·have c1:decide (gU (aj,ak,an,ao,ah,aq,ai,ar) (t1,t2,t3,t4,t5,t6,t7) k=text)=false:=rS
   have c3:decide (gU (aj,ak,an,ao,ah,aq,ai,ar) (t1,t2,t3,t4,t5,t6,t7) k≠text)=true:=oL
   have c4:decide (text≠⟨#[]⟩)=true:=uI
   have c5:(!(bd (aj,ak,an,ao,ah,aq,ai,ar) text 0).2.2)=true:=xK
   have e:(aY (aj,ak,an,ao,ah,aq,ai,ar) (t1,t2,t3,t4,t5,t6,t7) k text)=((aj,ak,an,ao,ah,aq,ai,ar),(t1,t2,t3,t4,t5,t6,t7),false):=by unfold aY;rw [c1,c3,c4,c5];rfl
   have e2:(bd (aj,ak,an,ao,ah,aq,ai,ar) text 0).1=(aj,ak,an,ao,ah,aq,ai,ar):=by
    rcases jL (aj,ak,an,ao,ah,aq,ai,ar) text 0 with ⟨_,h⟩ |⟨_,h,_⟩
    ·exact h
    ·rw [h] at c5;cases c5
   refine⟨[],[],_,_,_,rfl,az,false,2,(by show false=(aY (aj,ak,an,ao,ah,aq,ai,ar) (t1,t2,t3,t4,t5,t6,t7) k text).2.2;rw [e]),?_,?_,rfl⟩
   ·(show _=gR (aj,ak,an,ao,ah,aq,ai,ar) (t1,t2,t3,t4,t5,t6,t7) k text false);unfold gR;first|(rw [e];rfl)|(rw [e];exact congrArg (fun x:ay=>GF x++[AV.zz,AV.zz]) e2)|rfl
   ·(show _=jo (aj,ak,an,ao,ah,aq,ai,ar) (t1,t2,t3,t4,t5,t6,t7) k text false);unfold jo;first|(rw [e];rfl)|(rw [e];exact congrArg (fun x:ay=>GF x++[AV.zz,AV.zz]) e2)|rfl
  ·have c1:decide (gU (aj,ak,an,ao,ah,aq,ai,ar) (t1,t2,t3,t4,t5,t6,t7) k=text)=false:=rS
   have c3:decide (gU (aj,ak,an,ao,ah,aq,ai,ar) (t1,t2,t3,t4,t5,t6,t7) k≠text)=true:=oL
   have c4:decide (text≠⟨#[]⟩)=true:=uI
   have c5:(!(bd (aj,ak,an,ao,ah,aq,ai,ar) text 0).2.2)=false:=rR
   have hws:=DL (text:=text) (lv:=0) oN
   have e:(aY (aj,ak,an,ao,ah,aq,ai,ar) (t1,t2,t3,t4,t5,t6,t7) k text)=pS (bd (aj,ak,an,ao,ah,aq,ai,ar) text 0).1 (t1,t2,t3,t4,t5,t6,t7) (aB (aj,ak,an,ao,ah,aq,ai,ar) (t1,t2,t3,t4,t5,t6,t7)) k.toNat (bd (aj,ak,an,ao,ah,aq,ai,ar) text 0).2.1 (bN (t1,t2,t3,t4,t5,t6,t7) k) (dV (aj,ak,an,ao,ah,aq,ai,ar) (t1,t2,t3,t4,t5,t6,t7) k):=by unfold aY;rw [c1,c3,c4,c5];rfl
   refine joinTail tail (((bd (aj,ak,an,ao,ah,aq,ai,ar) text 0).1,(bd (aj,ak,an,ao,ah,aq,ai,ar) text 0).2.1)) [] ((⟨hws.wf,⟨(by show (bd (aj,ak,an,ao,ah,aq,ai,ar) text 0).1.gone.length≤1046000;rw [hws.gone];exact hg),(by show (bd (aj,ak,an,ao,ah,aq,ai,ar) text 0).1.dead.length≤1046000;rw [hws.dead];exact hd)⟩,e⟩)) ?_
   repeat' (first|exact trivial|rfl|exact rfl|exact fP ZA0.symm|apply And.intro)
  ·have c1:decide (gU (aj,ak,an,ao,ah,aq,ai,ar) (t1,t2,t3,t4,t5,t6,t7) k=text)=false:=rS
   have c3:decide (gU (aj,ak,an,ao,ah,aq,ai,ar) (t1,t2,t3,t4,t5,t6,t7) k≠text)=true:=oL
   have c4:decide (text≠⟨#[]⟩)=false:=w25
   have e:(aY (aj,ak,an,ao,ah,aq,ai,ar) (t1,t2,t3,t4,t5,t6,t7) k text)=pS (aj,ak,an,ao,ah,aq,ai,ar) (t1,t2,t3,t4,t5,t6,t7) (aB (aj,ak,an,ao,ah,aq,ai,ar) (t1,t2,t3,t4,t5,t6,t7)) k.toNat bM (bN (t1,t2,t3,t4,t5,t6,t7) k) (dV (aj,ak,an,ao,ah,aq,ai,ar) (t1,t2,t3,t4,t5,t6,t7) k):=by unfold aY;rw [c1,c3,c4];rfl
   refine joinTail tail (((aj,ak,an,ao,ah,aq,ai,ar),bM)) [] ((⟨oN,⟨hg,hd⟩,e⟩)) ?_
   repeat' (first|exact trivial|rfl|exact rfl|exact fP ZA0.symm|apply And.intro)
  ·exact absurd (aA rS) (aA w26)
end GL
namespace GL
def dx:List Pt→ay→ay
 |[],s=>s
 |p::l,s=>dx l (cM s p)
theorem C0:∀{l:List Pt}{s:ay},s.wf→(dx l s).wf∧(dx l s).gone.length≤s.gone.length+l.length∧(dx l s).dead.length≤s.dead.length+l.length
 |[],s,h=>⟨h,ZB5 _,ZB5 _⟩
 |o::l,s,h=>by
  have h1:=C0 (l:=l) (qq (p:=o) h)
  have h2:=pg s o
  rw [ZA1]
  exact⟨h1.1,by have:=h1.2.1;show (dx l (cM s o)).gone.length≤_;omega,by have:=h1.2.2;show (dx l (cM s o)).dead.length≤_;omega⟩
theorem wV (s:ay) (p:Pt):(cM s p).cg=s.cg:=by
 unfold cM
 cases au p with
 |true=>rfl
 |false=>
  cases decide (p.2.1≤s.bZ) with
  |true=>rfl
  |false=>
   cases decide (p.2.1<s.cg) with
   |true=>rfl
   |false=>rfl
theorem yL:∀(l:List Pt) (s:ay),(dx l s).cg=s.cg
 |[],_=>rfl
 |p::l,s=>(yL l (cM s p)).trans (wV s p)
theorem I5:∀(l stays:List Pt) (s:ay),(dX l stays s).cg=s.cg
 |[],_,_=>rfl
 |p::l,stays,s=>by
  refine (I5 l stays _).trans ?_
  cases gW stays p with
  |true=>rfl
  |false=>exact wV s p
theorem IB {s:ay}{t:bf}{l:List Pt}{many:Int}(h:s.wf):(bQ s t l many).1.cg=s.cg:=by
 unfold bQ
 have h1:=wM (f:=3) (t:=t) (d:=bj many) (lv:=1) (l:=l.take many.toNat) (sy:=[]) h
 cases hf:mm 3 s t (bj many) 1 (l.take many.toNat) [] with
 |mk s' r=>
  rw [hf] at h1
  cases r with
  |none=>exact h1.cg
  |some q=>obtain⟨x,y⟩:=q;exact (I5 _ _ s').trans h1.cg
theorem CL {s:ay}{t:bf}{l:List Pt}{many:Int}(h:s.wf) (hz:(bQ s t l many).2.2=false):um s (bQ s t l many).1:=by
 unfold bQ at hz ⊢
 have h1:=wM (f:=3) (t:=t) (d:=bj many) (lv:=1) (l:=l.take many.toNat) (sy:=[]) h
 cases hf:mm 3 s t (bj many) 1 (l.take many.toNat) [] with
 |mk s' r=>
  rw [hf] at h1 hz
  cases r with
  |none=>exact h1
  |some q=>cases hz
def UF (s:ay) (t:bf) (many:Int):ay×bf×Bool:=
 bif !(bQ s t (aB s t) many).2.2 then ((bQ s t (aB s t) many).1,t,false)
 else (dx ((aB s t).drop many.toNat) (bQ s t (aB s t) many).1,(bQ s t (aB s t) many).2.1,true)
def cF (s:ay) (t:bf) (many:Int):ay×bf×Bool:=bif decide (many=t.many) then (s,t,true) else UF s t many
theorem ae0 {s:ay}{t:bf}{many:Int}(h:decide (many=t.many)=true):cF s t many=(s,t,true):=by unfold cF;rw [h];rfl
theorem aeZ {s:ay}{t:bf}{many:Int}(h:decide (many=t.many)=false) (h2:(!(bQ s t (aB s t) many).2.2)=true):cF s t many=((bQ s t (aB s t) many).1,t,false):=by unfold cF UF;rw [h,h2];rfl
theorem aeY {s:ay}{t:bf}{many:Int}(h:decide (many=t.many)=false) (h2:(!(bQ s t (aB s t) many).2.2)=false):cF s t many=(dx ((aB s t).drop many.toNat) (bQ s t (aB s t) many).1,(bQ s t (aB s t) many).2.1,true):=by unfold cF UF;rw [h,h2];rfl
theorem acP (a b l:Int) (s:ByteArray):aZ (gv a b l s).1=true:=by
 cases h1:ik s.size 1 128 with
 |false=>rw [BX h1];decide
 |true=>cases h2:aZ (a,b,(s.size:Int),qN s,l) with
  |false=>rw [BW h2];decide
  |true=>rw [BV h1 h2];exact h2
theorem FW (s:ay) (text:ByteArray) (lv:Int):aZ (bd s text lv).2.1=true:=by
 cases h:decide (da s text lv<0) with
 |true=>rw [nA rfl h];rfl
 |false=>cases h2: !(gv (da s text lv) s.cg lv text).2 with
  |true=>rw [mz rfl h h2];rfl
  |false=>rw [o8 rfl h h2];exact acP _ _ _ _
theorem aeB {s:ay}{l:List Pt}{lv:Int}{o:Pt}(h:aZ o=true):aZ (ee s l lv o).2.1=true:=by
 cases h1:nV l with
 |true=>rw [JG h1];rfl
 |false=>cases h2:fD s l o with
  |true=>rw [JF h1 h2];exact h
  |false=>rw [tS h1 h2];exact FW _ _ _
theorem M1 {lv:Int}{ka l:List Pt}(hw:∀q∈ka,aZ q=true):∀{f:Nat}{s s':ay}{i:Nat}{nx sy n y:List Pt},fI f s lv ka l i nx sy=(s',some (n,y))→(∀q∈nx,aZ q=true)→∀q∈n,aZ q=true
 |0,s,s',i,nx,sy,n,y,h,hn=>by cases h;exact hn
 |f+1,s,s',i,nx,sy,n,y,h,hn=>by
  unfold fI at h
  cases hc:decide ((i:Int)*4<l.length) with
  |false=>rw [hc] at h;cases h;exact hn
  |true=>
   rw [hc,cond_true] at h
   cases hf: !(ee s (qO l i) lv (nth ae ka i)).2.2 with
   |true=>rw [hf] at h;cases h
   |false=>
    rw [hf,cond_false] at h
    refine M1 hw h fun q hq=>?_
    rcases ZB4.1 hq with hq |hq
    ·exact hn q hq
    ·rw [ZC7.1 hq];exact aeB (oC hw i)
theorem S8 {t:bf}{d:Int}(ht:t.rd):∀{f:Nat}{s s':ay}{lv:Int}{l sy n y:List Pt},mm f s t d lv l sy=(s',some (n,y))→(∀q∈l,aZ q=true)→∀q∈n,aZ q=true
 |0,s,s',lv,l,sy,n,y,h,hn=>by cases h;exact hn
 |f+1,s,s',lv,l,sy,n,y,h,hn=>by
  unfold mm at h
  cases hc:decide (lv≤d) with
  |false=>rw [hc] at h;cases h;exact hn
  |true=>
   rw [hc,cond_true] at h
   cases hf:fI 5 s lv (dL s t d lv) (eK l) 0 [] sy with
   |mk u r=>
    rw [hf] at h
    cases r with
    |none=>cases h
    |some q=>exact S8 ht h (M1 (Y7 ht) hf fun _ h=>by cases h)
structure bf.ok (t:bf):Prop where
 rd:t.rd
 m0:0≤t.many
 m1:t.many≤16
theorem P7:ny.ok:=⟨⟨by decide,by decide⟩,by decide,by decide⟩
theorem S7 {s:ay}{t:bf}{l:List Pt}{many:Int}(ht:t.rd) (hl:∀q∈l,aZ q=true) (h0:0≤many) (h1:many≤16):(bQ s t l many).2.1.ok:=by
 unfold bQ
 cases hf:mm 3 s t (bj many) 1 (l.take many.toNat) [] with
 |mk u r=>
  cases r with
  |none=>exact P7
  |some q=>
   have h:=S8 ht hf fun q hq=>hl q (ZE6 hq)
   refine⟨⟨(pn many).2,?_⟩,h0,h1⟩
   show aZ (rootOf q.1)=true
   unfold rootOf
   cases decide ((q.1.length:Int)>0) with
   |true=>exact oC h 0
   |false=>rfl
theorem uQ {s:ay}{t:bf}(h:t.rd) {k:Nat}{p:Pt}(hp:aZ p=true):∀q∈(aB s t).set k p,aZ q=true:=by
 intro q hq
 rcases List.mem_or_eq_of_mem_set hq with hq |hq
 ·exact lA h q hq
 ·rw [hq];exact hp
structure ay.wg (s:ay) (n:Nat):Prop where
 wf:s.wf
 g:s.gone.length≤n
 d:s.dead.length≤n
 t:s.cg≤((1000+n:Nat):Int)
theorem ay.wg.mono {s:ay}{n m:Nat}(h:s.wg n) (hm:n≤m):s.wg m:=⟨h.wf,ZB0 h.g hm,ZB0 h.d hm,by have:=h.t;omega⟩
theorem um.wg {s u:ay}{n:Nat}(h:um s u) (hs:s.wg n):u.wg n:=⟨h.wf,by rw [h.gone];exact hs.g,by rw [h.dead];exact hs.d,by rw [h.cg];exact hs.t⟩
theorem OC {s:ay}{t:bf}{l:List Pt}{k:Nat}{p old:Pt}{many:Int}{n:Nat}(hs:s.wg n) (ht:t.rd) (hl:∀q∈l.set k p,aZ q=true) (h0:0≤many) (h1:many≤16):(pS s t l k p many old).1.wg (n+6)∧(pS s t l k p many old).2.1.ok∧((pS s t l k p many old).2.2=false→um s (pS s t l k p many old).1):=by
 have h2:=FF (t:=t) (l:=l.set k p) (many:=many) hs.wf
 have h3:=S7 (s:=s) ht hl h0 h1
 have hg:=hs.g;have hd:=hs.d
 unfold pS
 cases hz: !(bQ s t (l.set k p) many).2.2 with
 |true=>
  have h4:=CL hs.wf (KA hz)
  exact⟨(h4.wg hs).mono (by omega),h3,fun _=>h4⟩
 |false=>
  refine⟨?_,h3,fun h=>by cases h⟩
  cases !(ptrEq p old) with
  |true=>
   have h5:=pg (bQ s t (l.set k p) many).1 old
   exact⟨qq h2.1,by show (cM _ old).gone.length≤_;omega,by show (cM _ old).dead.length≤_;omega,by show (cM _ old).cg≤_;rw [wV,IB hs.wf];have:=hs.t;omega⟩
  |false=>exact⟨h2.1,by show (bQ s t (l.set k p) many).1.gone.length≤_;omega,by show (bQ s t (l.set k p) many).1.dead.length≤_;omega,by show (bQ s t (l.set k p) many).1.cg≤_;rw [IB hs.wf];have:=hs.t;omega⟩
theorem nq {s:ay}{t:bf}{k:Int}{text:ByteArray}{n:Nat}(hs:s.wg n) (ht:t.ok) (hk0:0≤k) (hk:k≤15):(aY s t k text).1.wg (n+6)∧(aY s t k text).2.1.ok∧((aY s t k text).2.2=false→um s (aY s t k text).1):=by
 have xB:0≤bN t k:=by unfold bN;have:=ht.m0;omega
 have EW:bN t k≤16:=by unfold bN;have:=ht.m1;omega
 have hold:aZ (dV s t k)=true:=oC (lA ht.rd) _
 have hrefl:um s s:=⟨hs.wf,rfl,rfl,rfl,rfl,rfl⟩
 unfold aY
 cases decide (gU s t k=text)&&decide (bN t k=t.many) with
 |true=>exact⟨hs.mono (by omega),ht,fun h=>by cases h⟩
 |false=>
  cases decide (gU s t k≠text) with
  |true=>
   cases decide (text≠⟨#[]⟩) with
   |true=>
    have hw:=DL (text:=text) (lv:=0) hs.wf
    cases hz: !(bd s text 0).2.2 with
    |true=>exact⟨hs.mono (by omega),ht,fun _=>hrefl⟩
    |false=>
     have h:=OC (old:=dV s t k) (hw.wg hs) ht.rd (uQ (s:=s) (k:=k.toNat) ht.rd (FW s text 0)) xB EW
     exact⟨h.1,h.2.1,fun hh=>hw.trans (h.2.2 hh)⟩
   |false=>exact OC hs ht.rd (uQ ht.rd (by decide)) xB EW
  |false=>exact OC hs ht.rd (uQ ht.rd hold) xB EW
theorem FR {s:ay}{t:bf}{many:Int}{n:Nat}(hs:s.wg n) (ht:t.ok) (h0:0≤many) (h1:many≤16):(cF s t many).1.wg (n+21)∧(cF s t many).2.1.ok∧((cF s t many).2.2=false→um s (cF s t many).1):=by
 have h2:=FF (t:=t) (l:=aB s t) (many:=many) hs.wf
 have h3:=S7 (s:=s) ht.rd (lA (s:=s) ht.rd) h0 h1
 have hg:=hs.g;have hd:=hs.d
 unfold cF
 cases decide (many=t.many) with
 |true=>exact⟨hs.mono (by omega),ht,fun h=>by cases h⟩
 |false=>
  show (UF s t many).1.wg (n+21)∧(UF s t many).2.1.ok∧((UF s t many).2.2=false→um s (UF s t many).1)
  unfold UF
  cases hz: !(bQ s t (aB s t) many).2.2 with
  |true=>
   have h4:=CL hs.wf (KA hz)
   exact⟨(h4.wg hs).mono (by omega),ht,fun _=>h4⟩
  |false=>
   have h5:=C0 (l:=(aB s t).drop many.toNat) h2.1
   have h6:((aB s t).drop many.toNat).length≤16:=by rw [ZC8,gi ht.rd];omega
   refine⟨⟨h5.1,?_,?_,?_⟩,h3,fun h=>by cases h⟩
   ·show (dx ((aB s t).drop many.toNat) (bQ s t (aB s t) many).1).gone.length≤_;omega
   ·show (dx ((aB s t).drop many.toNat) (bQ s t (aB s t) many).1).dead.length≤_;omega
   ·show (dx ((aB s t).drop many.toNat) (bQ s t (aB s t) many).1).cg≤_;rw [yL,IB hs.wf];have:=hs.t;omega
end GL
namespace GL
theorem size_pos {s:ByteArray}(h:s≠⟨#[]⟩):1≤s.size:=by
 cases s with
 |mk a=>
  refine Nat.one_le_iff_ne_zero.2 fun e=>h ?_
  have:a= #[]:=Array.eq_empty_of_size_eq_zero e
  rw [this]
def pcF:Nat→ByteArray→List ByteArray
 |0,_=>[]
 |f+1,s=>bif decide ((s.size:Int)>128) then s.extract 0 128::pcF f (s.extract 128 s.size) else bif decide (s≠⟨#[]⟩) then [s] else []
def kC (s:ByteArray):List ByteArray:=pcF (s.size+1) s
theorem acV {f:Nat}{s:ByteArray}(h:decide ((s.size:Int)>128)=true):pcF (f+1) s=s.extract 0 128::pcF f (s.extract 128 s.size):=by rw [pcF,h];rfl
theorem acU {f:Nat}{s:ByteArray}(h:decide ((s.size:Int)>128)=false) (h2:decide (s≠⟨#[]⟩)=true):pcF (f+1) s=[s]:=by rw [pcF,h,h2];rfl
theorem acT {f:Nat}{s:ByteArray}(h:decide ((s.size:Int)>128)=false) (h2:decide (s≠⟨#[]⟩)=false):pcF (f+1) s=[]:=by rw [pcF,h,h2];rfl
theorem afD:∀(f:Nat) (s:ByteArray),(pcF f s).length≤f
 |0,_=>ZB5 _
 |f+1,s=>by
  unfold pcF
  cases decide ((s.size:Int)>128) with
  |true=>show (_::pcF f _).length≤_;rw [ZA1];have:=afD f (s.extract 128 s.size);omega
  |false=>cases decide (s≠⟨#[]⟩) with
   |true=>show 1≤f+1;omega
   |false=>exact ZA7 _
theorem YL {u:ByteArray}(h:(u.size:Int)>0):(u.extract 0 ((u.size:Int)-1).toNat).size+1=u.size:=by
 rw [ZC5,Nat.min_eq_left (by omega)];omega
def lI (s:ByteArray):Prop:=s.size≤1000000
def lC (s:ByteArray):AV:=.s (.xs 0 1 0 (kC s).length)
def nQ (s:ByteArray):List AV:=[.rs ab (kC s)]
def qw:cn where
 A:=[.s .str]
 B:=[]
 pre:=fun x b=>lI x
 r:=fun x b _=>lC x
 o:=fun x b _=>nQ x
 nf:=1
theorem IE:Has Tryz.prog 228 qw:=by
 refine Has.fm zT zF zF (l:=[]) trivial Tryz.func228 ?_
 rintro (s:ByteArray) _ (hp:lI s)
 show vc _ _ _ _ (entry [.str s] []) _
 unfold lI at hp
 refine⟨aa,?_⟩
 all_goals first|refine aw ?_|refine ax ?_|exact a8|exact a7|skip
 refine cN (l:=[]) (ex:=zT) (wr:=zF) (pt:=zF) trivial [] (fun y:Nat×List ByteArray×ByteArray=>[(.s 0,.str y.2.2),(.s 3,.s (.xs 1004 1 0 y.2.1.length)),(.b 1004,.rs ab y.2.1)]) (fun y=>y.2.2.size<y.1∧y.1≤s.size+1∧y.2.1.length+y.1≤s.size+1∧y.2.1++pcF y.1 y.2.2=kC s) (fun y=>y.1) (s.size+1,[],s) [] ⟨ZD9 _,ZB5 _,by show 0+(s.size+1)≤s.size+1;omega,rfl⟩ dM ?_
 rintro⟨f,out,u⟩ ⟨(hf:u.size<f),(hf1:f≤s.size+1),(hol:out.length+f≤s.size+1),(he:out++pcF f u=kC s)⟩
 refine⟨fun w1=>⟨⟨?_,?_,?_⟩,aa,⟨⟨?_,?_⟩,?_,?_⟩,⟨?_,?_,?_⟩,?_⟩,fun w2=>⟨fun w3=>⟨aa,⟨⟨?_,?_⟩,?_,?_⟩,?_⟩,fun w4=>?_⟩⟩
 all_goals first|refine aw ?_|refine ax ?_|exact a8|exact a7|skip
 ·obtain⟨g,rfl⟩:∃g,f=g+1:=⟨f-1,by omega⟩
  have dj:decide ((u.size:Int)>128)=true:=w1
  have ame:=aJ dj
  refine⟨(g,out++[u.extract 0 128],u.extract 128 u.size),[(1004,1012)],?_,?_,?_⟩
  rotate_right
  ·exact bV
  ·refine⟨by show (u.extract 128 u.size).size<g;rw [ZC5];omega,by show g≤s.size+1;omega,by show (out++[u.extract 0 128]).length+g≤s.size+1;rw [ZA0];show out.length+1+g≤_;omega,?_⟩
   rw [←he,acV dj,ZD2];rfl
  ·exact ZD9 g
 ·obtain⟨g,rfl⟩:∃g,f=g+1:=⟨f-1,by omega⟩
  have e:kC s=out++[u]:=by rw [←he,acU w2 w3]
  refine⟨[1020],[],_,_,_,rfl,az,(),aa,?_,?_,rfl⟩
  ·(show _=lC s);unfold lC;first|(rw [e,ZA0];rfl)|(rw [e];rfl)|rfl
  ·(show _=nQ s);unfold nQ;first|(rw [e,ZA0];rfl)|(rw [e];rfl)|rfl
 ·obtain⟨g,rfl⟩:∃g,f=g+1:=⟨f-1,by omega⟩
  have e:kC s=out:=by rw [←he,acT w2 w4,ZE5]
  refine⟨[1004],[],_,_,_,rfl,az,(),aa,?_,?_,rfl⟩
  ·(show _=lC s);unfold lC;first|(rw [e];rfl)|rfl
  ·(show _=nQ s);unfold nQ;first|(rw [e];rfl)|rfl
def zrB (s:ByteArray):Bool:=decide ((s.size:Int)>0)&&decide (bL s ((s.size:Int)-1).toNat=0)
def zrF:Nat→ByteArray→ByteArray
 |0,s=>s
 |f+1,s=>bif zrB s then zrF f (s.extract 0 ((s.size:Int)-1).toNat) else s
def zrM (s:ByteArray):ByteArray:=zrF (s.size+1) s
theorem agz {f:Nat}{s:ByteArray}(h:zrB s=true):zrF (f+1) s=zrF f (s.extract 0 ((s.size:Int)-1).toNat):=by rw [zrF,h];rfl
theorem acj {f:Nat}{s:ByteArray}(h:zrB s=false):zrF (f+1) s=s:=by rw [zrF,h];rfl
def qb (s:ByteArray):Prop:=s.size≤1000000
def pM (s:ByteArray):AV:=.s (.str (zrM s))
def abj (s:ByteArray):List AV:=[]
def vU:cn where
 A:=[.s .str]
 B:=[]
 pre:=fun x b=>qb x
 r:=fun x b _=>pM x
 o:=fun x b _=>abj x
theorem TD:Has Tryz.prog 230 vU:=by
 refine Has.fm zT zF zF (l:=[]) trivial Tryz.func230 ?_
 rintro (s:ByteArray) _ (hp:qb s)
 show vc _ _ _ _ (entry [.str s] []) _
 unfold qb at hp
 refine cN (l:=[]) (ex:=zT) (wr:=zF) (pt:=zF) trivial [] (fun y:Nat×ByteArray=>[(.s 0,.str y.2)]) (fun y=>y.2.size<y.1∧y.2.size≤1000000∧zrF y.1 y.2=zrM s) (fun y=>y.1) (s.size+1,s) [] ⟨ZD9 _,hp,rfl⟩ dM ?_
 rintro⟨f,u⟩ ⟨(hf:u.size<f),(hu:u.size≤1000000),(he:zrF f u=zrM s)⟩
 obtain⟨g,rfl⟩:∃g,f=g+1:=⟨f-1,by omega⟩
 refine⟨aa,fun w1=>⟨⟨?_,?_⟩,⟨?_,?_⟩,fun w2=>⟨⟨?_,?_⟩,⟨?_,?_,?_⟩,?_⟩,fun w3=>?_⟩,fun w4=>?_⟩
 all_goals first|refine aw ?_|refine ax ?_|exact a8|exact a7|skip
 ·have hb:zrB u=true:=by unfold zrB;rw [w1,w2];rfl
  have h1:(u.size:Int)>0:=aJ w1
  refine⟨(g,u.extract 0 ((u.size:Int)-1).toNat),[],?_,?_,?_⟩
  rotate_right
  ·exact bV
  ·exact⟨by show (u.extract 0 ((u.size:Int)-1).toNat).size<g;have:=YL h1;omega,by show (u.extract 0 ((u.size:Int)-1).toNat).size≤1000000;have:=YL h1;omega,by rw [←he,agz hb]⟩
  ·exact ZD9 g
 ·have hb:zrB u=false:=by unfold zrB;rw [w1,show decide (bL u ((u.size:Int)-1).toNat=0)=false from w3];rfl
  have e:zrM s=u:=by rw [←he,acj hb]
  refine⟨[],[],_,_,_,rfl,az,(),aa,?_,?_,rfl⟩
  ·(show _=pM s);unfold pM;first|(rw [e];rfl)|rfl
  ·rfl
 ·have hb:zrB u=false:=by unfold zrB;rw [show decide ((u.size:Int)>0)=false from w4];rfl
  have e:zrM s=u:=by rw [←he,acj hb]
  refine⟨[],[],_,_,_,rfl,az,(),aa,?_,?_,rfl⟩
  ·(show _=pM s);unfold pM;first|(rw [e];rfl)|rfl
  ·rfl
def kG (n:Int):ByteArray:=fa (List.replicate (max 0 n).toNat 0)
def jP (n:Int):Prop:=n≤100000
def s4 (n:Int):AV:=.s (.str (kG n))
def R1 (n:Int):List AV:=[]
def iF:cn where
 A:=[.s .int]
 B:=[]
 pre:=fun x b=>jP x
 r:=fun x b _=>s4 x
 o:=fun x b _=>R1 x
theorem tI:Has Tryz.prog 214 iF:=by
 refine Has.fm zT zF zF (l:=[]) trivial Tryz.func214 ?_
 rintro (n:Int) _ (hp:jP n)
 show vc _ _ _ _ (entry [.int n] []) _
 have hn:n≤100000:=hp
 refine⟨⟨?_,⟨?_,?_⟩⟩,⟨⟨?_,?_⟩,?_⟩⟩
 all_goals first|refine aw ?_|refine ax ?_|exact a8|exact a7|skip
 refine⟨[],[],_,_,_,rfl,az,(),aa,?_,?_,rfl⟩
 ·(show _=s4 n);unfold s4;first|rfl
 ·rfl
end GL
end Go.Proofs.YtnkbdhldiinfdaaGreatDoor
