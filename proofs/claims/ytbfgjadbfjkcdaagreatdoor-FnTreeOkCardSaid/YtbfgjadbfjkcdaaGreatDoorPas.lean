/- FnTreeOk returns true for every code (its row lists package variables, tied by the card): part 19. -/
import Derived.Test.YtbfgjadbfjkcdaaGreatDoorPal
import Derived.Test.YtbfgjadbfjkcdaaGreatDoorPar
set_option maxHeartbeats 20000000
set_option linter.all false
namespace Go.Proofs.YtbfgjadbfjkcdaaGreatDoor
namespace GL
structure uv (s u:ay):Prop where
 wf:u.wf
 gone:u.gone=s.gone
 dead:u.dead=s.dead
 ck:u.ck=s.ck
 bY:u.bY=s.bY
 same:u.same=s.same
theorem uv.trans {a b c:ay}(h:uv a b) (h2:uv b c):uv a c:=⟨h2.wf,h2.gone.trans h.gone,h2.dead.trans h.dead,h2.ck.trans h.ck,h2.bY.trans h.bY,h2.same.trans h.same⟩
theorem acr {s:ay}{l:List Pt}{lv:Int}{o:Pt}(h:s.wf):uv s (ef s l lv o).1:=by
 obtain⟨h1,h2,h3,h4,h5⟩:=DC s l lv o
 exact⟨P4 h,h1,h2,h3,h4,h5⟩
theorem DU {s:ay}{text:ByteArray}{lv:Int}(h:s.wf):uv s (bg s text lv).1:=by
 refine⟨A6 h,?_,?_,?_,?_,?_⟩<;>
 ·rcases jL s text lv with ⟨_,e⟩ |⟨k,_,e,_⟩<;>rw [e]<;>rfl
theorem JN {lv:Int}{kc l:List Pt}:∀{f:Nat}{s:ay}{i:Nat}{nx sy:List Pt},s.wf→uv s (fJ f s lv kc l i nx sy).1
 |0,s,i,nx,sy,h=>⟨h,rfl,rfl,rfl,rfl,rfl⟩
 |f+1,s,i,nx,sy,h=>by
  unfold fJ
  cases decide ((i:Int)*4<l.length) with
  |false=>exact⟨h,rfl,rfl,rfl,rfl,rfl⟩
  |true=>
   have h1:=acr (l:=qS l i) (lv:=lv) (o:=nth ae kc i) h
   cases !(ef s (qS l i) lv (nth ae kc i)).2.2 with
   |true=>exact h1
   |false=>exact h1.trans (JN h1.wf)
theorem wU {t:bf}{d:Int}:∀{f:Nat}{s:ay}{lv:Int}{l sy:List Pt},s.wf→uv s (my f s t d lv l sy).1
 |0,s,lv,l,sy,h=>⟨h,rfl,rfl,rfl,rfl,rfl⟩
 |f+1,s,lv,l,sy,h=>by
  unfold my
  cases decide (lv≤d) with
  |false=>exact⟨h,rfl,rfl,rfl,rfl,rfl⟩
  |true=>
   have h1:=JN (f:=5) (lv:=lv) (kc:=dM s t d lv) (l:=eM l) (i:=0) (nx:=[]) (sy:=sy) h
   simp only [cond_true]
   cases hf:fJ 5 s lv (dM s t d lv) (eM l) 0 [] sy with
   |mk s' r=>
    rw [hf] at h1
    cases r with
    |none=>exact h1
    |some q=>exact h1.trans (wU h1.wf)
theorem C7:∀{l sy:List Pt}{s:ay},s.wf→(dY l sy s).wf∧(dY l sy s).gone.length≤s.gone.length+l.length∧(dY l sy s).dead.length≤s.dead.length+l.length
 |[],sy,s,h=>⟨h,ZB6 _,ZB6 _⟩
 |o::l,sy,s,h=>by
  unfold dY
  cases gZ sy o with
  |true=>
   have:=C7 (l:=l) (sy:=sy) h
   rw [ZA1]
   exact⟨this.1,by have:=this.2.1;show (dY l sy s).gone.length≤_;omega,by have:=this.2.2;show (dY l sy s).dead.length≤_;omega⟩
  |false=>
   have h1:=C7 (l:=l) (sy:=sy) (qw (p:=o) h)
   have h2:=pv s o
   rw [ZA1]
   exact⟨h1.1,by have:=h1.2.1;show (dY l sy (cN s o)).gone.length≤_;omega,by have:=h1.2.2;show (dY l sy (cN s o)).dead.length≤_;omega⟩
theorem FR {s:ay}{t:bf}{l:List Pt}{many:Int}(h:s.wf):(bS s t l many).1.wf∧(bS s t l many).1.gone.length≤s.gone.length+5∧(bS s t l many).1.dead.length≤s.dead.length+5∧((bS s t l many).2.2=false→(bS s t l many).1.gone=s.gone∧(bS s t l many).1.dead=s.dead):=by
 unfold bS
 have h1:=wU (f:=3) (t:=t) (d:=bl many) (lv:=1) (l:=l.take many.toNat) (sy:=[]) h
 cases hf:my 3 s t (bl many) 1 (l.take many.toNat) [] with
 |mk s' r=>
  rw [hf] at h1
  have h1:uv s s':=h1
  cases r with
  |none=>exact⟨h1.wf,by show s'.gone.length≤_;rw [h1.gone];omega,by show s'.dead.length≤_;rw [h1.dead];omega,fun _=>⟨h1.gone,h1.dead⟩⟩
  |some q=>
   have h2:=C7 (l:=bA s t) (sy:=q.2) h1.wf
   have h3:=I3 s t
   rw [h1.gone,h1.dead] at h2
   exact⟨h2.1,ZB1 h2.2.1 (by omega),ZB1 h2.2.2 (by omega),fun h=>by cases h⟩
def pW (s:ay) (t:bf) (leaves:List Pt) (k:Nat) (p:Pt) (many:Int) (old:Pt):ay×bf×Bool:=
 bif !(bS s t (leaves.set k p) many).2.2 then ((bS s t (leaves.set k p) many).1,(bS s t (leaves.set k p) many).2.1,false)
 else (bif !(ptrEq p old) then cN (bS s t (leaves.set k p) many).1 old else (bS s t (leaves.set k p) many).1,(bS s t (leaves.set k p) many).2.1,true)
def bP (t:bf) (k:Int):Int:=max t.many (k+1)
def dW (s:ay) (t:bf) (k:Int):Pt:=nth ae (aB s t) k.toNat
def gW (s:ay) (t:bf) (k:Int):ByteArray:=(bH s (dW s t k)).1
def aY (s:ay) (t:bf) (k:Int) (text:ByteArray):ay×bf×Bool:=
 bif decide (gW s t k=text)&&decide (bP t k=t.many) then (s,t,true) else
 bif decide (gW s t k≠text) then
  (bif decide (text≠⟨#[]⟩) then
   (bif !(bg s text 0).2.2 then (s,t,false) else pW (bg s text 0).1 t (aB s t) k.toNat (bg s text 0).2.1 (bP t k) (dW s t k))
  else pW s t (aB s t) k.toNat bO (bP t k) (dW s t k))
 else pW s t (aB s t) k.toNat (dW s t k) (bP t k) (dW s t k)
def fL (S:ay) (t:bf) (k:Int) (text:ByteArray):Prop:=S.wf∧t.rd∧0≤k∧k≤15∧t.many≤16∧S.gone.length≤1046000∧S.dead.length≤1046000∧text.size≤1000000
def abc (S:ay) (t:bf) (k:Int) (text:ByteArray) (z:Bool):Prop:=z=(aY S t k text).2.2
def gT (S:ay) (t:bf) (k:Int) (text:ByteArray) (z:Bool):AV:=match z with |true=>.t [.a (k9 0 1 2 5 6 (aY S t k text).1),trA (aY S t k text).2.1,.s (.q true)] |false=>.t [.a (k9 0 1 2 3 4 (aY S t k text).1),trA (aY S t k text).2.1,.s (.q false)]
def jr (S:ay) (t:bf) (k:Int) (text:ByteArray) (z:Bool):List AV:=match z with |true=>[.rs ab (aY S t k text).1.rows,.rs ag (aY S t k text).1.refs,.rs ag (aY S t k text).1.last,.zz,.zz,.rs ae (aY S t k text).1.gone,.rs ae (aY S t k text).1.dead] |false=>GR (aY S t k text).1++[.zz,.zz]
def eB:Con where
 A:=[.a (stB 0 1 2 3 4),.a [.int,.int,.int,.int,.int,.int,.int],.s .int,.s .str]
 B:=[.r ab,.r ag,.r ag,.r ae,.r ae]
 pre:=fun x b=>whole x.1.1 x.1.2.1 x.1.2.2.1 x.1.2.2.2.2.1 x.1.2.2.2.2.2.2.1 (b.1) (b.2.1) (b.2.2.1) (b.2.2.2.1) (b.2.2.2.2)∧fL ((b.1,b.2.1,b.2.2.1,x.1.2.2.2.1,b.2.2.2.1,x.1.2.2.2.2.2.1,b.2.2.2.2,x.1.2.2.2.2.2.2.2)) (x.2.1) (x.2.2.1) (x.2.2.2)
 α:=fun _ _=>Bool
 φ:=fun x b z=>abc ((b.1,b.2.1,b.2.2.1,x.1.2.2.2.1,b.2.2.2.1,x.1.2.2.2.2.2.1,b.2.2.2.2,x.1.2.2.2.2.2.2.2)) (x.2.1) (x.2.2.1) (x.2.2.2) z
 r:=fun x b z=>gT ((b.1,b.2.1,b.2.2.1,x.1.2.2.2.1,b.2.2.2.1,x.1.2.2.2.2.2.1,b.2.2.2.2,x.1.2.2.2.2.2.2.2)) (x.2.1) (x.2.2.1) (x.2.2.2) z
 o:=fun x b z=>jr ((b.1,b.2.1,b.2.2.1,x.1.2.2.2.1,b.2.2.2.1,x.1.2.2.2.2.2.1,b.2.2.2.2,x.1.2.2.2.2.2.2.2)) (x.2.1) (x.2.2.1) (x.2.2.2) z
 nf:=2
 mv:=true
set_option maxRecDepth 100000 in
theorem mb:Has Tryz.prog 18 eB:=by
 refine Has.ofP 8 (fun _=>true) (fun _=>false) (fun _=>false) (l:=[(47,eA),(29,eC),(48,nq),(49,j3),(50,cL)]) ⟨ma,mc,CW,wW,gz,trivial⟩ (fn:=Tryz.f18) Tryz.func18 rfl (by decide) (aZ rfl) ?_
 rintro⟨⟨(A3:Nat),(A2:Nat),(A1:Nat),(ao:Int),(AZ:Nat),(aq:Int),(AY:Nat),(ar:Bool)⟩,⟨(t1:Int),(t2:Int),(t3:Int),(t4:Int),(t5:Int),(t6:Int),(t7:Int)⟩,(k:Int),(text:ByteArray)⟩ ⟨(aj:List ByteArray),(ak:List Int),(an:List Int),(ah:List Pt),(ai:List Pt)⟩ ⟨⟨(gE:A3=List.length aj),(gD:A2=List.length ak),(gC:A1=List.length an),(gB:AZ=List.length ah),(gA:AY=List.length ai)⟩,(hp:fL (aj,ak,an,ao,ah,aq,ai,ar) (t1,t2,t3,t4,t5,t6,t7) k text)⟩
 subst gE gD gC gB gA
 show vcP _ _ _ _ 8 _ (entry [.a [.xs 0 1 0 aj.length,.xs 1 1 0 ak.length,.xs 2 1 0 an.length,.int ao,.xs 3 5 0 ah.length,.int aq,.xs 4 5 0 ai.length,.q ar],.a [.int t1,.int t2,.int t3,.int t4,.int t5,.int t6,.int t7],.int k,.str text] [.rs ab aj,.rs ag ak,.rs ag an,.rs ae ah,.rs ae ai])
 obtain⟨oS,sX,hk0,E8,(hm:t7≤16),(hg:ah.length≤1046000),(hd:ai.length≤1046000),hts⟩:=hp
 have oS:ay.wf (aj,ak,an,ao,ah,aq,ai,ar):=oS
 have sX:bf.rd (t1,t2,t3,t4,t5,t6,t7):=sX
 have hwl:=gj (s:=(aj,ak,an,ao,ah,aq,ai,ar)) sX
 have hwo:=lH (s:=(aj,ak,an,ao,ah,aq,ai,ar)) sX
 have hoa:=n0 (oJ hwo k.toNat)
 have h64:aj.length=64:=oS.n.1
 have alk:0≤bP (t1,t2,t3,t4,t5,t6,t7) k:=by show 0≤max t7 (k+1);omega
 have alj:bP (t1,t2,t3,t4,t5,t6,t7) k≤16:=by show max t7 (k+1)≤16;omega
 refine zn (l:=[(47,eA),(29,eC),(48,nq),(49,j3),(50,cL)]) (ex:=fun _=>true) (wr:=fun _=>false) (pt:=fun _=>false) ⟨ma,mc,CW,wW,gz,aa⟩ (fun y:ay×Pt=>[(.s 2,.int k),(.s 4,.s (.bp 1004 0)),(.s 5,.s (.bp 1005 0)),(.s 8,.s (.bp 1008 0)),(.s 9,.s (.bp 1009 0)),(.s 11,.s (.xs 240000 5 0 (aB (aj,ak,an,ao,ah,aq,ai,ar) (t1,t2,t3,t4,t5,t6,t7)).length)),(.s 12,.s (.bp 1012 0)),(.s 15,.int (bP (t1,t2,t3,t4,t5,t6,t7) k)),(.s 16,.s (.bp 1016 0)),(.b 1004,.a (k9 0 1 2 3 4 y.1)),(.b 0,.rs ab y.1.rows),(.b 1,.rs ag y.1.refs),(.b 2,.rs ag y.1.last),(.b 3,.rs ae y.1.gone),(.b 4,.rs ae y.1.dead),(.b 1005,.a [.int t1,.int t2,.int t3,.int t4,.int t5,.int t6,.int t7]),(.b 1008,.a (uM pF.zero)),(.b 1009,.a (uM s3.zero)),(.b 240000,.rs ae (aB (aj,ak,an,ao,ah,aq,ai,ar) (t1,t2,t3,t4,t5,t6,t7))),(.b 1012,.a (EK.A5 ae (dW (aj,ak,an,ao,ah,aq,ai,ar) (t1,t2,t3,t4,t5,t6,t7) k))),(.b 1016,.a (EK.A5 ae y.2))]) (fun y=>y.1.wf∧(y.1.gone.length≤1046000∧y.1.dead.length≤1046000)∧aY (aj,ak,an,ao,ah,aq,ai,ar) (t1,t2,t3,t4,t5,t6,t7) k text=pW y.1 (t1,t2,t3,t4,t5,t6,t7) (aB (aj,ak,an,ao,ah,aq,ai,ar) (t1,t2,t3,t4,t5,t6,t7)) k.toNat y.2 (bP (t1,t2,t3,t4,t5,t6,t7) k) (dW (aj,ak,an,ao,ah,aq,ai,ar) (t1,t2,t3,t4,t5,t6,t7) k)) (xk 8 (KK Tryz.f18)) ?_ (fun tail=>?_)
 ·rintro⟨u,p⟩ ⟨(hu:u.wf),⟨(hug:u.gone.length≤1046000),(hud:u.dead.length≤1046000)⟩,(hM:aY (aj,ak,an,ao,ah,aq,ai,ar) (t1,t2,t3,t4,t5,t6,t7) k text=pW u (t1,t2,t3,t4,t5,t6,t7) (aB (aj,ak,an,ao,ah,aq,ai,ar) (t1,t2,t3,t4,t5,t6,t7)) k.toNat p (bP (t1,t2,t3,t4,t5,t6,t7) k) (dW (aj,ak,an,ao,ah,aq,ai,ar) (t1,t2,t3,t4,t5,t6,t7) k))⟩
  have hly:=FR (t:=(t1,t2,t3,t4,t5,t6,t7)) (l:=(aB (aj,ak,an,ao,ah,aq,ai,ar) (t1,t2,t3,t4,t5,t6,t7)).set k.toNat p) (many:=bP (t1,t2,t3,t4,t5,t6,t7) k) hu
  refine⟨⟨?_,?_⟩,?_,⟨⟨⟨aa,aa,aa,aa,aa,aa,aa,aa,aa⟩,⟨aa,aa,aa,aa,aa,aa,aa,aa⟩,⟨?_,?_⟩,aa,aa⟩,⟨?_,?_,?_,?_,?_⟩,?_,?_,?_,?_,?_,?_,?_⟩,fun |false=>fun w1=>⟨fun w2=>⟨[.s 4,.b 1004],[.s 85],rfl,[.s 5,.b 1005],[.s 86],rfl,[.s 8,.s 85,.b 1008],[.b 1008],rfl,[.s 9,.s 86,.b 1009],[.b 1009],rfl,[],[.s 10],rfl,?_⟩,fun w3=>⟨fun w4=>⟨⟨⟨⟨aa,aa,aa,aa,aa,aa,aa,aa,aa⟩,⟨aa,aa,aa,aa,aa,aa⟩,aa⟩,⟨?_,?_,?_,?_,?_⟩,⟨?_,?_,?_⟩,?_,?_,?_,?_⟩,fun x5 w6=>⟨[.s 4,.b 1004],[.s 93],rfl,[.s 5,.b 1005],[.s 94],rfl,[.s 8,.s 93,.b 1008],[.b 1008],rfl,[.s 9,.s 94,.b 1009],[.b 1009],rfl,[],[.s 10],rfl,?_⟩⟩,fun w7=>⟨[.s 4,.b 1004],[.s 93],rfl,[.s 5,.b 1005],[.s 94],rfl,[.s 8,.s 93,.b 1008],[.b 1008],rfl,[.s 9,.s 94,.b 1009],[.b 1009],rfl,[],[.s 10],rfl,?_⟩⟩⟩ |true=>fun w8=>⟨fun w9=>⟨[.s 4,.b 1004],[.s 85],rfl,[.s 5,.b 1005],[.s 86],rfl,[.s 8,.s 85,.b 1008],[.b 1008],rfl,[.s 9,.s 86,.b 1009],[.b 1009],rfl,[],[.s 10],rfl,?_⟩,fun dq=>⟨fun kk=>⟨⟨⟨⟨aa,aa,aa,aa,aa,aa,aa,aa,aa⟩,⟨aa,aa,aa,aa,aa,aa⟩,aa⟩,⟨?_,?_,?_,?_,?_⟩,⟨?_,?_,?_⟩,?_,?_,?_,?_⟩,fun x12 iJ=>⟨[.s 4,.b 1004],[.s 93],rfl,[.s 5,.b 1005],[.s 94],rfl,[.s 8,.s 93,.b 1008],[.b 1008],rfl,[.s 9,.s 94,.b 1009],[.b 1009],rfl,[],[.s 10],rfl,?_⟩⟩,fun gI=>⟨[.s 4,.b 1004],[.s 93],rfl,[.s 5,.b 1005],[.s 94],rfl,[.s 8,.s 93,.b 1008],[.b 1008],rfl,[.s 9,.s 94,.b 1009],[.b 1009],rfl,[],[.s 10],rfl,?_⟩⟩⟩⟩
  all_goals first|refine aw ?_|refine ax ?_|exact ba|(dsimp only [eA,fU];omega)|(dsimp only [eC,fV];omega)|(dsimp only [nq,nT];omega)|(dsimp only [j3,lf];omega)|(dsimp only [cL,dJ];omega)|exact a8|exact absurd (show true=false from w3) Bool.noConfusion|exact absurd (show false=true from w9) Bool.noConfusion|exact hu|exact sX|exact ZC3.symm|(show ((aB (aj,ak,an,ao,ah,aq,ai,ar) (t1,t2,t3,t4,t5,t6,t7)).set k.toNat p).length=16;rw [ZC3];exact hwl)|exact alk|exact alj|exact ZB1 hug (by decide)|exact ZB1 hud (by decide)|exact hly.1.n.1|exact hly.1.n.2.1|exact hly.1.n.2.2|exact hoa.1|exact hoa.2|exact ZB1 hly.2.1 (by omega)|exact ZB1 hly.2.2.1 (by omega)|skip
  ·have hz:(bS u (t1,t2,t3,t4,t5,t6,t7) ((aB (aj,ak,an,ao,ah,aq,ai,ar) (t1,t2,t3,t4,t5,t6,t7)).set k.toNat p) (bP (t1,t2,t3,t4,t5,t6,t7) k)).2.2=false:=(show false=(bS u (t1,t2,t3,t4,t5,t6,t7) ((aB (aj,ak,an,ao,ah,aq,ai,ar) (t1,t2,t3,t4,t5,t6,t7)).set k.toNat p) (bP (t1,t2,t3,t4,t5,t6,t7) k)).2.2 from w1).symm
   have e:(aY (aj,ak,an,ao,ah,aq,ai,ar) (t1,t2,t3,t4,t5,t6,t7) k text)=((bS u (t1,t2,t3,t4,t5,t6,t7) ((aB (aj,ak,an,ao,ah,aq,ai,ar) (t1,t2,t3,t4,t5,t6,t7)).set k.toNat p) (bP (t1,t2,t3,t4,t5,t6,t7) k)).1,(bS u (t1,t2,t3,t4,t5,t6,t7) ((aB (aj,ak,an,ao,ah,aq,ai,ar) (t1,t2,t3,t4,t5,t6,t7)).set k.toNat p) (bP (t1,t2,t3,t4,t5,t6,t7) k)).2.1,false):=by rw [hM];unfold pW;rw [hz];rfl
   refine⟨[],[],_,_,_,rfl,az,false,2,(by show false=(aY (aj,ak,an,ao,ah,aq,ai,ar) (t1,t2,t3,t4,t5,t6,t7) k text).2.2;rw [e]),?_,?_,rfl⟩
   ·(show _=gT (aj,ak,an,ao,ah,aq,ai,ar) (t1,t2,t3,t4,t5,t6,t7) k text false);unfold gT;first|(rw [e];rfl)|rfl
   ·(show _=jr (aj,ak,an,ao,ah,aq,ai,ar) (t1,t2,t3,t4,t5,t6,t7) k text false);unfold jr;first|(rw [e];rfl)|rfl
  ·exact absurd (show true=false from w3) Bool.noConfusion
  ·exact absurd (show true=false from w3) Bool.noConfusion
  ·exact absurd (show false=true from w9) Bool.noConfusion
  ·have hz:(bS u (t1,t2,t3,t4,t5,t6,t7) ((aB (aj,ak,an,ao,ah,aq,ai,ar) (t1,t2,t3,t4,t5,t6,t7)).set k.toNat p) (bP (t1,t2,t3,t4,t5,t6,t7) k)).2.2=true:=(show true=(bS u (t1,t2,t3,t4,t5,t6,t7) ((aB (aj,ak,an,ao,ah,aq,ai,ar) (t1,t2,t3,t4,t5,t6,t7)).set k.toNat p) (bP (t1,t2,t3,t4,t5,t6,t7) k)).2.2 from w8).symm
   have hpe:(!(ptrEq p (dW (aj,ak,an,ao,ah,aq,ai,ar) (t1,t2,t3,t4,t5,t6,t7) k)))=true:=kk
   have e:(aY (aj,ak,an,ao,ah,aq,ai,ar) (t1,t2,t3,t4,t5,t6,t7) k text)=(cN (bS u (t1,t2,t3,t4,t5,t6,t7) ((aB (aj,ak,an,ao,ah,aq,ai,ar) (t1,t2,t3,t4,t5,t6,t7)).set k.toNat p) (bP (t1,t2,t3,t4,t5,t6,t7) k)).1 (dW (aj,ak,an,ao,ah,aq,ai,ar) (t1,t2,t3,t4,t5,t6,t7) k),(bS u (t1,t2,t3,t4,t5,t6,t7) ((aB (aj,ak,an,ao,ah,aq,ai,ar) (t1,t2,t3,t4,t5,t6,t7)).set k.toNat p) (bP (t1,t2,t3,t4,t5,t6,t7) k)).2.1,true):=by rw [hM];unfold pW;rw [hz,hpe];rfl
   refine⟨[1000930000,1000930001],[],_,_,_,rfl,az,true,0,(by show true=(aY (aj,ak,an,ao,ah,aq,ai,ar) (t1,t2,t3,t4,t5,t6,t7) k text).2.2;rw [e]),?_,?_,rfl⟩
   ·(show _=gT (aj,ak,an,ao,ah,aq,ai,ar) (t1,t2,t3,t4,t5,t6,t7) k text true);unfold gT;first|(rw [e];rfl)|rfl
   ·(show _=jr (aj,ak,an,ao,ah,aq,ai,ar) (t1,t2,t3,t4,t5,t6,t7) k text true);unfold jr;first|(rw [e];rfl)|rfl
  ·have hz:(bS u (t1,t2,t3,t4,t5,t6,t7) ((aB (aj,ak,an,ao,ah,aq,ai,ar) (t1,t2,t3,t4,t5,t6,t7)).set k.toNat p) (bP (t1,t2,t3,t4,t5,t6,t7) k)).2.2=true:=(show true=(bS u (t1,t2,t3,t4,t5,t6,t7) ((aB (aj,ak,an,ao,ah,aq,ai,ar) (t1,t2,t3,t4,t5,t6,t7)).set k.toNat p) (bP (t1,t2,t3,t4,t5,t6,t7) k)).2.2 from w8).symm
   have hpe:(!(ptrEq p (dW (aj,ak,an,ao,ah,aq,ai,ar) (t1,t2,t3,t4,t5,t6,t7) k)))=false:=gI
   have e:(aY (aj,ak,an,ao,ah,aq,ai,ar) (t1,t2,t3,t4,t5,t6,t7) k text)=((bS u (t1,t2,t3,t4,t5,t6,t7) ((aB (aj,ak,an,ao,ah,aq,ai,ar) (t1,t2,t3,t4,t5,t6,t7)).set k.toNat p) (bP (t1,t2,t3,t4,t5,t6,t7) k)).1,(bS u (t1,t2,t3,t4,t5,t6,t7) ((aB (aj,ak,an,ao,ah,aq,ai,ar) (t1,t2,t3,t4,t5,t6,t7)).set k.toNat p) (bP (t1,t2,t3,t4,t5,t6,t7) k)).2.1,true):=by rw [hM];unfold pW;rw [hz,hpe];rfl
   refine⟨[1000800000,1000800001],[],_,_,_,rfl,az,true,0,(by show true=(aY (aj,ak,an,ao,ah,aq,ai,ar) (t1,t2,t3,t4,t5,t6,t7) k text).2.2;rw [e]),?_,?_,rfl⟩
   ·(show _=gT (aj,ak,an,ao,ah,aq,ai,ar) (t1,t2,t3,t4,t5,t6,t7) k text true);unfold gT;first|(rw [e];rfl)|rfl
   ·(show _=jr (aj,ak,an,ao,ah,aq,ai,ar) (t1,t2,t3,t4,t5,t6,t7) k text true);unfold jr;first|(rw [e];rfl)|rfl
 ·refine⟨⟨⟨⟨⟨?_,?_⟩,⟨?_,?_⟩,⟨?_,?_⟩,aa,⟨?_,?_⟩,aa,⟨?_,?_⟩,aa,aa⟩,⟨aa,aa,aa,aa,aa,aa,aa,aa⟩,aa⟩,?_,?_⟩,fun x1 w2=>⟨⟨?_,?_⟩,?_,⟨⟨⟨⟨?_,?_⟩,⟨?_,?_⟩,⟨?_,?_⟩,aa,⟨?_,?_⟩,aa,⟨?_,?_⟩,aa,aa⟩,⟨aa,aa,aa,aa,aa,aa⟩,aa⟩,fun x3 w4=>?_,?_,?_⟩,fun x5 w6=>⟨⟨?_,?_⟩,aa,fun w7=>⟨fun w8=>⟨[.s 4,.b 1004],[.s 48],rfl,[.s 5,.b 1005],[.s 49],rfl,[.s 8,.s 48,.b 1008],[.b 1008],rfl,[.s 9,.s 49,.b 1009],[.b 1009],rfl,[],[.s 10],rfl,?_⟩,fun w9=>⟨fun dq=>⟨fun kk=>⟨⟨⟨⟨aa,aa,aa,aa,aa,aa,aa,aa,aa⟩,aa,aa,aa⟩,⟨?_,?_,?_,?_,?_⟩,⟨?_,?_,?_⟩,?_⟩,fun x12 iJ=>⟨fun gI=>⟨[.s 4,.b 1004],[.s 66],rfl,[.s 5,.b 1005],[.s 67],rfl,[.s 8,.s 66,.b 1008],[.b 1008],rfl,[.s 9,.s 67,.b 1009],[.b 1009],rfl,[],[.s 10],rfl,?_⟩,fun pe=>?_⟩⟩,fun kj=>?_⟩,fun wC=>?_⟩⟩,fun qX=>⟨fun oB=>⟨fun uw=>⟨⟨⟨⟨aa,aa,aa,aa,aa,aa,aa,aa,aa⟩,aa,aa,aa⟩,⟨?_,?_,?_,?_,?_⟩,⟨?_,?_,?_⟩,?_⟩,fun x21 zl=>⟨fun xD=>⟨[.s 4,.b 1004],[.s 66],rfl,[.s 5,.b 1005],[.s 67],rfl,[.s 8,.s 66,.b 1008],[.b 1008],rfl,[.s 9,.s 67,.b 1009],[.b 1009],rfl,[],[.s 10],rfl,?_⟩,fun rG=>?_⟩⟩,fun w25=>?_⟩,fun E1=>?_⟩⟩⟩⟩
  all_goals first|refine aw ?_|refine ax ?_|exact ba|(dsimp only [eA,fU];omega)|(dsimp only [eC,fV];omega)|(dsimp only [nq,nT];omega)|(dsimp only [j3,lf];omega)|(dsimp only [cL,dJ];omega)|exact a8|exact absurd (aE w7) (aE dq)|exact oS.rd|exact sX|exact oS.sz _ w4|exact hoa.1|(show _<(aj.length:Int);rw [h64];exact hoa.2)|exact oS.n.1|exact oS.n.2.1|exact oS.n.2.2|skip
  ·have c1:decide (gW (aj,ak,an,ao,ah,aq,ai,ar) (t1,t2,t3,t4,t5,t6,t7) k=text)=true:=w7
   have c2:decide (bP (t1,t2,t3,t4,t5,t6,t7) k=bf.many (t1,t2,t3,t4,t5,t6,t7))=true:=w8
   have e:(aY (aj,ak,an,ao,ah,aq,ai,ar) (t1,t2,t3,t4,t5,t6,t7) k text)=((aj,ak,an,ao,ah,aq,ai,ar),(t1,t2,t3,t4,t5,t6,t7),true):=by unfold aY;rw [c1,c2];rfl
   refine⟨[3,4],[],_,_,_,rfl,az,true,0,(by show true=(aY (aj,ak,an,ao,ah,aq,ai,ar) (t1,t2,t3,t4,t5,t6,t7) k text).2.2;rw [e]),?_,?_,rfl⟩
   ·(show _=gT (aj,ak,an,ao,ah,aq,ai,ar) (t1,t2,t3,t4,t5,t6,t7) k text true);unfold gT;first|(rw [e];rfl)|rfl
   ·(show _=jr (aj,ak,an,ao,ah,aq,ai,ar) (t1,t2,t3,t4,t5,t6,t7) k text true);unfold jr;first|(rw [e];rfl)|rfl
  ·exact absurd (aE w7) (aE dq)
  ·exact absurd (aE w7) (aE dq)
  ·exact absurd (aE w7) (aE dq)
  ·have c1:decide (gW (aj,ak,an,ao,ah,aq,ai,ar) (t1,t2,t3,t4,t5,t6,t7) k=text)=true:=w7
   have c2:decide (bP (t1,t2,t3,t4,t5,t6,t7) k=bf.many (t1,t2,t3,t4,t5,t6,t7))=false:=w9
   have c3:decide (gW (aj,ak,an,ao,ah,aq,ai,ar) (t1,t2,t3,t4,t5,t6,t7) k≠text)=false:=wC
   have e:(aY (aj,ak,an,ao,ah,aq,ai,ar) (t1,t2,t3,t4,t5,t6,t7) k text)=pW (aj,ak,an,ao,ah,aq,ai,ar) (t1,t2,t3,t4,t5,t6,t7) (aB (aj,ak,an,ao,ah,aq,ai,ar) (t1,t2,t3,t4,t5,t6,t7)) k.toNat (dW (aj,ak,an,ao,ah,aq,ai,ar) (t1,t2,t3,t4,t5,t6,t7) k) (bP (t1,t2,t3,t4,t5,t6,t7) k) (dW (aj,ak,an,ao,ah,aq,ai,ar) (t1,t2,t3,t4,t5,t6,t7) k):=by unfold aY;rw [c1,c2,c3];rfl
   refine joinTail tail (((aj,ak,an,ao,ah,aq,ai,ar),dW (aj,ak,an,ao,ah,aq,ai,ar) (t1,t2,t3,t4,t5,t6,t7) k)) [] ((⟨oS,⟨hg,hd⟩,e⟩)) ?_
   repeat' (first|exact trivial|rfl|exact rfl|exact fP ZA0.symm|apply And.intro)
  ·have c1:decide (gW (aj,ak,an,ao,ah,aq,ai,ar) (t1,t2,t3,t4,t5,t6,t7) k=text)=false:=qX
   have c3:decide (gW (aj,ak,an,ao,ah,aq,ai,ar) (t1,t2,t3,t4,t5,t6,t7) k≠text)=true:=oB
   have c4:decide (text≠⟨#[]⟩)=true:=uw
   have c5:(!(bg (aj,ak,an,ao,ah,aq,ai,ar) text 0).2.2)=true:=xD
   have e:(aY (aj,ak,an,ao,ah,aq,ai,ar) (t1,t2,t3,t4,t5,t6,t7) k text)=((aj,ak,an,ao,ah,aq,ai,ar),(t1,t2,t3,t4,t5,t6,t7),false):=by unfold aY;rw [c1,c3,c4,c5];rfl
   have e2:(bg (aj,ak,an,ao,ah,aq,ai,ar) text 0).1=(aj,ak,an,ao,ah,aq,ai,ar):=by
    rcases jL (aj,ak,an,ao,ah,aq,ai,ar) text 0 with ⟨_,h⟩ |⟨_,h,_⟩
    ·exact h
    ·rw [h] at c5;cases c5
   refine⟨[],[],_,_,_,rfl,az,false,2,(by show false=(aY (aj,ak,an,ao,ah,aq,ai,ar) (t1,t2,t3,t4,t5,t6,t7) k text).2.2;rw [e]),?_,?_,rfl⟩
   ·(show _=gT (aj,ak,an,ao,ah,aq,ai,ar) (t1,t2,t3,t4,t5,t6,t7) k text false);unfold gT;first|(rw [e];rfl)|(rw [e];exact congrArg (fun x:ay=>GR x++[AV.zz,AV.zz]) e2)|rfl
   ·(show _=jr (aj,ak,an,ao,ah,aq,ai,ar) (t1,t2,t3,t4,t5,t6,t7) k text false);unfold jr;first|(rw [e];rfl)|(rw [e];exact congrArg (fun x:ay=>GR x++[AV.zz,AV.zz]) e2)|rfl
  ·have c1:decide (gW (aj,ak,an,ao,ah,aq,ai,ar) (t1,t2,t3,t4,t5,t6,t7) k=text)=false:=qX
   have c3:decide (gW (aj,ak,an,ao,ah,aq,ai,ar) (t1,t2,t3,t4,t5,t6,t7) k≠text)=true:=oB
   have c4:decide (text≠⟨#[]⟩)=true:=uw
   have c5:(!(bg (aj,ak,an,ao,ah,aq,ai,ar) text 0).2.2)=false:=rG
   have hws:=DU (text:=text) (lv:=0) oS
   have e:(aY (aj,ak,an,ao,ah,aq,ai,ar) (t1,t2,t3,t4,t5,t6,t7) k text)=pW (bg (aj,ak,an,ao,ah,aq,ai,ar) text 0).1 (t1,t2,t3,t4,t5,t6,t7) (aB (aj,ak,an,ao,ah,aq,ai,ar) (t1,t2,t3,t4,t5,t6,t7)) k.toNat (bg (aj,ak,an,ao,ah,aq,ai,ar) text 0).2.1 (bP (t1,t2,t3,t4,t5,t6,t7) k) (dW (aj,ak,an,ao,ah,aq,ai,ar) (t1,t2,t3,t4,t5,t6,t7) k):=by unfold aY;rw [c1,c3,c4,c5];rfl
   refine joinTail tail (((bg (aj,ak,an,ao,ah,aq,ai,ar) text 0).1,(bg (aj,ak,an,ao,ah,aq,ai,ar) text 0).2.1)) [] ((⟨hws.wf,⟨(by show (bg (aj,ak,an,ao,ah,aq,ai,ar) text 0).1.gone.length≤1046000;rw [hws.gone];exact hg),(by show (bg (aj,ak,an,ao,ah,aq,ai,ar) text 0).1.dead.length≤1046000;rw [hws.dead];exact hd)⟩,e⟩)) ?_
   repeat' (first|exact trivial|rfl|exact rfl|exact fP ZA0.symm|apply And.intro)
  ·have c1:decide (gW (aj,ak,an,ao,ah,aq,ai,ar) (t1,t2,t3,t4,t5,t6,t7) k=text)=false:=qX
   have c3:decide (gW (aj,ak,an,ao,ah,aq,ai,ar) (t1,t2,t3,t4,t5,t6,t7) k≠text)=true:=oB
   have c4:decide (text≠⟨#[]⟩)=false:=w25
   have e:(aY (aj,ak,an,ao,ah,aq,ai,ar) (t1,t2,t3,t4,t5,t6,t7) k text)=pW (aj,ak,an,ao,ah,aq,ai,ar) (t1,t2,t3,t4,t5,t6,t7) (aB (aj,ak,an,ao,ah,aq,ai,ar) (t1,t2,t3,t4,t5,t6,t7)) k.toNat bO (bP (t1,t2,t3,t4,t5,t6,t7) k) (dW (aj,ak,an,ao,ah,aq,ai,ar) (t1,t2,t3,t4,t5,t6,t7) k):=by unfold aY;rw [c1,c3,c4];rfl
   refine joinTail tail (((aj,ak,an,ao,ah,aq,ai,ar),bO)) [] ((⟨oS,⟨hg,hd⟩,e⟩)) ?_
   repeat' (first|exact trivial|rfl|exact rfl|exact fP ZA0.symm|apply And.intro)
  ·exact absurd (aA qX) (aA E1)
end GL
namespace GL
def dz:List Pt→ay→ay
 |[],s=>s
 |p::l,s=>dz l (cN s p)
theorem C6:∀{l:List Pt}{s:ay},s.wf→(dz l s).wf∧(dz l s).gone.length≤s.gone.length+l.length∧(dz l s).dead.length≤s.dead.length+l.length
 |[],s,h=>⟨h,ZB6 _,ZB6 _⟩
 |o::l,s,h=>by
  have h1:=C6 (l:=l) (qw (p:=o) h)
  have h2:=pv s o
  rw [ZA1]
  exact⟨h1.1,by have:=h1.2.1;show (dz l (cN s o)).gone.length≤_;omega,by have:=h1.2.2;show (dz l (cN s o)).dead.length≤_;omega⟩
theorem xd (s:ay) (p:Pt):(cN s p).ck=s.ck:=by
 unfold cN
 cases au p with
 |true=>rfl
 |false=>
  cases decide (p.2.1≤s.bY) with
  |true=>rfl
  |false=>
   cases decide (p.2.1<s.ck) with
   |true=>rfl
   |false=>rfl
theorem yV:∀(l:List Pt) (s:ay),(dz l s).ck=s.ck
 |[],_=>rfl
 |p::l,s=>(yV l (cN s p)).trans (xd s p)
theorem JF:∀(l stays:List Pt) (s:ay),(dY l stays s).ck=s.ck
 |[],_,_=>rfl
 |p::l,stays,s=>by
  refine (JF l stays _).trans ?_
  cases gZ stays p with
  |true=>rfl
  |false=>exact xd s p
theorem IL {s:ay}{t:bf}{l:List Pt}{many:Int}(h:s.wf):(bS s t l many).1.ck=s.ck:=by
 unfold bS
 have h1:=wU (f:=3) (t:=t) (d:=bl many) (lv:=1) (l:=l.take many.toNat) (sy:=[]) h
 cases hf:my 3 s t (bl many) 1 (l.take many.toNat) [] with
 |mk s' r=>
  rw [hf] at h1
  cases r with
  |none=>exact h1.ck
  |some q=>obtain⟨x,y⟩:=q;exact (JF _ _ s').trans h1.ck
theorem CR {s:ay}{t:bf}{l:List Pt}{many:Int}(h:s.wf) (hz:(bS s t l many).2.2=false):uv s (bS s t l many).1:=by
 unfold bS at hz ⊢
 have h1:=wU (f:=3) (t:=t) (d:=bl many) (lv:=1) (l:=l.take many.toNat) (sy:=[]) h
 cases hf:my 3 s t (bl many) 1 (l.take many.toNat) [] with
 |mk s' r=>
  rw [hf] at h1 hz
  cases r with
  |none=>exact h1
  |some q=>cases hz
def UU (s:ay) (t:bf) (many:Int):ay×bf×Bool:=
 bif !(bS s t (aB s t) many).2.2 then ((bS s t (aB s t) many).1,t,false)
 else (dz ((aB s t).drop many.toNat) (bS s t (aB s t) many).1,(bS s t (aB s t) many).2.1,true)
def cH (s:ay) (t:bf) (many:Int):ay×bf×Bool:=bif decide (many=t.many) then (s,t,true) else UU s t many
theorem afl {s:ay}{t:bf}{many:Int}(h:decide (many=t.many)=true):cH s t many=(s,t,true):=by unfold cH;rw [h];rfl
theorem afk {s:ay}{t:bf}{many:Int}(h:decide (many=t.many)=false) (h2:(!(bS s t (aB s t) many).2.2)=true):cH s t many=((bS s t (aB s t) many).1,t,false):=by unfold cH UU;rw [h,h2];rfl
theorem afj {s:ay}{t:bf}{many:Int}(h:decide (many=t.many)=false) (h2:(!(bS s t (aB s t) many).2.2)=false):cH s t many=(dz ((aB s t).drop many.toNat) (bS s t (aB s t) many).1,(bS s t (aB s t) many).2.1,true):=by unfold cH UU;rw [h,h2];rfl
theorem ac7 (a b l:Int) (s:ByteArray):a6 (gx a b l s).1=true:=by
 cases h1:iC s.size 1 128 with
 |false=>rw [B2 h1];decide
 |true=>cases h2:a6 (a,b,(s.size:Int),qR s,l) with
  |false=>rw [B1 h2];decide
  |true=>rw [B0 h1 h2];exact h2
theorem F7 (s:ay) (text:ByteArray) (lv:Int):a6 (bg s text lv).2.1=true:=by
 cases h:decide (db s text lv<0) with
 |true=>rw [nH rfl h];rfl
 |false=>cases h2: !(gx (db s text lv) s.ck lv text).2 with
  |true=>rw [mF rfl h h2];rfl
  |false=>rw [pd rfl h h2];exact ac7 _ _ _ _
theorem aeW {s:ay}{l:List Pt}{lv:Int}{o:Pt}(h:a6 o=true):a6 (ef s l lv o).2.1=true:=by
 cases h1:ob l with
 |true=>rw [JQ h1];rfl
 |false=>cases h2:fE s l o with
  |true=>rw [JP h1 h2];exact h
  |false=>rw [tW h1 h2];exact F7 _ _ _
theorem ND {lv:Int}{kc l:List Pt}(hw:∀q∈kc,a6 q=true):∀{f:Nat}{s s':ay}{i:Nat}{nx sy n y:List Pt},fJ f s lv kc l i nx sy=(s',some (n,y))→(∀q∈nx,a6 q=true)→∀q∈n,a6 q=true
 |0,s,s',i,nx,sy,n,y,h,hn=>by cases h;exact hn
 |f+1,s,s',i,nx,sy,n,y,h,hn=>by
  unfold fJ at h
  cases hc:decide ((i:Int)*4<l.length) with
  |false=>rw [hc] at h;cases h;exact hn
  |true=>
   rw [hc,cond_true] at h
   cases hf: !(ef s (qS l i) lv (nth ae kc i)).2.2 with
   |true=>rw [hf] at h;cases h
   |false=>
    rw [hf,cond_false] at h
    refine ND hw h fun q hq=>?_
    rcases ZB5.1 hq with hq |hq
    ·exact hn q hq
    ·rw [ZC7.1 hq];exact aeW (oJ hw i)
theorem TR {t:bf}{d:Int}(ht:t.rd):∀{f:Nat}{s s':ay}{lv:Int}{l sy n y:List Pt},my f s t d lv l sy=(s',some (n,y))→(∀q∈l,a6 q=true)→∀q∈n,a6 q=true
 |0,s,s',lv,l,sy,n,y,h,hn=>by cases h;exact hn
 |f+1,s,s',lv,l,sy,n,y,h,hn=>by
  unfold my at h
  cases hc:decide (lv≤d) with
  |false=>rw [hc] at h;cases h;exact hn
  |true=>
   rw [hc,cond_true] at h
   cases hf:fJ 5 s lv (dM s t d lv) (eM l) 0 [] sy with
   |mk u r=>
    rw [hf] at h
    cases r with
    |none=>cases h
    |some q=>exact TR ht h (ND (ZP ht) hf fun _ h=>by cases h)
structure bf.ok (t:bf):Prop where
 rd:t.rd
 m0:0≤t.many
 m1:t.many≤16
theorem QM:nF.ok:=⟨⟨by decide,by decide⟩,by decide,by decide⟩
theorem TQ {s:ay}{t:bf}{l:List Pt}{many:Int}(ht:t.rd) (hl:∀q∈l,a6 q=true) (h0:0≤many) (h1:many≤16):(bS s t l many).2.1.ok:=by
 unfold bS
 cases hf:my 3 s t (bl many) 1 (l.take many.toNat) [] with
 |mk u r=>
  cases r with
  |none=>exact QM
  |some q=>
   have h:=TR ht hf fun q hq=>hl q (ZE6 hq)
   refine⟨⟨(py many).2,?_⟩,h0,h1⟩
   show a6 (rootOf q.1)=true
   unfold rootOf
   cases decide ((q.1.length:Int)>0) with
   |true=>exact oJ h 0
   |false=>rfl
theorem uV {s:ay}{t:bf}(h:t.rd) {k:Nat}{p:Pt}(hp:a6 p=true):∀q∈(aB s t).set k p,a6 q=true:=by
 intro q hq
 rcases List.mem_or_eq_of_mem_set hq with hq |hq
 ·exact lH h q hq
 ·rw [hq];exact hp
structure ay.wg (s:ay) (n:Nat):Prop where
 wf:s.wf
 g:s.gone.length≤n
 d:s.dead.length≤n
 t:s.ck≤((1000+n:Nat):Int)
theorem ay.wg.mono {s:ay}{n m:Nat}(h:s.wg n) (hm:n≤m):s.wg m:=⟨h.wf,ZB1 h.g hm,ZB1 h.d hm,by have:=h.t;omega⟩
theorem uv.wg {s u:ay}{n:Nat}(h:uv s u) (hs:s.wg n):u.wg n:=⟨h.wf,by rw [h.gone];exact hs.g,by rw [h.dead];exact hs.d,by rw [h.ck];exact hs.t⟩
theorem ON {s:ay}{t:bf}{l:List Pt}{k:Nat}{p old:Pt}{many:Int}{n:Nat}(hs:s.wg n) (ht:t.rd) (hl:∀q∈l.set k p,a6 q=true) (h0:0≤many) (h1:many≤16):(pW s t l k p many old).1.wg (n+6)∧(pW s t l k p many old).2.1.ok∧((pW s t l k p many old).2.2=false→uv s (pW s t l k p many old).1):=by
 have h2:=FR (t:=t) (l:=l.set k p) (many:=many) hs.wf
 have h3:=TQ (s:=s) ht hl h0 h1
 have hg:=hs.g;have hd:=hs.d
 unfold pW
 cases hz: !(bS s t (l.set k p) many).2.2 with
 |true=>
  have h4:=CR hs.wf (KL hz)
  exact⟨(h4.wg hs).mono (by omega),h3,fun _=>h4⟩
 |false=>
  refine⟨?_,h3,fun h=>by cases h⟩
  cases !(ptrEq p old) with
  |true=>
   have h5:=pv (bS s t (l.set k p) many).1 old
   exact⟨qw h2.1,by show (cN _ old).gone.length≤_;omega,by show (cN _ old).dead.length≤_;omega,by show (cN _ old).ck≤_;rw [xd,IL hs.wf];have:=hs.t;omega⟩
  |false=>exact⟨h2.1,by show (bS s t (l.set k p) many).1.gone.length≤_;omega,by show (bS s t (l.set k p) many).1.dead.length≤_;omega,by show (bS s t (l.set k p) many).1.ck≤_;rw [IL hs.wf];have:=hs.t;omega⟩
theorem ny {s:ay}{t:bf}{k:Int}{text:ByteArray}{n:Nat}(hs:s.wg n) (ht:t.ok) (hk0:0≤k) (hk:k≤15):(aY s t k text).1.wg (n+6)∧(aY s t k text).2.1.ok∧((aY s t k text).2.2=false→uv s (aY s t k text).1):=by
 have C1:0≤bP t k:=by unfold bP;have:=ht.m0;omega
 have hm1:bP t k≤16:=by unfold bP;have:=ht.m1;omega
 have hold:a6 (dW s t k)=true:=oJ (lH ht.rd) _
 have hrefl:uv s s:=⟨hs.wf,rfl,rfl,rfl,rfl,rfl⟩
 unfold aY
 cases decide (gW s t k=text)&&decide (bP t k=t.many) with
 |true=>exact⟨hs.mono (by omega),ht,fun h=>by cases h⟩
 |false=>
  cases decide (gW s t k≠text) with
  |true=>
   cases decide (text≠⟨#[]⟩) with
   |true=>
    have hw:=DU (text:=text) (lv:=0) hs.wf
    cases hz: !(bg s text 0).2.2 with
    |true=>exact⟨hs.mono (by omega),ht,fun _=>hrefl⟩
    |false=>
     have h:=ON (old:=dW s t k) (hw.wg hs) ht.rd (uV (s:=s) (k:=k.toNat) ht.rd (F7 s text 0)) C1 hm1
     exact⟨h.1,h.2.1,fun hh=>hw.trans (h.2.2 hh)⟩
   |false=>exact ON hs ht.rd (uV ht.rd (by decide)) C1 hm1
  |false=>exact ON hs ht.rd (uV ht.rd hold) C1 hm1
theorem F3 {s:ay}{t:bf}{many:Int}{n:Nat}(hs:s.wg n) (ht:t.ok) (h0:0≤many) (h1:many≤16):(cH s t many).1.wg (n+21)∧(cH s t many).2.1.ok∧((cH s t many).2.2=false→uv s (cH s t many).1):=by
 have h2:=FR (t:=t) (l:=aB s t) (many:=many) hs.wf
 have h3:=TQ (s:=s) ht.rd (lH (s:=s) ht.rd) h0 h1
 have hg:=hs.g;have hd:=hs.d
 unfold cH
 cases decide (many=t.many) with
 |true=>exact⟨hs.mono (by omega),ht,fun h=>by cases h⟩
 |false=>
  show (UU s t many).1.wg (n+21)∧(UU s t many).2.1.ok∧((UU s t many).2.2=false→uv s (UU s t many).1)
  unfold UU
  cases hz: !(bS s t (aB s t) many).2.2 with
  |true=>
   have h4:=CR hs.wf (KL hz)
   exact⟨(h4.wg hs).mono (by omega),ht,fun _=>h4⟩
  |false=>
   have h5:=C6 (l:=(aB s t).drop many.toNat) h2.1
   have h6:((aB s t).drop many.toNat).length≤16:=by rw [ZD0,gj ht.rd];omega
   refine⟨⟨h5.1,?_,?_,?_⟩,h3,fun h=>by cases h⟩
   ·show (dz ((aB s t).drop many.toNat) (bS s t (aB s t) many).1).gone.length≤_;omega
   ·show (dz ((aB s t).drop many.toNat) (bS s t (aB s t) many).1).dead.length≤_;omega
   ·show (dz ((aB s t).drop many.toNat) (bS s t (aB s t) many).1).ck≤_;rw [yV,IL hs.wf];have:=hs.t;omega
end GL
namespace GL
theorem size_pos {s:ByteArray}(h:s≠⟨#[]⟩):1≤s.size:=by
 cases s with
 |mk a=>
  refine Nat.one_le_iff_ne_zero.2 fun e=>h ?_
  have:a= #[]:=Array.eq_empty_of_size_eq_zero e
  rw [this]
def pcF:Nat→ByteArray→List ByteArray
 |0,_=>[]
 |f+1,s=>bif decide ((s.size:Int)>128) then s.extract 0 128::pcF f (s.extract 128 s.size) else bif decide (s≠⟨#[]⟩) then [s] else []
def kH (s:ByteArray):List ByteArray:=pcF (s.size+1) s
theorem adf {f:Nat}{s:ByteArray}(h:decide ((s.size:Int)>128)=true):pcF (f+1) s=s.extract 0 128::pcF f (s.extract 128 s.size):=by rw [pcF,h];rfl
theorem ade {f:Nat}{s:ByteArray}(h:decide ((s.size:Int)>128)=false) (h2:decide (s≠⟨#[]⟩)=true):pcF (f+1) s=[s]:=by rw [pcF,h,h2];rfl
theorem adb {f:Nat}{s:ByteArray}(h:decide ((s.size:Int)>128)=false) (h2:decide (s≠⟨#[]⟩)=false):pcF (f+1) s=[]:=by rw [pcF,h,h2];rfl
theorem afV:∀(f:Nat) (s:ByteArray),(pcF f s).length≤f
 |0,_=>ZB6 _
 |f+1,s=>by
  unfold pcF
  cases decide ((s.size:Int)>128) with
  |true=>show (_::pcF f _).length≤_;rw [ZA1];have:=afV f (s.extract 128 s.size);omega
  |false=>cases decide (s≠⟨#[]⟩) with
   |true=>show 1≤f+1;omega
   |false=>exact ZA8 _
theorem Y4 {u:ByteArray}(h:(u.size:Int)>0):(u.extract 0 ((u.size:Int)-1).toNat).size+1=u.size:=by
 rw [ZC5,Nat.min_eq_left (by omega)];omega
def lP (s:ByteArray):Prop:=s.size≤1000000
def lJ (s:ByteArray):AV:=.s (.xs 0 1 0 (kH s).length)
def nX (s:ByteArray):List AV:=[.rs ab (kH s)]
def qB:Con where
 A:=[.s .str]
 B:=[]
 pre:=fun x b=>lP x
 α:=fun _ _=>Unit
 φ:=fun _ _ _=>True
 r:=fun x b _=>lJ x
 o:=fun x b _=>nX x
 nf:=1
set_option maxRecDepth 100000 in
theorem IP:Has Tryz.prog 153 qB:=by
 refine Has.ofE (fun _=>true) (fun _=>false) (fun _=>false) (l:=[]) trivial (fn:=Tryz.f153) Tryz.func153 rfl (by decide) (aZ rfl) ?_
 rintro (s:ByteArray) _ (hp:lP s)
 show vc _ _ _ _ (entry [.str s] []) _
 unfold lP at hp
 refine⟨aa,?_⟩
 all_goals first|refine aw ?_|refine ax ?_|exact ba|exact a8|skip
 refine cO (l:=[]) (ex:=fun _=>true) (wr:=fun _=>false) (pt:=fun _=>false) trivial [] (fun y:Nat×List ByteArray×ByteArray=>[(.s 0,.str y.2.2),(.s 3,.s (.xs 1004 1 0 y.2.1.length)),(.b 1004,.rs ab y.2.1)]) (fun y=>y.2.2.size<y.1∧y.1≤s.size+1∧y.2.1.length+y.1≤s.size+1∧y.2.1++pcF y.1 y.2.2=kH s) (fun y=>y.1) (s.size+1,[],s) [] ⟨ZE0 _,ZB6 _,by show 0+(s.size+1)≤s.size+1;omega,rfl⟩ dN ?_
 rintro⟨f,out,u⟩ ⟨(hf:u.size<f),(hf1:f≤s.size+1),(hol:out.length+f≤s.size+1),(he:out++pcF f u=kH s)⟩
 refine⟨fun w1=>⟨⟨?_,?_,?_⟩,aa,⟨⟨?_,?_⟩,?_,?_⟩,⟨?_,?_,?_⟩,?_⟩,fun w2=>⟨fun w3=>⟨aa,⟨⟨?_,?_⟩,?_,?_⟩,?_⟩,fun w4=>?_⟩⟩
 all_goals first|refine aw ?_|refine ax ?_|exact ba|exact a8|skip
 ·obtain⟨g,rfl⟩:∃g,f=g+1:=⟨f-1,by omega⟩
  have dk:decide ((u.size:Int)>128)=true:=w1
  have amv:=aE dk
  refine⟨(g,out++[u.extract 0 128],u.extract 128 u.size),[(1004,1012)],?_,?_,?_⟩
  rotate_right
  ·exact bX
  ·refine⟨by show (u.extract 128 u.size).size<g;rw [ZC5];omega,by show g≤s.size+1;omega,by show (out++[u.extract 0 128]).length+g≤s.size+1;rw [ZA0];show out.length+1+g≤_;omega,?_⟩
   rw [←he,adf dk,ZD2];rfl
  ·exact ZE0 g
 ·obtain⟨g,rfl⟩:∃g,f=g+1:=⟨f-1,by omega⟩
  have e:kH s=out++[u]:=by rw [←he,ade w2 w3]
  refine⟨[1020],[],_,_,_,rfl,az,(),aa,?_,?_,rfl⟩
  ·(show _=lJ s);unfold lJ;first|(rw [e,ZA0];rfl)|(rw [e];rfl)|rfl
  ·(show _=nX s);unfold nX;first|(rw [e,ZA0];rfl)|(rw [e];rfl)|rfl
 ·obtain⟨g,rfl⟩:∃g,f=g+1:=⟨f-1,by omega⟩
  have e:kH s=out:=by rw [←he,adb w2 w4,ZE4]
  refine⟨[1004],[],_,_,_,rfl,az,(),aa,?_,?_,rfl⟩
  ·(show _=lJ s);unfold lJ;first|(rw [e];rfl)|rfl
  ·(show _=nX s);unfold nX;first|(rw [e];rfl)|rfl
def zrB (s:ByteArray):Bool:=decide ((s.size:Int)>0)&&decide (bN s ((s.size:Int)-1).toNat=0)
def zrF:Nat→ByteArray→ByteArray
 |0,s=>s
 |f+1,s=>bif zrB s then zrF f (s.extract 0 ((s.size:Int)-1).toNat) else s
def zrM (s:ByteArray):ByteArray:=zrF (s.size+1) s
theorem agT {f:Nat}{s:ByteArray}(h:zrB s=true):zrF (f+1) s=zrF f (s.extract 0 ((s.size:Int)-1).toNat):=by rw [zrF,h];rfl
theorem acE {f:Nat}{s:ByteArray}(h:zrB s=false):zrF (f+1) s=s:=by rw [zrF,h];rfl
def qf (s:ByteArray):Prop:=s.size≤1000000
def pQ (s:ByteArray):AV:=.s (.str (zrM s))
def abB (s:ByteArray):List AV:=[]
def v8:Con where
 A:=[.s .str]
 B:=[]
 pre:=fun x b=>qf x
 α:=fun _ _=>Unit
 φ:=fun _ _ _=>True
 r:=fun x b _=>pQ x
 o:=fun x b _=>abB x
 nf:=0
set_option maxRecDepth 100000 in
theorem TU:Has Tryz.prog 156 v8:=by
 refine Has.ofE (fun _=>true) (fun _=>false) (fun _=>false) (l:=[]) trivial (fn:=Tryz.f156) Tryz.func156 rfl (by decide) (aZ rfl) ?_
 rintro (s:ByteArray) _ (hp:qf s)
 show vc _ _ _ _ (entry [.str s] []) _
 unfold qf at hp
 refine cO (l:=[]) (ex:=fun _=>true) (wr:=fun _=>false) (pt:=fun _=>false) trivial [] (fun y:Nat×ByteArray=>[(.s 0,.str y.2)]) (fun y=>y.2.size<y.1∧y.2.size≤1000000∧zrF y.1 y.2=zrM s) (fun y=>y.1) (s.size+1,s) [] ⟨ZE0 _,hp,rfl⟩ dN ?_
 rintro⟨f,u⟩ ⟨(hf:u.size<f),(hu:u.size≤1000000),(he:zrF f u=zrM s)⟩
 obtain⟨g,rfl⟩:∃g,f=g+1:=⟨f-1,by omega⟩
 refine⟨aa,fun w1=>⟨⟨?_,?_⟩,⟨?_,?_⟩,fun w2=>⟨⟨?_,?_⟩,⟨?_,?_,?_⟩,?_⟩,fun w3=>?_⟩,fun w4=>?_⟩
 all_goals first|refine aw ?_|refine ax ?_|exact ba|exact a8|skip
 ·have hb:zrB u=true:=by unfold zrB;rw [w1,w2];rfl
  have h1:(u.size:Int)>0:=aE w1
  refine⟨(g,u.extract 0 ((u.size:Int)-1).toNat),[],?_,?_,?_⟩
  rotate_right
  ·exact bX
  ·exact⟨by show (u.extract 0 ((u.size:Int)-1).toNat).size<g;have:=Y4 h1;omega,by show (u.extract 0 ((u.size:Int)-1).toNat).size≤1000000;have:=Y4 h1;omega,by rw [←he,agT hb]⟩
  ·exact ZE0 g
 ·have hb:zrB u=false:=by unfold zrB;rw [w1,show decide (bN u ((u.size:Int)-1).toNat=0)=false from w3];rfl
  have e:zrM s=u:=by rw [←he,acE hb]
  refine⟨[],[],_,_,_,rfl,az,(),aa,?_,?_,rfl⟩
  ·(show _=pQ s);unfold pQ;first|(rw [e];rfl)|rfl
  ·rfl
 ·have hb:zrB u=false:=by unfold zrB;rw [show decide ((u.size:Int)>0)=false from w4];rfl
  have e:zrM s=u:=by rw [←he,acE hb]
  refine⟨[],[],_,_,_,rfl,az,(),aa,?_,?_,rfl⟩
  ·(show _=pQ s);unfold pQ;first|(rw [e];rfl)|rfl
  ·rfl
def kM (n:Int):ByteArray:=fc (List.replicate (max 0 n).toNat 0)
def jP (n:Int):Prop:=n≤100000
def s9 (n:Int):AV:=.s (.str (kM n))
def SG (n:Int):List AV:=[]
def iG:Con where
 A:=[.s .int]
 B:=[]
 pre:=fun x b=>jP x
 α:=fun _ _=>Unit
 φ:=fun _ _ _=>True
 r:=fun x b _=>s9 x
 o:=fun x b _=>SG x
 nf:=0
set_option maxRecDepth 100000 in
theorem tM:Has Tryz.prog 139 iG:=by
 refine Has.ofE (fun _=>true) (fun _=>false) (fun _=>false) (l:=[]) trivial (fn:=Tryz.f139) Tryz.func139 rfl (by decide) (aZ rfl) ?_
 rintro (n:Int) _ (hp:jP n)
 show vc _ _ _ _ (entry [.int n] []) _
 have hn:n≤100000:=hp
 refine⟨⟨?_,⟨?_,?_⟩⟩,⟨⟨?_,?_⟩,?_⟩⟩
 all_goals first|refine aw ?_|refine ax ?_|exact ba|exact a8|skip
 refine⟨[],[],_,_,_,rfl,az,(),aa,?_,?_,rfl⟩
 ·(show _=s9 n);unfold s9;first|rfl
 ·rfl
end GL
end Go.Proofs.YtbfgjadbfjkcdaaGreatDoor
