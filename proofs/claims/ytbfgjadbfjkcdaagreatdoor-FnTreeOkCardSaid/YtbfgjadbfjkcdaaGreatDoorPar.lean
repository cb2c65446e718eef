/- FnTreeOk returns true for every code (its row lists package variables, tied by the card): part 18 of 39. -/
import Derived.Test.YtbfgjadbfjkcdaaGreatDoorPaq
set_option maxHeartbeats 20000000
set_option linter.all false
namespace Go.Proofs.YtbfgjadbfjkcdaaGreatDoor
namespace GL
structure uk (s u:ax):Prop where
 wf:u.wf
 gone:u.gone=s.gone
 dead:u.dead=s.dead
 bY:u.bY=s.bY
 bT:u.bT=s.bT
 same:u.same=s.same
theorem uk.trans {a b c:ax} (h:uk a b) (h2:uk b c):uk a c:=⟨h2.wf,h2.gone.trans h.gone,h2.dead.trans h.dead,h2.bY.trans h.bY,h2.bT.trans h.bT,h2.same.trans h.same⟩
theorem ach {s:ax} {l:List Pt} {lv:Int} {o:Pt} (h:s.wf):uk s (dT s l lv o).1:=by
 obtain ⟨h1,h2,h3,h4,h5⟩:=C2 s l lv o
 exact ⟨PV h,h1,h2,h3,h4,h5⟩
theorem DJ {s:ax} {text:ByteArray} {lv:Int} (h:s.wf):uk s (a6 s text lv).1:=by
 refine ⟨AW h,?_,?_,?_,?_,?_⟩<;>
 ·rcases jC s text lv with ⟨_,e⟩ |⟨k,_,e,_⟩<;>rw [e]<;>rfl
theorem JC {lv:Int} {j4 l:List Pt}:∀ {f:Nat} {s:ax} {i:Nat} {nx sy:List Pt},s.wf→uk s (fB f s lv j4 l i nx sy).1
 |0,s,i,nx,sy,h=>⟨h,rfl,rfl,rfl,rfl,rfl⟩
 |f+1,s,i,nx,sy,h=>by
  unfold fB
  cases decide ((i:Int) * 4 < l.length) with
  |false=>exact ⟨h,rfl,rfl,rfl,rfl,rfl⟩
  |true=>
   have h1:=ach (l:=qC l i) (lv:=lv) (o:=nth ab j4 i) h
   cases !(dT s (qC l i) lv (nth ab j4 i)).2.2 with
   |true=>exact h1
   |false=>exact h1.trans (JC h1.wf)
theorem wN {t:aZ} {d:Int}:∀ {f:Nat} {s:ax} {lv:Int} {l sy:List Pt},s.wf→uk s (mm f s t d lv l sy).1
 |0,s,lv,l,sy,h=>⟨h,rfl,rfl,rfl,rfl,rfl⟩
 |f+1,s,lv,l,sy,h=>by
  unfold mm
  cases decide (lv≤d) with
  |false=>exact ⟨h,rfl,rfl,rfl,rfl,rfl⟩
  |true=>
   have h1:=JC (f:=5) (lv:=lv) (j4:=dG s t d lv) (l:=eF l) (i:=0) (nx:=[]) (sy:=sy) h
   simp only [cond_true]
   cases hf:fB 5 s lv (dG s t d lv) (eF l) 0 [] sy with
   |mk s' r=>
    rw [hf] at h1
    cases r with
    |none=>exact h1
    |some q=>exact h1.trans (wN h1.wf)
theorem CX:∀ {l sy:List Pt} {s:ax},s.wf→(dQ l sy s).wf∧(dQ l sy s).gone.length≤s.gone.length+l.length∧(dQ l sy s).dead.length≤s.dead.length+l.length
 |[],sy,s,h=>⟨h,Nat.le_refl _,Nat.le_refl _⟩
 |o::l,sy,s,h=>by
  unfold dQ
  cases gQ sy o with
  |true=>
   have:=CX (l:=l) (sy:=sy) h
   rw [List.length_cons]
   exact ⟨this.1,by have:=this.2.1;show (dQ l sy s).gone.length≤_;omega,by have:=this.2.2;show (dQ l sy s).dead.length≤_;omega⟩
  |false=>
   have h1:=CX (l:=l) (sy:=sy) (qf (p:=o) h)
   have h2:=o6 s o
   rw [List.length_cons]
   exact ⟨h1.1,by have:=h1.2.1;show (dQ l sy (cG s o)).gone.length≤_;omega,by have:=h1.2.2;show (dQ l sy (cG s o)).dead.length≤_;omega⟩
theorem FD {s:ax} {t:aZ} {l:List Pt} {many:Int} (h:s.wf):(bK s t l many).1.wf∧(bK s t l many).1.gone.length≤s.gone.length+5∧(bK s t l many).1.dead.length≤s.dead.length+5∧((bK s t l many).2.2=false→(bK s t l many).1.gone=s.gone∧(bK s t l many).1.dead=s.dead):=by
 unfold bK
 have h1:=wN (f:=3) (t:=t) (d:=bb many) (lv:=1) (l:=l.take many.toNat) (sy:=[]) h
 cases hf:mm 3 s t (bb many) 1 (l.take many.toNat) [] with
 |mk s' r=>
  rw [hf] at h1
  have h1:uk s s':=h1
  cases r with
  |none=>exact ⟨h1.wf,by show s'.gone.length≤_;rw [h1.gone];omega,by show s'.dead.length≤_;rw [h1.dead];omega,fun _=>⟨h1.gone,h1.dead⟩⟩
  |some q=>
   have h2:=CX (l:=bl s t) (sy:=q.2) h1.wf
   have h3:=IS s t
   rw [h1.gone,h1.dead] at h2
   exact ⟨h2.1,Nat.le_trans h2.2.1 (by omega),Nat.le_trans h2.2.2 (by omega),fun h=>by cases h⟩
def pI (s:ax) (t:aZ) (leaves:List Pt) (k:Nat) (p:Pt) (many:Int) (old:Pt):ax×aZ×Bool:=
 bif !(bK s t (leaves.set k p) many).2.2 then ((bK s t (leaves.set k p) many).1,(bK s t (leaves.set k p) many).2.1,false)
 else (bif !(ptrEq p old) then cG (bK s t (leaves.set k p) many).1 old else (bK s t (leaves.set k p) many).1,(bK s t (leaves.set k p) many).2.1,true)
def bH (t:aZ) (k:Int):Int:=max t.many (k+1)
def dO (s:ax) (t:aZ) (k:Int):Pt:=nth ab (ay s t) k.toNat
def gN (s:ax) (t:aZ) (k:Int):ByteArray:=(bA s (dO s t k)).1
def aU (s:ax) (t:aZ) (k:Int) (text:ByteArray):ax×aZ×Bool:=
 bif decide (gN s t k=text)&&decide (bH t k=t.many) then (s,t,true) else
 bif decide (gN s t k≠text) then
  (bif decide (text≠⟨#[]⟩) then
   (bif !(a6 s text 0).2.2 then (s,t,false) else pI (a6 s text 0).1 t (ay s t) k.toNat (a6 s text 0).2.1 (bH t k) (dO s t k))
  else pI s t (ay s t) k.toNat bL (bH t k) (dO s t k))
 else pI s t (ay s t) k.toNat (dO s t k) (bH t k) (dO s t k)
def fD (S:ax) (t:aZ) (k:Int) (text:ByteArray):Prop:=S.wf∧t.rd∧0≤k∧k≤15∧t.many≤16∧S.gone.length≤1046000∧S.dead.length≤1046000∧text.size≤1000000
def aa4 (S:ax) (t:aZ) (k:Int) (text:ByteArray) (z:Bool):Prop:=z=(aU S t k text).2.2
def gK (S:ax) (t:aZ) (k:Int) (text:ByteArray) (z:Bool):AV:=match z with |true=>.t [.a (lA 0 1 2 5 6 (aU S t k text).1),trA (aU S t k text).2.1, .s (.q true)] |false=>.t [.a (lA 0 1 2 3 4 (aU S t k text).1),trA (aU S t k text).2.1, .s (.q false)]
def jh (S:ax) (t:aZ) (k:Int) (text:ByteArray) (z:Bool):List AV:=match z with |true=>[.rs aa (aU S t k text).1.rows, .rs ae (aU S t k text).1.refs, .rs ae (aU S t k text).1.last, .zz, .zz, .rs ab (aU S t k text).1.gone, .rs ab (aU S t k text).1.dead] |false=>GD (aU S t k text).1++[.zz, .zz]
def eo:Con where
 A:=[.a (stB 0 1 2 3 4), .a [.int, .int, .int, .int, .int, .int, .int], .s .int, .s .str]
 B:=[.r aa, .r ae, .r ae, .r ab, .r ab]
 pre:=fun x b=>whole x.1.1 x.1.2.1 x.1.2.2.1 x.1.2.2.2.2.1 x.1.2.2.2.2.2.2.1 (b.1) (b.2.1) (b.2.2.1) (b.2.2.2.1) (b.2.2.2.2)∧fD ((b.1,b.2.1,b.2.2.1,x.1.2.2.2.1,b.2.2.2.1,x.1.2.2.2.2.2.1,b.2.2.2.2,x.1.2.2.2.2.2.2.2)) (x.2.1) (x.2.2.1) (x.2.2.2)
 α:=fun _ _=>Bool
 φ:=fun x b z=>aa4 ((b.1,b.2.1,b.2.2.1,x.1.2.2.2.1,b.2.2.2.1,x.1.2.2.2.2.2.1,b.2.2.2.2,x.1.2.2.2.2.2.2.2)) (x.2.1) (x.2.2.1) (x.2.2.2) z
 r:=fun x b z=>gK ((b.1,b.2.1,b.2.2.1,x.1.2.2.2.1,b.2.2.2.1,x.1.2.2.2.2.2.1,b.2.2.2.2,x.1.2.2.2.2.2.2.2)) (x.2.1) (x.2.2.1) (x.2.2.2) z
 o:=fun x b z=>jh ((b.1,b.2.1,b.2.2.1,x.1.2.2.2.1,b.2.2.2.1,x.1.2.2.2.2.2.1,b.2.2.2.2,x.1.2.2.2.2.2.2.2)) (x.2.1) (x.2.2.1) (x.2.2.2) z
 nf:=2
 mv:=true
set_option maxRecDepth 100000 in
theorem lY:Has Tryz.prog 18 eo:=by
 refine Has.ofP 8 (fun _=>true) (fun _=>false) (fun _=>false) (l:=[(47,en),(29,et),(48,nb),(49,jT),(50,cE)]) ⟨lX,lZ,CK,wP,gl,trivial⟩ (fn:=Tryz.f18) Tryz.func18 rfl (by decide) (cH rfl) ?_
 rintro ⟨⟨(AS:Nat),(AR:Nat),(AQ:Nat),(an:Int),(AO:Nat),(ao:Int),(AN:Nat),(aq:Bool)⟩,⟨(t1:Int),(t2:Int),(t3:Int),(t4:Int),(t5:Int),(t6:Int),(t7:Int)⟩,(k:Int),(text:ByteArray)⟩ ⟨(ai:List ByteArray),(aj:List Int),(ak:List Int),(ag:List Pt),(ah:List Pt)⟩ ⟨⟨(gr:AS=List.length ai),(gq:AR=List.length aj),(gp:AQ=List.length ak),(gn:AO=List.length ag),(gm:AN=List.length ah)⟩,(hp:fD (ai,aj,ak,an,ag,ao,ah,aq) (t1,t2,t3,t4,t5,t6,t7) k text)⟩
 subst gr gq gp gn gm
 show vcP _ _ _ _ 8 _ (entry [.a [.xs 0 1 0 ai.length, .xs 1 1 0 aj.length, .xs 2 1 0 ak.length, .int an, .xs 3 5 0 ag.length, .int ao, .xs 4 5 0 ah.length, .q aq], .a [.int t1, .int t2, .int t3, .int t4, .int t5, .int t6, .int t7], .int k, .str text] [.rs aa ai, .rs ae aj, .rs ae ak, .rs ab ag, .rs ab ah])
 obtain ⟨oI,sP,hk0,ET,(hm:t7≤16),(hg:ag.length≤1046000),(hd:ah.length≤1046000),hts⟩:=hp
 have oI:ax.wf (ai,aj,ak,an,ag,ao,ah,aq):=oI
 have sP:aZ.rd (t1,t2,t3,t4,t5,t6,t7):=sP
 have hwl:=fW (s:=(ai,aj,ak,an,ag,ao,ah,aq)) sP
 have hwo:=lz (s:=(ai,aj,ak,an,ag,ao,ah,aq)) sP
 have hoa:=nT (oA hwo k.toNat)
 have h64:ai.length=64:=oI.n.1
 have akV:0≤bH (t1,t2,t3,t4,t5,t6,t7) k:=by show 0≤max t7 (k+1);omega
 have akU:bH (t1,t2,t3,t4,t5,t6,t7) k≤16:=by show max t7 (k+1)≤16;omega
 refine zh (l:=[(47,en),(29,et),(48,nb),(49,jT),(50,cE)]) (ex:=fun _=>true) (wr:=fun _=>false) (pt:=fun _=>false) ⟨lX,lZ,CK,wP,gl,tv⟩ (fun y:ax×Pt=>[(.s 2, .int k),(.s 4, .s (.bp 1004 0)),(.s 5, .s (.bp 1005 0)),(.s 8, .s (.bp 1008 0)),(.s 9, .s (.bp 1009 0)),(.s 11, .s (.xs 240000 5 0 (ay (ai,aj,ak,an,ag,ao,ah,aq) (t1,t2,t3,t4,t5,t6,t7)).length)),(.s 12, .s (.bp 1012 0)),(.s 15, .int (bH (t1,t2,t3,t4,t5,t6,t7) k)),(.s 16, .s (.bp 1016 0)),(.b 1004, .a (lA 0 1 2 3 4 y.1)),(.b 0, .rs aa y.1.rows),(.b 1, .rs ae y.1.refs),(.b 2, .rs ae y.1.last),(.b 3, .rs ab y.1.gone),(.b 4, .rs ab y.1.dead),(.b 1005, .a [.int t1, .int t2, .int t3, .int t4, .int t5, .int t6, .int t7]),(.b 1008, .a (uG pj.zero)),(.b 1009, .a (uG sS.zero)),(.b 240000, .rs ab (ay (ai,aj,ak,an,ag,ao,ah,aq) (t1,t2,t3,t4,t5,t6,t7))),(.b 1012, .a (EK.AU ab (dO (ai,aj,ak,an,ag,ao,ah,aq) (t1,t2,t3,t4,t5,t6,t7) k))),(.b 1016, .a (EK.AU ab y.2))]) (fun y=>y.1.wf∧(y.1.gone.length≤1046000∧y.1.dead.length≤1046000)∧aU (ai,aj,ak,an,ag,ao,ah,aq) (t1,t2,t3,t4,t5,t6,t7) k text=pI y.1 (t1,t2,t3,t4,t5,t6,t7) (ay (ai,aj,ak,an,ag,ao,ah,aq) (t1,t2,t3,t4,t5,t6,t7)) k.toNat y.2 (bH (t1,t2,t3,t4,t5,t6,t7) k) (dO (ai,aj,ak,an,ag,ao,ah,aq) (t1,t2,t3,t4,t5,t6,t7) k)) (xd 8 (J9 Tryz.f18)) ?_ (fun tail=>?_)
 ·rintro ⟨u,p⟩ ⟨(hu:u.wf),⟨(hug:u.gone.length≤1046000),(hud:u.dead.length≤1046000)⟩,(hM:aU (ai,aj,ak,an,ag,ao,ah,aq) (t1,t2,t3,t4,t5,t6,t7) k text=pI u (t1,t2,t3,t4,t5,t6,t7) (ay (ai,aj,ak,an,ag,ao,ah,aq) (t1,t2,t3,t4,t5,t6,t7)) k.toNat p (bH (t1,t2,t3,t4,t5,t6,t7) k) (dO (ai,aj,ak,an,ag,ao,ah,aq) (t1,t2,t3,t4,t5,t6,t7) k))⟩
  have hly:=FD (t:=(t1,t2,t3,t4,t5,t6,t7)) (l:=(ay (ai,aj,ak,an,ag,ao,ah,aq) (t1,t2,t3,t4,t5,t6,t7)).set k.toNat p) (many:=bH (t1,t2,t3,t4,t5,t6,t7) k) hu
  refine ⟨⟨?_,?_⟩,?_,⟨⟨⟨tv,tv,tv,tv,tv,tv,tv,tv,tv⟩,⟨tv,tv,tv,tv,tv,tv,tv,tv⟩,⟨?_,?_⟩,tv,tv⟩,⟨?_,?_,?_,?_,?_⟩,?_,?_,?_,?_,?_,?_,?_⟩,fun |false=>fun w1=>⟨fun w2=>⟨[.s 4, .b 1004],[.s 85],rfl,[.s 5, .b 1005],[.s 86],rfl,[.s 8, .s 85, .b 1008],[.b 1008],rfl,[.s 9, .s 86, .b 1009],[.b 1009],rfl,[],[.s 10],rfl,?_⟩,fun w3=>⟨fun w4=>⟨⟨⟨⟨tv,tv,tv,tv,tv,tv,tv,tv,tv⟩,⟨tv,tv,tv,tv,tv,tv⟩,tv⟩,⟨?_,?_,?_,?_,?_⟩,⟨?_,?_,?_⟩,?_,?_,?_,?_⟩,fun x5 w6=>⟨[.s 4, .b 1004],[.s 93],rfl,[.s 5, .b 1005],[.s 94],rfl,[.s 8, .s 93, .b 1008],[.b 1008],rfl,[.s 9, .s 94, .b 1009],[.b 1009],rfl,[],[.s 10],rfl,?_⟩⟩,fun w7=>⟨[.s 4, .b 1004],[.s 93],rfl,[.s 5, .b 1005],[.s 94],rfl,[.s 8, .s 93, .b 1008],[.b 1008],rfl,[.s 9, .s 94, .b 1009],[.b 1009],rfl,[],[.s 10],rfl,?_⟩⟩⟩ |true=>fun w8=>⟨fun w9=>⟨[.s 4, .b 1004],[.s 85],rfl,[.s 5, .b 1005],[.s 86],rfl,[.s 8, .s 85, .b 1008],[.b 1008],rfl,[.s 9, .s 86, .b 1009],[.b 1009],rfl,[],[.s 10],rfl,?_⟩,fun df=>⟨fun ka=>⟨⟨⟨⟨tv,tv,tv,tv,tv,tv,tv,tv,tv⟩,⟨tv,tv,tv,tv,tv,tv⟩,tv⟩,⟨?_,?_,?_,?_,?_⟩,⟨?_,?_,?_⟩,?_,?_,?_,?_⟩,fun x12 iA=>⟨[.s 4, .b 1004],[.s 93],rfl,[.s 5, .b 1005],[.s 94],rfl,[.s 8, .s 93, .b 1008],[.b 1008],rfl,[.s 9, .s 94, .b 1009],[.b 1009],rfl,[],[.s 10],rfl,?_⟩⟩,fun gx=>⟨[.s 4, .b 1004],[.s 93],rfl,[.s 5, .b 1005],[.s 94],rfl,[.s 8, .s 93, .b 1008],[.b 1008],rfl,[.s 9, .s 94, .b 1009],[.b 1009],rfl,[],[.s 10],rfl,?_⟩⟩⟩⟩
  all_goals first|refine au ?_|refine aw ?_|exact sa|(dsimp only [en,fM];omega)|(dsimp only [et,fN];omega)|(dsimp only [nb,nM];omega)|(dsimp only [jT,kX];omega)|(dsimp only [cE,dD];omega)|exact sb|exact absurd (show true=false from w3) Bool.noConfusion|exact absurd (show false=true from w9) Bool.noConfusion|exact hu|exact sP|exact List.length_set.symm|(show ((ay (ai,aj,ak,an,ag,ao,ah,aq) (t1,t2,t3,t4,t5,t6,t7)).set k.toNat p).length=16;rw [List.length_set];exact hwl)|exact akV|exact akU|exact Nat.le_trans hug (by decide)|exact Nat.le_trans hud (by decide)|exact hly.1.n.1|exact hly.1.n.2.1|exact hly.1.n.2.2|exact hoa.1|exact hoa.2|exact Nat.le_trans hly.2.1 (by omega)|exact Nat.le_trans hly.2.2.1 (by omega)|skip
  ·have hz:(bK u (t1,t2,t3,t4,t5,t6,t7) ((ay (ai,aj,ak,an,ag,ao,ah,aq) (t1,t2,t3,t4,t5,t6,t7)).set k.toNat p) (bH (t1,t2,t3,t4,t5,t6,t7) k)).2.2=false:=(show false=(bK u (t1,t2,t3,t4,t5,t6,t7) ((ay (ai,aj,ak,an,ag,ao,ah,aq) (t1,t2,t3,t4,t5,t6,t7)).set k.toNat p) (bH (t1,t2,t3,t4,t5,t6,t7) k)).2.2 from w1).symm
   have e:(aU (ai,aj,ak,an,ag,ao,ah,aq) (t1,t2,t3,t4,t5,t6,t7) k text)=((bK u (t1,t2,t3,t4,t5,t6,t7) ((ay (ai,aj,ak,an,ag,ao,ah,aq) (t1,t2,t3,t4,t5,t6,t7)).set k.toNat p) (bH (t1,t2,t3,t4,t5,t6,t7) k)).1,(bK u (t1,t2,t3,t4,t5,t6,t7) ((ay (ai,aj,ak,an,ag,ao,ah,aq) (t1,t2,t3,t4,t5,t6,t7)).set k.toNat p) (bH (t1,t2,t3,t4,t5,t6,t7) k)).2.1,false):=by rw [hM];unfold pI;rw [hz];rfl
   refine ⟨[],[],_,_,_,rfl,rp,false,2,(by show false=(aU (ai,aj,ak,an,ag,ao,ah,aq) (t1,t2,t3,t4,t5,t6,t7) k text).2.2;rw [e]),?_,?_,rfl⟩
   ·(show _=gK (ai,aj,ak,an,ag,ao,ah,aq) (t1,t2,t3,t4,t5,t6,t7) k text false);unfold gK;first |(rw [e];rfl) |rfl
   ·(show _=jh (ai,aj,ak,an,ag,ao,ah,aq) (t1,t2,t3,t4,t5,t6,t7) k text false);unfold jh;first |(rw [e];rfl) |rfl
  ·exact absurd (show true=false from w3) Bool.noConfusion
  ·exact absurd (show true=false from w3) Bool.noConfusion
  ·exact absurd (show false=true from w9) Bool.noConfusion
  ·have hz:(bK u (t1,t2,t3,t4,t5,t6,t7) ((ay (ai,aj,ak,an,ag,ao,ah,aq) (t1,t2,t3,t4,t5,t6,t7)).set k.toNat p) (bH (t1,t2,t3,t4,t5,t6,t7) k)).2.2=true:=(show true=(bK u (t1,t2,t3,t4,t5,t6,t7) ((ay (ai,aj,ak,an,ag,ao,ah,aq) (t1,t2,t3,t4,t5,t6,t7)).set k.toNat p) (bH (t1,t2,t3,t4,t5,t6,t7) k)).2.2 from w8).symm
   have hpe:(!(ptrEq p (dO (ai,aj,ak,an,ag,ao,ah,aq) (t1,t2,t3,t4,t5,t6,t7) k)))=true:=ka
   have e:(aU (ai,aj,ak,an,ag,ao,ah,aq) (t1,t2,t3,t4,t5,t6,t7) k text)=(cG (bK u (t1,t2,t3,t4,t5,t6,t7) ((ay (ai,aj,ak,an,ag,ao,ah,aq) (t1,t2,t3,t4,t5,t6,t7)).set k.toNat p) (bH (t1,t2,t3,t4,t5,t6,t7) k)).1 (dO (ai,aj,ak,an,ag,ao,ah,aq) (t1,t2,t3,t4,t5,t6,t7) k),(bK u (t1,t2,t3,t4,t5,t6,t7) ((ay (ai,aj,ak,an,ag,ao,ah,aq) (t1,t2,t3,t4,t5,t6,t7)).set k.toNat p) (bH (t1,t2,t3,t4,t5,t6,t7) k)).2.1,true):=by rw [hM];unfold pI;rw [hz,hpe];rfl
   refine ⟨[1000930000,1000930001],[],_,_,_,rfl,rp,true,0,(by show true=(aU (ai,aj,ak,an,ag,ao,ah,aq) (t1,t2,t3,t4,t5,t6,t7) k text).2.2;rw [e]),?_,?_,rfl⟩
   ·(show _=gK (ai,aj,ak,an,ag,ao,ah,aq) (t1,t2,t3,t4,t5,t6,t7) k text true);unfold gK;first |(rw [e];rfl) |rfl
   ·(show _=jh (ai,aj,ak,an,ag,ao,ah,aq) (t1,t2,t3,t4,t5,t6,t7) k text true);unfold jh;first |(rw [e];rfl) |rfl
  ·have hz:(bK u (t1,t2,t3,t4,t5,t6,t7) ((ay (ai,aj,ak,an,ag,ao,ah,aq) (t1,t2,t3,t4,t5,t6,t7)).set k.toNat p) (bH (t1,t2,t3,t4,t5,t6,t7) k)).2.2=true:=(show true=(bK u (t1,t2,t3,t4,t5,t6,t7) ((ay (ai,aj,ak,an,ag,ao,ah,aq) (t1,t2,t3,t4,t5,t6,t7)).set k.toNat p) (bH (t1,t2,t3,t4,t5,t6,t7) k)).2.2 from w8).symm
   have hpe:(!(ptrEq p (dO (ai,aj,ak,an,ag,ao,ah,aq) (t1,t2,t3,t4,t5,t6,t7) k)))=false:=gx
   have e:(aU (ai,aj,ak,an,ag,ao,ah,aq) (t1,t2,t3,t4,t5,t6,t7) k text)=((bK u (t1,t2,t3,t4,t5,t6,t7) ((ay (ai,aj,ak,an,ag,ao,ah,aq) (t1,t2,t3,t4,t5,t6,t7)).set k.toNat p) (bH (t1,t2,t3,t4,t5,t6,t7) k)).1,(bK u (t1,t2,t3,t4,t5,t6,t7) ((ay (ai,aj,ak,an,ag,ao,ah,aq) (t1,t2,t3,t4,t5,t6,t7)).set k.toNat p) (bH (t1,t2,t3,t4,t5,t6,t7) k)).2.1,true):=by rw [hM];unfold pI;rw [hz,hpe];rfl
   refine ⟨[1000800000,1000800001],[],_,_,_,rfl,rp,true,0,(by show true=(aU (ai,aj,ak,an,ag,ao,ah,aq) (t1,t2,t3,t4,t5,t6,t7) k text).2.2;rw [e]),?_,?_,rfl⟩
   ·(show _=gK (ai,aj,ak,an,ag,ao,ah,aq) (t1,t2,t3,t4,t5,t6,t7) k text true);unfold gK;first |(rw [e];rfl) |rfl
   ·(show _=jh (ai,aj,ak,an,ag,ao,ah,aq) (t1,t2,t3,t4,t5,t6,t7) k text true);unfold jh;first |(rw [e];rfl) |rfl
 ·refine ⟨⟨⟨⟨⟨?_,?_⟩,⟨?_,?_⟩,⟨?_,?_⟩,tv,⟨?_,?_⟩,tv,⟨?_,?_⟩,tv,tv⟩,⟨tv,tv,tv,tv,tv,tv,tv,tv⟩,tv⟩,?_,?_⟩,fun x1 w2=>⟨⟨?_,?_⟩,?_,⟨⟨⟨⟨?_,?_⟩,⟨?_,?_⟩,⟨?_,?_⟩,tv,⟨?_,?_⟩,tv,⟨?_,?_⟩,tv,tv⟩,⟨tv,tv,tv,tv,tv,tv⟩,tv⟩,fun x3 w4=>?_,?_,?_⟩,fun x5 w6=>⟨⟨?_,?_⟩,tv,fun w7=>⟨fun w8=>⟨[.s 4, .b 1004],[.s 48],rfl,[.s 5, .b 1005],[.s 49],rfl,[.s 8, .s 48, .b 1008],[.b 1008],rfl,[.s 9, .s 49, .b 1009],[.b 1009],rfl,[],[.s 10],rfl,?_⟩,fun w9=>⟨fun df=>⟨fun ka=>⟨⟨⟨⟨tv,tv,tv,tv,tv,tv,tv,tv,tv⟩,tv,tv,tv⟩,⟨?_,?_,?_,?_,?_⟩,⟨?_,?_,?_⟩,?_⟩,fun x12 iA=>⟨fun gx=>⟨[.s 4, .b 1004],[.s 66],rfl,[.s 5, .b 1005],[.s 67],rfl,[.s 8, .s 66, .b 1008],[.b 1008],rfl,[.s 9, .s 67, .b 1009],[.b 1009],rfl,[],[.s 10],rfl,?_⟩,fun oU=>?_⟩⟩,fun j9=>?_⟩,fun wu=>?_⟩⟩,fun qI=>⟨fun ot=>⟨fun um=>⟨⟨⟨⟨tv,tv,tv,tv,tv,tv,tv,tv,tv⟩,tv,tv,tv⟩,⟨?_,?_,?_,?_,?_⟩,⟨?_,?_,?_⟩,?_⟩,fun x21 zf=>⟨fun xv=>⟨[.s 4, .b 1004],[.s 66],rfl,[.s 5, .b 1005],[.s 67],rfl,[.s 8, .s 66, .b 1008],[.b 1008],rfl,[.s 9, .s 67, .b 1009],[.b 1009],rfl,[],[.s 10],rfl,?_⟩,fun rl=>?_⟩⟩,fun w25=>?_⟩,fun EL=>?_⟩⟩⟩⟩
  all_goals first|refine au ?_|refine aw ?_|exact sa|(dsimp only [en,fM];omega)|(dsimp only [et,fN];omega)|(dsimp only [nb,nM];omega)|(dsimp only [jT,kX];omega)|(dsimp only [cE,dD];omega)|exact sb|exact absurd (cw w7) (cw df)|exact oI.rd|exact sP|exact oI.sz _ w4|exact hoa.1|(show _ < (ai.length:Int);rw [h64];exact hoa.2)|exact oI.n.1|exact oI.n.2.1|exact oI.n.2.2|skip
  ·have c1:decide (gN (ai,aj,ak,an,ag,ao,ah,aq) (t1,t2,t3,t4,t5,t6,t7) k=text)=true:=w7
   have c2:decide (bH (t1,t2,t3,t4,t5,t6,t7) k=aZ.many (t1,t2,t3,t4,t5,t6,t7))=true:=w8
   have e:(aU (ai,aj,ak,an,ag,ao,ah,aq) (t1,t2,t3,t4,t5,t6,t7) k text)=((ai,aj,ak,an,ag,ao,ah,aq),(t1,t2,t3,t4,t5,t6,t7),true):=by unfold aU;rw [c1,c2];rfl
   refine ⟨[3,4],[],_,_,_,rfl,rp,true,0,(by show true=(aU (ai,aj,ak,an,ag,ao,ah,aq) (t1,t2,t3,t4,t5,t6,t7) k text).2.2;rw [e]),?_,?_,rfl⟩
   ·(show _=gK (ai,aj,ak,an,ag,ao,ah,aq) (t1,t2,t3,t4,t5,t6,t7) k text true);unfold gK;first |(rw [e];rfl) |rfl
   ·(show _=jh (ai,aj,ak,an,ag,ao,ah,aq) (t1,t2,t3,t4,t5,t6,t7) k text true);unfold jh;first |(rw [e];rfl) |rfl
  ·exact absurd (cw w7) (cw df)
  ·exact absurd (cw w7) (cw df)
  ·exact absurd (cw w7) (cw df)
  ·have c1:decide (gN (ai,aj,ak,an,ag,ao,ah,aq) (t1,t2,t3,t4,t5,t6,t7) k=text)=true:=w7
   have c2:decide (bH (t1,t2,t3,t4,t5,t6,t7) k=aZ.many (t1,t2,t3,t4,t5,t6,t7))=false:=w9
   have c3:decide (gN (ai,aj,ak,an,ag,ao,ah,aq) (t1,t2,t3,t4,t5,t6,t7) k≠text)=false:=wu
   have e:(aU (ai,aj,ak,an,ag,ao,ah,aq) (t1,t2,t3,t4,t5,t6,t7) k text)=pI (ai,aj,ak,an,ag,ao,ah,aq) (t1,t2,t3,t4,t5,t6,t7) (ay (ai,aj,ak,an,ag,ao,ah,aq) (t1,t2,t3,t4,t5,t6,t7)) k.toNat (dO (ai,aj,ak,an,ag,ao,ah,aq) (t1,t2,t3,t4,t5,t6,t7) k) (bH (t1,t2,t3,t4,t5,t6,t7) k) (dO (ai,aj,ak,an,ag,ao,ah,aq) (t1,t2,t3,t4,t5,t6,t7) k):=by unfold aU;rw [c1,c2,c3];rfl
   refine joinTail tail (((ai,aj,ak,an,ag,ao,ah,aq),dO (ai,aj,ak,an,ag,ao,ah,aq) (t1,t2,t3,t4,t5,t6,t7) k)) [] ((⟨oI,⟨hg,hd⟩,e⟩)) ?_
   repeat' (first |exact trivial |rfl |exact rfl |exact fH List.length_append.symm |apply And.intro)
  ·have c1:decide (gN (ai,aj,ak,an,ag,ao,ah,aq) (t1,t2,t3,t4,t5,t6,t7) k=text)=false:=qI
   have c3:decide (gN (ai,aj,ak,an,ag,ao,ah,aq) (t1,t2,t3,t4,t5,t6,t7) k≠text)=true:=ot
   have c4:decide (text≠⟨#[]⟩)=true:=um
   have c5:(!(a6 (ai,aj,ak,an,ag,ao,ah,aq) text 0).2.2)=true:=xv
   have e:(aU (ai,aj,ak,an,ag,ao,ah,aq) (t1,t2,t3,t4,t5,t6,t7) k text)=((ai,aj,ak,an,ag,ao,ah,aq),(t1,t2,t3,t4,t5,t6,t7),false):=by unfold aU;rw [c1,c3,c4,c5];rfl
   have e2:(a6 (ai,aj,ak,an,ag,ao,ah,aq) text 0).1=(ai,aj,ak,an,ag,ao,ah,aq):=by
    rcases jC (ai,aj,ak,an,ag,ao,ah,aq) text 0 with ⟨_,h⟩ |⟨_,h,_⟩
    ·exact h
    ·rw [h] at c5;cases c5
   refine ⟨[],[],_,_,_,rfl,rp,false,2,(by show false=(aU (ai,aj,ak,an,ag,ao,ah,aq) (t1,t2,t3,t4,t5,t6,t7) k text).2.2;rw [e]),?_,?_,rfl⟩
   ·(show _=gK (ai,aj,ak,an,ag,ao,ah,aq) (t1,t2,t3,t4,t5,t6,t7) k text false);unfold gK;first |(rw [e];rfl) |(rw [e];exact congrArg (fun x:ax=>GD x++[AV.zz,AV.zz]) e2) |rfl
   ·(show _=jh (ai,aj,ak,an,ag,ao,ah,aq) (t1,t2,t3,t4,t5,t6,t7) k text false);unfold jh;first |(rw [e];rfl) |(rw [e];exact congrArg (fun x:ax=>GD x++[AV.zz,AV.zz]) e2) |rfl
  ·have c1:decide (gN (ai,aj,ak,an,ag,ao,ah,aq) (t1,t2,t3,t4,t5,t6,t7) k=text)=false:=qI
   have c3:decide (gN (ai,aj,ak,an,ag,ao,ah,aq) (t1,t2,t3,t4,t5,t6,t7) k≠text)=true:=ot
   have c4:decide (text≠⟨#[]⟩)=true:=um
   have c5:(!(a6 (ai,aj,ak,an,ag,ao,ah,aq) text 0).2.2)=false:=rl
   have hws:=DJ (text:=text) (lv:=0) oI
   have e:(aU (ai,aj,ak,an,ag,ao,ah,aq) (t1,t2,t3,t4,t5,t6,t7) k text)=pI (a6 (ai,aj,ak,an,ag,ao,ah,aq) text 0).1 (t1,t2,t3,t4,t5,t6,t7) (ay (ai,aj,ak,an,ag,ao,ah,aq) (t1,t2,t3,t4,t5,t6,t7)) k.toNat (a6 (ai,aj,ak,an,ag,ao,ah,aq) text 0).2.1 (bH (t1,t2,t3,t4,t5,t6,t7) k) (dO (ai,aj,ak,an,ag,ao,ah,aq) (t1,t2,t3,t4,t5,t6,t7) k):=by unfold aU;rw [c1,c3,c4,c5];rfl
   refine joinTail tail (((a6 (ai,aj,ak,an,ag,ao,ah,aq) text 0).1,(a6 (ai,aj,ak,an,ag,ao,ah,aq) text 0).2.1)) [] ((⟨hws.wf,⟨(by show (a6 (ai,aj,ak,an,ag,ao,ah,aq) text 0).1.gone.length≤1046000;rw [hws.gone];exact hg),(by show (a6 (ai,aj,ak,an,ag,ao,ah,aq) text 0).1.dead.length≤1046000;rw [hws.dead];exact hd)⟩,e⟩)) ?_
   repeat' (first |exact trivial |rfl |exact rfl |exact fH List.length_append.symm |apply And.intro)
  ·have c1:decide (gN (ai,aj,ak,an,ag,ao,ah,aq) (t1,t2,t3,t4,t5,t6,t7) k=text)=false:=qI
   have c3:decide (gN (ai,aj,ak,an,ag,ao,ah,aq) (t1,t2,t3,t4,t5,t6,t7) k≠text)=true:=ot
   have c4:decide (text≠⟨#[]⟩)=false:=w25
   have e:(aU (ai,aj,ak,an,ag,ao,ah,aq) (t1,t2,t3,t4,t5,t6,t7) k text)=pI (ai,aj,ak,an,ag,ao,ah,aq) (t1,t2,t3,t4,t5,t6,t7) (ay (ai,aj,ak,an,ag,ao,ah,aq) (t1,t2,t3,t4,t5,t6,t7)) k.toNat bL (bH (t1,t2,t3,t4,t5,t6,t7) k) (dO (ai,aj,ak,an,ag,ao,ah,aq) (t1,t2,t3,t4,t5,t6,t7) k):=by unfold aU;rw [c1,c3,c4];rfl
   refine joinTail tail (((ai,aj,ak,an,ag,ao,ah,aq),bL)) [] ((⟨oI,⟨hg,hd⟩,e⟩)) ?_
   repeat' (first |exact trivial |rfl |exact rfl |exact fH List.length_append.symm |apply And.intro)
  ·exact absurd (ca qI) (ca EL)
end GL
namespace GL
def dq:List Pt→ax→ax
 |[],s=>s
 |p::l,s=>dq l (cG s p)
theorem CW:∀ {l:List Pt} {s:ax},s.wf→(dq l s).wf∧(dq l s).gone.length≤s.gone.length+l.length∧(dq l s).dead.length≤s.dead.length+l.length
 |[],s,h=>⟨h,Nat.le_refl _,Nat.le_refl _⟩
 |o::l,s,h=>by
  have h1:=CW (l:=l) (qf (p:=o) h)
  have h2:=o6 s o
  rw [List.length_cons]
  exact ⟨h1.1,by have:=h1.2.1;show (dq l (cG s o)).gone.length≤_;omega,by have:=h1.2.2;show (dq l (cG s o)).dead.length≤_;omega⟩
theorem wW (s:ax) (p:Pt):(cG s p).bY=s.bY:=by
 unfold cG
 cases ar p with
 |true=>rfl
 |false=>
  cases decide (p.2.1≤s.bT) with
  |true=>rfl
  |false=>
   cases decide (p.2.1 < s.bY) with
   |true=>rfl
   |false=>rfl
theorem yS:∀(l:List Pt) (s:ax),(dq l s).bY=s.bY
 |[],_=>rfl
 |p::l,s=>(yS l (cG s p)).trans (wW s p)
theorem I4:∀(l stays:List Pt) (s:ax),(dQ l stays s).bY=s.bY
 |[],_,_=>rfl
 |p::l,stays,s=>by
  refine (I4 l stays _).trans ?_
  cases gQ stays p with
  |true=>rfl
  |false=>exact wW s p
theorem IA {s:ax} {t:aZ} {l:List Pt} {many:Int} (h:s.wf):(bK s t l many).1.bY=s.bY:=by
 unfold bK
 have h1:=wN (f:=3) (t:=t) (d:=bb many) (lv:=1) (l:=l.take many.toNat) (sy:=[]) h
 cases hf:mm 3 s t (bb many) 1 (l.take many.toNat) [] with
 |mk s' r=>
  rw [hf] at h1
  cases r with
  |none=>exact h1.bY
  |some q=>obtain ⟨x,y⟩:=q;exact (I4 _ _ s').trans h1.bY
theorem CG {s:ax} {t:aZ} {l:List Pt} {many:Int} (h:s.wf) (hz:(bK s t l many).2.2=false):uk s (bK s t l many).1:=by
 unfold bK at hz ⊢
 have h1:=wN (f:=3) (t:=t) (d:=bb many) (lv:=1) (l:=l.take many.toNat) (sy:=[]) h
 cases hf:mm 3 s t (bb many) 1 (l.take many.toNat) [] with
 |mk s' r=>
  rw [hf] at h1 hz
  cases r with
  |none=>exact h1
  |some q=>cases hz
def UN (s:ax) (t:aZ) (many:Int):ax×aZ×Bool:=
 bif !(bK s t (ay s t) many).2.2 then ((bK s t (ay s t) many).1,t,false)
 else (dq ((ay s t).drop many.toNat) (bK s t (ay s t) many).1,(bK s t (ay s t) many).2.1,true)
def cA (s:ax) (t:aZ) (many:Int):ax×aZ×Bool:=bif decide (many=t.many) then (s,t,true) else UN s t many
theorem afc {s:ax} {t:aZ} {many:Int} (h:decide (many=t.many)=true):cA s t many=(s,t,true):=by unfold cA;rw [h];rfl
theorem afb {s:ax} {t:aZ} {many:Int} (h:decide (many=t.many)=false) (h2:(!(bK s t (ay s t) many).2.2)=true):cA s t many=((bK s t (ay s t) many).1,t,false):=by unfold cA UN;rw [h,h2];rfl
theorem afa {s:ax} {t:aZ} {many:Int} (h:decide (many=t.many)=false) (h2:(!(bK s t (ay s t) many).2.2)=false):cA s t many=(dq ((ay s t).drop many.toNat) (bK s t (ay s t) many).1,(bK s t (ay s t) many).2.1,true):=by unfold cA UN;rw [h,h2];rfl
theorem acX (a b l:Int) (s:ByteArray):aV (gi a b l s).1=true:=by
 cases h1:ir s.size 1 128 with
 |false=>rw [BS h1];decide
 |true=>cases h2:aV (a,b,(s.size:Int),sV s,l) with
  |false=>rw [BR h2];decide
  |true=>rw [BQ h1 h2];exact h2
theorem FU (s:ax) (text:ByteArray) (lv:Int):aV (a6 s text lv).2.1=true:=by
 cases h:decide (cY s text lv < 0) with
 |true=>rw [nA rfl h];rfl
 |false=>cases h2: !(gi (cY s text lv) s.bY lv text).2 with
  |true=>rw [my rfl h h2];rfl
  |false=>rw [oT rfl h h2];exact acX _ _ _ _
theorem aeN {s:ax} {l:List Pt} {lv:Int} {o:Pt} (h:aV o=true):aV (dT s l lv o).2.1=true:=by
 cases h1:nV l with
 |true=>rw [JF h1];rfl
 |false=>cases h2:fw s l o with
  |true=>rw [JE h1 h2];exact h
  |false=>rw [tQ h1 h2];exact FU _ _ _
theorem M3 {lv:Int} {j4 l:List Pt} (hw:∀q∈j4,aV q=true):∀ {f:Nat} {s s':ax} {i:Nat} {nx sy n y:List Pt},fB f s lv j4 l i nx sy=(s',some (n,y))→(∀q∈nx,aV q=true)→∀q∈n,aV q=true
 |0,s,s',i,nx,sy,n,y,h,hn=>by cases h;exact hn
 |f+1,s,s',i,nx,sy,n,y,h,hn=>by
  unfold fB at h
  cases hc:decide ((i:Int) * 4 < l.length) with
  |false=>rw [hc] at h;cases h;exact hn
  |true=>
   rw [hc,cond_true] at h
   cases hf: !(dT s (qC l i) lv (nth ab j4 i)).2.2 with
   |true=>rw [hf] at h;cases h
   |false=>
    rw [hf,cond_false] at h
    refine M3 hw h fun q hq=>?_
    rcases List.mem_append.1 hq with hq |hq
    ·exact hn q hq
    ·rw [List.mem_singleton.1 hq];exact aeN (oA hw i)
theorem TK {t:aZ} {d:Int} (ht:t.rd):∀ {f:Nat} {s s':ax} {lv:Int} {l sy n y:List Pt},mm f s t d lv l sy=(s',some (n,y))→(∀q∈l,aV q=true)→∀q∈n,aV q=true
 |0,s,s',lv,l,sy,n,y,h,hn=>by cases h;exact hn
 |f+1,s,s',lv,l,sy,n,y,h,hn=>by
  unfold mm at h
  cases hc:decide (lv≤d) with
  |false=>rw [hc] at h;cases h;exact hn
  |true=>
   rw [hc,cond_true] at h
   cases hf:fB 5 s lv (dG s t d lv) (eF l) 0 [] sy with
   |mk u r=>
    rw [hf] at h
    cases r with
    |none=>cases h
    |some q=>exact TK ht h (M3 (ZI ht) hf fun _ h=>by cases h)
structure aZ.ok (t:aZ):Prop where
 rd:t.rd
 m0:0≤t.many
 m1:t.many≤16
theorem QD:ny.ok:=⟨⟨by decide,by decide⟩,by decide,by decide⟩
theorem TJ {s:ax} {t:aZ} {l:List Pt} {many:Int} (ht:t.rd) (hl:∀q∈l,aV q=true) (h0:0≤many) (h1:many≤16):(bK s t l many).2.1.ok:=by
 unfold bK
 cases hf:mm 3 s t (bb many) 1 (l.take many.toNat) [] with
 |mk u r=>
  cases r with
  |none=>exact QD
  |some q=>
   have h:=TK ht hf fun q hq=>hl q (List.mem_of_mem_take hq)
   refine ⟨⟨(o9 many).2,?_⟩,h0,h1⟩
   show aV (rootOf q.1)=true
   unfold rootOf
   cases decide ((q.1.length:Int) > 0) with
   |true=>exact oA h 0
   |false=>rfl
theorem uP {s:ax} {t:aZ} (h:t.rd) {k:Nat} {p:Pt} (hp:aV p=true):∀q∈(ay s t).set k p,aV q=true:=by
 intro q hq
 rcases List.mem_or_eq_of_mem_set hq with hq |hq
 ·exact lz h q hq
 ·rw [hq];exact hp
structure ax.wg (s:ax) (n:Nat):Prop where
 wf:s.wf
 g:s.gone.length≤n
 d:s.dead.length≤n
 t:s.bY≤((1000+n:Nat):Int)
theorem ax.wg.mono {s:ax} {n m:Nat} (h:s.wg n) (hm:n≤m):s.wg m:=⟨h.wf,Nat.le_trans h.g hm,Nat.le_trans h.d hm,by have:=h.t;omega⟩
theorem uk.wg {s u:ax} {n:Nat} (h:uk s u) (hs:s.wg n):u.wg n:=⟨h.wf,by rw [h.gone];exact hs.g,by rw [h.dead];exact hs.d,by rw [h.bY];exact hs.t⟩
theorem OD {s:ax} {t:aZ} {l:List Pt} {k:Nat} {p old:Pt} {many:Int} {n:Nat} (hs:s.wg n) (ht:t.rd) (hl:∀q∈l.set k p,aV q=true) (h0:0≤many) (h1:many≤16):(pI s t l k p many old).1.wg (n+6)∧(pI s t l k p many old).2.1.ok∧((pI s t l k p many old).2.2=false→uk s (pI s t l k p many old).1):=by
 have h2:=FD (t:=t) (l:=l.set k p) (many:=many) hs.wf
 have h3:=TJ (s:=s) ht hl h0 h1
 have hg:=hs.g;have hd:=hs.d
 unfold pI
 cases hz: !(bK s t (l.set k p) many).2.2 with
 |true=>
  have h4:=CG hs.wf (KA hz)
  exact ⟨(h4.wg hs).mono (by omega),h3,fun _=>h4⟩
 |false=>
  refine ⟨?_,h3,fun h=>by cases h⟩
  cases !(ptrEq p old) with
  |true=>
   have h5:=o6 (bK s t (l.set k p) many).1 old
   exact ⟨qf h2.1,by show (cG _ old).gone.length≤_;omega,by show (cG _ old).dead.length≤_;omega,by show (cG _ old).bY≤_;rw [wW,IA hs.wf];have:=hs.t;omega⟩
  |false=>exact ⟨h2.1,by show (bK s t (l.set k p) many).1.gone.length≤_;omega,by show (bK s t (l.set k p) many).1.dead.length≤_;omega,by show (bK s t (l.set k p) many).1.bY≤_;rw [IA hs.wf];have:=hs.t;omega⟩
theorem nq {s:ax} {t:aZ} {k:Int} {text:ByteArray} {n:Nat} (hs:s.wg n) (ht:t.ok) (hk0:0≤k) (hk:k≤15):(aU s t k text).1.wg (n+6)∧(aU s t k text).2.1.ok∧((aU s t k text).2.2=false→uk s (aU s t k text).1):=by
 have CQ:0≤bH t k:=by unfold bH;have:=ht.m0;omega
 have hm1:bH t k≤16:=by unfold bH;have:=ht.m1;omega
 have hold:aV (dO s t k)=true:=oA (lz ht.rd) _
 have hrefl:uk s s:=⟨hs.wf,rfl,rfl,rfl,rfl,rfl⟩
 unfold aU
 cases decide (gN s t k=text)&&decide (bH t k=t.many) with
 |true=>exact ⟨hs.mono (by omega),ht,fun h=>by cases h⟩
 |false=>
  cases decide (gN s t k≠text) with
  |true=>
   cases decide (text≠⟨#[]⟩) with
   |true=>
    have hw:=DJ (text:=text) (lv:=0) hs.wf
    cases hz: !(a6 s text 0).2.2 with
    |true=>exact ⟨hs.mono (by omega),ht,fun _=>hrefl⟩
    |false=>
     have h:=OD (old:=dO s t k) (hw.wg hs) ht.rd (uP (s:=s) (k:=k.toNat) ht.rd (FU s text 0)) CQ hm1
     exact ⟨h.1,h.2.1,fun hh=>hw.trans (h.2.2 hh)⟩
   |false=>exact OD hs ht.rd (uP ht.rd (by decide)) CQ hm1
  |false=>exact OD hs ht.rd (uP ht.rd hold) CQ hm1
theorem FP {s:ax} {t:aZ} {many:Int} {n:Nat} (hs:s.wg n) (ht:t.ok) (h0:0≤many) (h1:many≤16):(cA s t many).1.wg (n+21)∧(cA s t many).2.1.ok∧((cA s t many).2.2=false→uk s (cA s t many).1):=by
 have h2:=FD (t:=t) (l:=ay s t) (many:=many) hs.wf
 have h3:=TJ (s:=s) ht.rd (lz (s:=s) ht.rd) h0 h1
 have hg:=hs.g;have hd:=hs.d
 unfold cA
 cases decide (many=t.many) with
 |true=>exact ⟨hs.mono (by omega),ht,fun h=>by cases h⟩
 |false=>
  show (UN s t many).1.wg (n+21)∧(UN s t many).2.1.ok∧((UN s t many).2.2=false→uk s (UN s t many).1)
  unfold UN
  cases hz: !(bK s t (ay s t) many).2.2 with
  |true=>
   have h4:=CG hs.wf (KA hz)
   exact ⟨(h4.wg hs).mono (by omega),ht,fun _=>h4⟩
  |false=>
   have h5:=CW (l:=(ay s t).drop many.toNat) h2.1
   have h6:((ay s t).drop many.toNat).length≤16:=by rw [List.length_drop,fW ht.rd];omega
   refine ⟨⟨h5.1,?_,?_,?_⟩,h3,fun h=>by cases h⟩
   ·show (dq ((ay s t).drop many.toNat) (bK s t (ay s t) many).1).gone.length≤_;omega
   ·show (dq ((ay s t).drop many.toNat) (bK s t (ay s t) many).1).dead.length≤_;omega
   ·show (dq ((ay s t).drop many.toNat) (bK s t (ay s t) many).1).bY≤_;rw [yS,IA hs.wf];have:=hs.t;omega
end GL
namespace GL
theorem size_pos {s:ByteArray} (h:s≠⟨#[]⟩):1≤s.size:=by
 cases s with
 |mk a=>
  refine Nat.one_le_iff_ne_zero.2 fun e=>h ?_
  have:a= #[]:=Array.eq_empty_of_size_eq_zero e
  rw [this]
def pcF:Nat→ByteArray→List ByteArray
 |0,_=>[]
 |f+1,s=>bif decide ((s.size:Int) > 128) then s.extract 0 128::pcF f (s.extract 128 s.size) else bif decide (s≠⟨#[]⟩) then [s] else []
def kA (s:ByteArray):List ByteArray:=pcF (s.size+1) s
theorem ac3 {f:Nat} {s:ByteArray} (h:decide ((s.size:Int) > 128)=true):pcF (f+1) s=s.extract 0 128::pcF f (s.extract 128 s.size):=by rw [pcF,h];rfl
theorem ac2 {f:Nat} {s:ByteArray} (h:decide ((s.size:Int) > 128)=false) (h2:decide (s≠⟨#[]⟩)=true):pcF (f+1) s=[s]:=by rw [pcF,h,h2];rfl
theorem ac1 {f:Nat} {s:ByteArray} (h:decide ((s.size:Int) > 128)=false) (h2:decide (s≠⟨#[]⟩)=false):pcF (f+1) s=[]:=by rw [pcF,h,h2];rfl
theorem YX {u:ByteArray} (h:(u.size:Int) > 0):(u.extract 0 ((u.size:Int) - 1).toNat).size+1=u.size:=by
 rw [ByteArray.size_extract,Nat.min_eq_left (by omega)];omega
def lI (s:ByteArray):Prop:=s.size≤1000000
def lC (s:ByteArray):AV:=.s (.xs 0 1 0 (kA s).length)
def nQ (s:ByteArray):List AV:=[.rs aa (kA s)]
def qk:Con where
 A:=[.s .str]
 B:=[]
 pre:=fun x b=>lI x
 α:=fun _ _=>Unit
 φ:=fun _ _ _=>True
 r:=fun x b _=>lC x
 o:=fun x b _=>nQ x
 nf:=1
set_option maxRecDepth 100000 in
theorem ID:Has Tryz.prog 153 qk:=by
 refine Has.ofE (fun _=>true) (fun _=>false) (fun _=>false) (l:=[]) trivial (fn:=Tryz.f153) Tryz.func153 rfl (by decide) (cH rfl) ?_
 rintro (s:ByteArray) _ (hp:lI s)
 show vc _ _ _ _ (entry [.str s] []) _
 unfold lI at hp
 refine ⟨tv,?_⟩
 all_goals first|refine au ?_|refine aw ?_|exact sa|exact sb|skip
 refine cI (l:=[]) (ex:=fun _=>true) (wr:=fun _=>false) (pt:=fun _=>false) trivial [] (fun y:Nat×List ByteArray×ByteArray=>[(.s 0, .str y.2.2),(.s 3, .s (.xs 1004 1 0 y.2.1.length)),(.b 1004, .rs aa y.2.1)]) (fun y=>y.2.2.size < y.1∧y.1≤s.size+1∧y.2.1.length+y.1≤s.size+1∧y.2.1++pcF y.1 y.2.2=kA s) (fun y=>y.1) (s.size+1,[],s) [] ⟨Nat.lt_succ_self _,Nat.le_refl _,by show 0+(s.size+1)≤s.size+1;omega,rfl⟩ ru ?_
 rintro ⟨f,out,u⟩ ⟨(hf:u.size < f),(hf1:f≤s.size+1),(hol:out.length+f≤s.size+1),(he:out++pcF f u=kA s)⟩
 refine ⟨fun w1=>⟨⟨?_,?_,?_⟩,tv,⟨⟨?_,?_⟩,?_,?_⟩,⟨?_,?_,?_⟩,?_⟩,fun w2=>⟨fun w3=>⟨tv,⟨⟨?_,?_⟩,?_,?_⟩,?_⟩,fun w4=>?_⟩⟩
 all_goals first|refine au ?_|refine aw ?_|exact sa|exact sb|skip
 ·obtain ⟨g,rfl⟩:∃g,f=g+1:=⟨f - 1,by omega⟩
  have db:decide ((u.size:Int) > 128)=true:=w1
  have al4:=cw db
  refine ⟨(g,out++[u.extract 0 128],u.extract 128 u.size),[(1004,1012)],?_,?_,?_⟩
  rotate_right
  ·exact rq
  ·refine ⟨by show (u.extract 128 u.size).size < g;rw [ByteArray.size_extract];omega,by show g≤s.size+1;omega,by show (out++[u.extract 0 128]).length+g≤s.size+1;rw [List.length_append];show out.length+1+g≤_;omega,?_⟩
   rw [←he,ac3 db,List.append_assoc];rfl
  ·exact Nat.lt_succ_self g
 ·obtain ⟨g,rfl⟩:∃g,f=g+1:=⟨f - 1,by omega⟩
  have e:kA s=out++[u]:=by rw [←he,ac2 w2 w3]
  refine ⟨[1020],[],_,_,_,rfl,rp,(),tv,?_,?_,rfl⟩
  ·(show _=lC s);unfold lC;first |(rw [e,List.length_append];rfl) |(rw [e];rfl) |rfl
  ·(show _=nQ s);unfold nQ;first |(rw [e,List.length_append];rfl) |(rw [e];rfl) |rfl
 ·obtain ⟨g,rfl⟩:∃g,f=g+1:=⟨f - 1,by omega⟩
  have e:kA s=out:=by rw [←he,ac1 w2 w4,List.append_nil]
  refine ⟨[1004],[],_,_,_,rfl,rp,(),tv,?_,?_,rfl⟩
  ·(show _=lC s);unfold lC;first |(rw [e];rfl) |rfl
  ·(show _=nQ s);unfold nQ;first |(rw [e];rfl) |rfl
def zrB (s:ByteArray):Bool:=decide ((s.size:Int) > 0)&&decide (bG s ((s.size:Int) - 1).toNat=0)
def zrF:Nat→ByteArray→ByteArray
 |0,s=>s
 |f+1,s=>bif zrB s then zrF f (s.extract 0 ((s.size:Int) - 1).toNat) else s
def zrM (s:ByteArray):ByteArray:=zrF (s.size+1) s
theorem agJ {f:Nat} {s:ByteArray} (h:zrB s=true):zrF (f+1) s=zrF f (s.extract 0 ((s.size:Int) - 1).toNat):=by rw [zrF,h];rfl
theorem acv {f:Nat} {s:ByteArray} (h:zrB s=false):zrF (f+1) s=s:=by rw [zrF,h];rfl
def pU (s:ByteArray):Prop:=s.size≤1000000
def pC (s:ByteArray):AV:=.s (.str (zrM s))
def abt (s:ByteArray):List AV:=[]
def vV:Con where
 A:=[.s .str]
 B:=[]
 pre:=fun x b=>pU x
 α:=fun _ _=>Unit
 φ:=fun _ _ _=>True
 r:=fun x b _=>pC x
 o:=fun x b _=>abt x
 nf:=0
set_option maxRecDepth 100000 in
theorem TN:Has Tryz.prog 156 vV:=by
 refine Has.ofE (fun _=>true) (fun _=>false) (fun _=>false) (l:=[]) trivial (fn:=Tryz.f156) Tryz.func156 rfl (by decide) (cH rfl) ?_
 rintro (s:ByteArray) _ (hp:pU s)
 show vc _ _ _ _ (entry [.str s] []) _
 unfold pU at hp
 refine cI (l:=[]) (ex:=fun _=>true) (wr:=fun _=>false) (pt:=fun _=>false) trivial [] (fun y:Nat×ByteArray=>[(.s 0, .str y.2)]) (fun y=>y.2.size < y.1∧y.2.size≤1000000∧zrF y.1 y.2=zrM s) (fun y=>y.1) (s.size+1,s) [] ⟨Nat.lt_succ_self _,hp,rfl⟩ ru ?_
 rintro ⟨f,u⟩ ⟨(hf:u.size < f),(hu:u.size≤1000000),(he:zrF f u=zrM s)⟩
 obtain ⟨g,rfl⟩:∃g,f=g+1:=⟨f - 1,by omega⟩
 refine ⟨tv,fun w1=>⟨⟨?_,?_⟩,⟨?_,?_⟩,fun w2=>⟨⟨?_,?_⟩,⟨?_,?_,?_⟩,?_⟩,fun w3=>?_⟩,fun w4=>?_⟩
 all_goals first|refine au ?_|refine aw ?_|exact sa|exact sb|skip
 ·have hb:zrB u=true:=by unfold zrB;rw [w1,w2];rfl
  have h1:(u.size:Int) > 0:=cw w1
  refine ⟨(g,u.extract 0 ((u.size:Int) - 1).toNat),[],?_,?_,?_⟩
  rotate_right
  ·exact rq
  ·exact ⟨by show (u.extract 0 ((u.size:Int) - 1).toNat).size < g;have:=YX h1;omega,by show (u.extract 0 ((u.size:Int) - 1).toNat).size≤1000000;have:=YX h1;omega,by rw [←he,agJ hb]⟩
  ·exact Nat.lt_succ_self g
 ·have hb:zrB u=false:=by unfold zrB;rw [w1,show decide (bG u ((u.size:Int) - 1).toNat=0)=false from w3];rfl
  have e:zrM s=u:=by rw [←he,acv hb]
  refine ⟨[],[],_,_,_,rfl,rp,(),tv,?_,?_,rfl⟩
  ·(show _=pC s);unfold pC;first |(rw [e];rfl) |rfl
  ·rfl
 ·have hb:zrB u=false:=by unfold zrB;rw [show decide ((u.size:Int) > 0)=false from w4];rfl
  have e:zrM s=u:=by rw [←he,acv hb]
  refine ⟨[],[],_,_,_,rfl,rp,(),tv,?_,?_,rfl⟩
  ·(show _=pC s);unfold pC;first |(rw [e];rfl) |rfl
  ·rfl
def kF (n:Int):ByteArray:=ft (List.replicate (max 0 n).toNat 0)
def jG (n:Int):Prop:=n≤100000
def sZ (n:Int):AV:=.s (.str (kF n))
def R9 (n:Int):List AV:=[]
def ix:Con where
 A:=[.s .int]
 B:=[]
 pre:=fun x b=>jG x
 α:=fun _ _=>Unit
 φ:=fun _ _ _=>True
 r:=fun x b _=>sZ x
 o:=fun x b _=>R9 x
 nf:=0
set_option maxRecDepth 100000 in
theorem tH:Has Tryz.prog 139 ix:=by
 refine Has.ofE (fun _=>true) (fun _=>false) (fun _=>false) (l:=[]) trivial (fn:=Tryz.f139) Tryz.func139 rfl (by decide) (cH rfl) ?_
 rintro (n:Int) _ (hp:jG n)
 show vc _ _ _ _ (entry [.int n] []) _
 have hn:n≤100000:=hp
 refine ⟨⟨?_,⟨?_,?_⟩⟩,⟨⟨?_,?_⟩,?_⟩⟩
 all_goals first|refine au ?_|refine aw ?_|exact sa|exact sb|skip
 refine ⟨[],[],_,_,_,rfl,rp,(),tv,?_,?_,rfl⟩
 ·(show _=sZ n);unfold sZ;first |rfl
 ·rfl
end GL
end Go.Proofs.YtbfgjadbfjkcdaaGreatDoor
