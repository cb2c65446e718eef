/- Part 6 of the proof of a drawn law. -/
import Derived.Test.YtndmmmcglebllaaGreatDoorRad
import Derived.Test.YtndmmmcglebllaaGreatDoorRae
set_option maxHeartbeats 20000000
set_option maxRecDepth 100000
set_option linter.all false
namespace Go.Proofs.YtndmmmcglebllaaGreatDoor
namespace GL
structure tT (s u:ay):Prop where
 wf:u.wf
 gone:u.gone=s.gone
 dead:u.dead=s.dead
 cz:u.cz=s.cz
 cm:u.cm=s.cm
 same:u.same=s.same
def tT.trans {a b c:ay}(h:tT a b) (h2:tT b c):tT a c:=⟨h2.wf,h2.gone.trans h.gone,h2.dead.trans h.dead,h2.cz.trans h.cz,h2.cm.trans h.cm,h2.same.trans h.same⟩
def agY {s:ay}{l:List Pt}{lv:Int}{o:Pt}(h:s.wf):tT s (eU s l lv o).1:=by
 obtain⟨h1,h2,h3,h4,h5⟩:=IC s l lv o
 exact⟨WO h,h1,h2,h3,h4,h5⟩
def IV {s:ay}{text:ByteArray}{lv:Int}(h:s.wf):tT s (bm s text lv).1:=by
 refine⟨FR h,?_,?_,?_,?_,?_⟩<;>
 ·rcases mK s text lv with ⟨_,e⟩ |⟨k,_,e,_⟩<;>rw [e]<;>rfl
def O9 {lv:Int}{mj l:List Pt}:∀{f:Nat}{s:ay}{i:Nat}{nx sy:List Pt},s.wf->tT s (iC f s lv mj l i nx sy).1
 |0,s,i,nx,sy,h=>⟨h,rfl,rfl,rfl,rfl,rfl⟩
 |f+1,s,i,nx,sy,h=>by
  unfold iC
  cases decide ((i:Int)*4<l.length) with
  |false=>exact⟨h,rfl,rfl,rfl,rfl,rfl⟩
  |true=>
   have h1:=agY (l:=tz l i) (lv:=lv) (o:=nth ae mj i) h
   cases !(eU s (tz l i) lv (nth ae mj i)).2.2 with
   |true=>exact h1
   |false=>exact h1.trans (O9 h1.wf)
def zD {t:bf}{d:Int}:∀{f:Nat}{s:ay}{lv:Int}{l sy:List Pt},s.wf->tT s (qf f s t d lv l sy).1
 |0,s,lv,l,sy,h=>⟨h,rfl,rfl,rfl,rfl,rfl⟩
 |f+1,s,lv,l,sy,h=>by
  unfold qf
  cases decide (lv<=d) with
  |false=>exact⟨h,rfl,rfl,rfl,rfl,rfl⟩
  |true=>
   have h1:=O9 (f:=5) (lv:=lv) (mj:=eE s t d lv) (l:=fI l) (i:=0) (nx:=[]) (sy:=sy) h
   simp only [cond_true]
   cases hf:iC 5 s lv (eE s t d lv) (fI l) 0 [] sy with
   |mk s' r=>
    rw [hf] at h1
    cases r with
    |none=>exact h1
    |some q=>exact h1.trans (zD h1.wf)
def H5:∀{l sy:List Pt}{s:ay},s.wf->(eL l sy s).wf/\(eL l sy s).gone.length<=s.gone.length+l.length/\(eL l sy s).dead.length<=s.dead.length+l.length
 |[],sy,s,h=>⟨h,ZB0 _,ZB0 _⟩
 |o::l,sy,s,h=>by
  unfold eL
  cases iZ sy o with
  |true=>
   have:=H5 (l:=l) (sy:=sy) h
   rw [ZA1]
   exact⟨this.1,by have:=this.2.1;show (eL l sy s).gone.length<=_;omega,by have:=this.2.2;show (eL l sy s).dead.length<=_;omega⟩
  |false=>
   have h1:=H5 (l:=l) (sy:=sy) (r4 (p:=o) h)
   have h2:=qL s o
   rw [ZA1]
   exact⟨h1.1,by have:=h1.2.1;show (eL l sy (dh s o)).gone.length<=_;omega,by have:=h1.2.2;show (eL l sy (dh s o)).dead.length<=_;omega⟩
def KN {s:ay}{t:bf}{l:List Pt}{many:Int}(h:s.wf):(ck s t l many).1.wf/\(ck s t l many).1.gone.length<=s.gone.length+5/\(ck s t l many).1.dead.length<=s.dead.length+5/\((ck s t l many).2.2=false->(ck s t l many).1.gone=s.gone/\(ck s t l many).1.dead=s.dead):=by
 unfold ck
 have h1:=zD (f:=3) (t:=t) (d:=bo many) (lv:=1) (l:=l.take many.toNat) (sy:=[]) h
 cases hf:qf 3 s t (bo many) 1 (l.take many.toNat) [] with
 |mk s' r=>
  rw [hf] at h1
  have h1:tT s s':=h1
  cases r with
  |none=>exact⟨h1.wf,by show s'.gone.length<=_;rw [h1.gone];omega,by show s'.dead.length<=_;rw [h1.dead];omega,λ_=>⟨h1.gone,h1.dead⟩⟩
  |some q=>
   have h2:=H5 (l:=bD s t) (sy:=q.2) h1.wf
   have h3:=OR s t
   rw [h1.gone,h1.dead] at h2
   exact⟨h2.1,ZA9 h2.2.1 (by omega),ZA9 h2.2.2 (by omega),λh=>by cases h⟩
def um (s:ay) (t:bf) (leaves:List Pt) (k:Nat) (p:Pt) (many:Int) (old:Pt):ay×bf×Bool:=
 bif !(ck s t (leaves.set k p) many).2.2 then ((ck s t (leaves.set k p) many).1,(ck s t (leaves.set k p) many).2.1,false)
 else (bif !(ptrEq p old) then dh (ck s t (leaves.set k p) many).1 old else (ck s t (leaves.set k p) many).1,(ck s t (leaves.set k p) many).2.1,true)
def cf (t:bf) (k:Int):Int:=max t.many (k+1)
def eJ (s:ay) (t:bf) (k:Int):Pt:=nth ae (aH s t) k.toNat
def jO (s:ay) (t:bf) (k:Int):ByteArray:=(bB s (eJ s t k)).1
def aP (s:ay) (t:bf) (k:Int) (text:ByteArray):ay×bf×Bool:=
 bif decide (jO s t k=text)&&decide (cf t k=t.many) then (s,t,true) else
 bif decide (jO s t k≠text) then
  (bif decide (text≠⟨#[]⟩) then
   (bif !(bm s text 0).2.2 then (s,t,false) else um (bm s text 0).1 t (aH s t) k.toNat (bm s text 0).2.1 (cf t k) (eJ s t k))
  else um s t (aH s t) k.toNat ch (cf t k) (eJ s t k))
 else um s t (aH s t) k.toNat (eJ s t k) (cf t k) (eJ s t k)
def ij (S:ay) (t:bf) (k:Int) (text:ByteArray):Prop:=S.wf/\t.rd/\0<=k/\k<=15/\t.many<=16/\S.gone.length<=1046000/\S.dead.length<=1046000/\text.size<=1000000
def afE (S:ay) (t:bf) (k:Int) (text:ByteArray) (z:Bool):Prop:=z=(aP S t k text).2.2
def iT (S:ay) (t:bf) (k:Int) (text:ByteArray) (z:Bool):AV:=match z with |true=>.t [.a (nH 0 1 2 5 6 (aP S t k text).1),trA (aP S t k text).2.1,.s (.q true)] |false=>.t [.a (nH 0 1 2 3 4 (aP S t k text).1),trA (aP S t k text).2.1,.s (.q false)]
def ke (S:ay) (t:bf) (k:Int) (text:ByteArray) (z:Bool):List AV:=match z with |true=>[.rs ab (aP S t k text).1.rows,.rs ag (aP S t k text).1.refs,.rs ag (aP S t k text).1.last,.zz,.zz,.rs ae (aP S t k text).1.gone,.rs ae (aP S t k text).1.dead] |false=>KF (aP S t k text).1++[.zz,.zz]
def fM:cu where
 A:=[.a (stB 0 1 2 3 4),.a [.int,.int,.int,.int,.int,.int,.int],.s .int,.s .str]
 B:=[.r ab,.r ag,.r ag,.r ae,.r ae]
 pre:=λx b=>stW x.1 b/\ij (iE x.1 b) (x.2.1) (x.2.2.1) (x.2.2.2)
 α:=λ_ _=>Bool
 φ:=λx b z=>afE (iE x.1 b) (x.2.1) (x.2.2.1) (x.2.2.2) z
 r:=λx b z=>iT (iE x.1 b) (x.2.1) (x.2.2.1) (x.2.2.2) z
 o:=λx b z=>ke (iE x.1 b) (x.2.1) (x.2.2.1) (x.2.2.2) z
 nf:=2
 mv:=true
def oZ:Has Tryz.prog 24 fM:=by
 refine Has.ofP 8 zT zF zF (l:=[(49,fa),(50,fb),(51,oK),(52,kU),(53,c8)]) ⟨nr,ns,HS,zH,iy,aa⟩ Tryz.func24 ?_
 rintro⟨⟨(C7:Nat),(C6:Nat),(C5:Nat),(ao:Int),(C4:Nat),(aq:Int),(C3:Nat),(ar:Bool)⟩,⟨(t1:Int),(t2:Int),(t3:Int),(t4:Int),(t5:Int),(t6:Int),(t7:Int)⟩,(k:Int),(text:ByteArray)⟩ ⟨(aj:List ByteArray),(ak:List Int),(an:List Int),(ah:List Pt),(ai:List Pt)⟩ ⟨⟨(gR:C7=List.length aj),(gQ:C6=List.length ak),(gP:C5=List.length an),(gO:C4=List.length ah),(gN:C3=List.length ai)⟩,(hp:ij (aj,ak,an,ao,ah,aq,ai,ar) (t1,t2,t3,t4,t5,t6,t7) k text)⟩
 subst gR gQ gP gO gN
 show vcP _ _ _ _ 8 _ (entry [.a [.xs 0 1 0 aj.length,.xs 1 1 0 ak.length,.xs 2 1 0 an.length,.int ao,.xs 3 5 0 ah.length,.int aq,.xs 4 5 0 ai.length,.q ar],.a [.int t1,.int t2,.int t3,.int t4,.int t5,.int t6,.int t7],.int k,.str text] [.rs ab aj,.rs ag ak,.rs ag an,.rs ae ah,.rs ae ai])
 obtain⟨sG,qg,hk0,hk1,(hm:t7<=16),(hg:ah.length<=1046000),(hd:ai.length<=1046000),hts⟩:=hp
 have sG:ay.wf (aj,ak,an,ao,ah,aq,ai,ar):=sG
 have qg:bf.rd (t1,t2,t3,t4,t5,t6,t7):=qg
 have hwl:=ic (s:=(aj,ak,an,ao,ah,aq,ai,ar)) qg
 have hwo:=mL (s:=(aj,ak,an,ao,ah,aq,ai,ar)) qg
 have hoa:=pI (qd hwo k.toNat)
 have h64:aj.length=64:=sG.n.1
 have aqZ:0<=cf (t1,t2,t3,t4,t5,t6,t7) k:=by show 0<=max t7 (k+1);omega
 have aqY:cf (t1,t2,t3,t4,t5,t6,t7) k<=16:=by show max t7 (k+1)<=16;omega
 refine KB (l:=[(49,fa),(50,fb),(51,oK),(52,kU),(53,c8)]) (ex:=zT) (wr:=zF) (pt:=zF) ⟨nr,ns,HS,zH,iy,aa⟩ (λy:ay×Pt=>[(.s 2,.int k),(.s 4,.s (.bp 1004 0)),(.s 5,.s (.bp 1005 0)),(.s 8,.s (.bp 1008 0)),(.s 9,.s (.bp 1009 0)),(.s 11,.s (.xs 240000 5 0 (aH (aj,ak,an,ao,ah,aq,ai,ar) (t1,t2,t3,t4,t5,t6,t7)).length)),(.s 12,.s (.bp 1012 0)),(.s 15,.int (cf (t1,t2,t3,t4,t5,t6,t7) k)),(.s 16,.s (.bp 1016 0)),(.b 1004,.a (nH 0 1 2 3 4 y.1)),(.b 0,.rs ab y.1.rows),(.b 1,.rs ag y.1.refs),(.b 2,.rs ag y.1.last),(.b 3,.rs ae y.1.gone),(.b 4,.rs ae y.1.dead),(.b 1005,.a [.int t1,.int t2,.int t3,.int t4,.int t5,.int t6,.int t7]),(.b 1008,.a (D5 xv.zero)),(.b 1009,.a (D5 DD.zero)),(.b 240000,.rs ae (aH (aj,ak,an,ao,ah,aq,ai,ar) (t1,t2,t3,t4,t5,t6,t7))),(.b 1012,.a (EK.FQ ae (eJ (aj,ak,an,ao,ah,aq,ai,ar) (t1,t2,t3,t4,t5,t6,t7) k))),(.b 1016,.a (EK.FQ ae y.2))]) (λy=>y.1.wf/\(y.1.gone.length<=1046000/\y.1.dead.length<=1046000)/\aP (aj,ak,an,ao,ah,aq,ai,ar) (t1,t2,t3,t4,t5,t6,t7) k text=um y.1 (t1,t2,t3,t4,t5,t6,t7) (aH (aj,ak,an,ao,ah,aq,ai,ar) (t1,t2,t3,t4,t5,t6,t7)) k.toNat y.2 (cf (t1,t2,t3,t4,t5,t6,t7) k) (eJ (aj,ak,an,ao,ah,aq,ai,ar) (t1,t2,t3,t4,t5,t6,t7) k)) (E1 8 (W6 Tryz.f24)) ?_ (λtail=>?_)
 ·rintro⟨u,p⟩ ⟨(hu:u.wf),⟨(hug:u.gone.length<=1046000),(hud:u.dead.length<=1046000)⟩,(hM:aP (aj,ak,an,ao,ah,aq,ai,ar) (t1,t2,t3,t4,t5,t6,t7) k text=um u (t1,t2,t3,t4,t5,t6,t7) (aH (aj,ak,an,ao,ah,aq,ai,ar) (t1,t2,t3,t4,t5,t6,t7)) k.toNat p (cf (t1,t2,t3,t4,t5,t6,t7) k) (eJ (aj,ak,an,ao,ah,aq,ai,ar) (t1,t2,t3,t4,t5,t6,t7) k))⟩
  have hly:=KN (t:=(t1,t2,t3,t4,t5,t6,t7)) (l:=(aH (aj,ak,an,ao,ah,aq,ai,ar) (t1,t2,t3,t4,t5,t6,t7)).set k.toNat p) (many:=cf (t1,t2,t3,t4,t5,t6,t7) k) hu
  refine⟨⟨?_,?_⟩,?_,⟨⟨tv9,tv8,⟨?_,?_⟩,tv2⟩,⟨?_,?_,?_,?_,?_⟩,?_,?_,?_,?_,?_,?_,?_⟩,λ|false=>λw1=>⟨λw2=>⟨[.s 4,.b 1004],Sq85,ζ,[.s 5,.b 1005],Sq86,ζ,[.s 8,.s 85,.b 1008],[.b 1008],ζ,[.s 9,.s 86,.b 1009],[.b 1009],ζ,[],Sq10,ζ,?_⟩,λw3=>⟨λw4=>⟨⟨⟨tv9,tv6,aa⟩,⟨?_,?_,?_,?_,?_⟩,⟨?_,?_,?_⟩,?_,?_,?_,?_⟩,λx5 w6=>⟨[.s 4,.b 1004],Sq93,ζ,[.s 5,.b 1005],Sq94,ζ,[.s 8,.s 93,.b 1008],[.b 1008],ζ,[.s 9,.s 94,.b 1009],[.b 1009],ζ,[],Sq10,ζ,?_⟩⟩,λw7=>⟨[.s 4,.b 1004],Sq93,ζ,[.s 5,.b 1005],Sq94,ζ,[.s 8,.s 93,.b 1008],[.b 1008],ζ,[.s 9,.s 94,.b 1009],[.b 1009],ζ,[],Sq10,ζ,?_⟩⟩⟩ |true=>λw8=>⟨λw9=>⟨[.s 4,.b 1004],Sq85,ζ,[.s 5,.b 1005],Sq86,ζ,[.s 8,.s 85,.b 1008],[.b 1008],ζ,[.s 9,.s 86,.b 1009],[.b 1009],ζ,[],Sq10,ζ,?_⟩,λdB=>⟨λiP=>⟨⟨⟨tv9,tv6,aa⟩,⟨?_,?_,?_,?_,?_⟩,⟨?_,?_,?_⟩,?_,?_,?_,?_⟩,λve iL=>⟨[.s 4,.b 1004],Sq93,ζ,[.s 5,.b 1005],Sq94,ζ,[.s 8,.s 93,.b 1008],[.b 1008],ζ,[.s 9,.s 94,.b 1009],[.b 1009],ζ,[],Sq10,ζ,?_⟩⟩,λgY=>⟨[.s 4,.b 1004],Sq93,ζ,[.s 5,.b 1005],Sq94,ζ,[.s 8,.s 93,.b 1008],[.b 1008],ζ,[.s 9,.s 94,.b 1009],[.b 1009],ζ,[],Sq10,ζ,?_⟩⟩⟩⟩
  all_goals first|refine aw ?_|refine ax ?_|exact bb|(dsimp only [fa,gI,fb,gJ,oK,py,kU,mr,c8,eh,iE];omega)|exact ba|exact absurd (show true=false from w3) Bool.noConfusion|exact absurd (show false=true from w9) Bool.noConfusion|exact hu|exact qg|exact ZC6.symm|(show ((aH (aj,ak,an,ao,ah,aq,ai,ar) (t1,t2,t3,t4,t5,t6,t7)).set k.toNat p).length=16;rw [ZC6];exact hwl)|exact aqZ|exact aqY|exact ZA9 hug (by decide)|exact ZA9 hud (by decide)|exact hly.1.n.1|exact hly.1.n.2.1|exact hly.1.n.2.2|exact hoa.1|exact hoa.2|exact ZA9 hly.2.1 (by omega)|exact ZA9 hly.2.2.1 (by omega)|skip
  ·have hz:(ck u (t1,t2,t3,t4,t5,t6,t7) ((aH (aj,ak,an,ao,ah,aq,ai,ar) (t1,t2,t3,t4,t5,t6,t7)).set k.toNat p) (cf (t1,t2,t3,t4,t5,t6,t7) k)).2.2=false:=(show false=(ck u (t1,t2,t3,t4,t5,t6,t7) ((aH (aj,ak,an,ao,ah,aq,ai,ar) (t1,t2,t3,t4,t5,t6,t7)).set k.toNat p) (cf (t1,t2,t3,t4,t5,t6,t7) k)).2.2 from w1).symm
   have e:(aP (aj,ak,an,ao,ah,aq,ai,ar) (t1,t2,t3,t4,t5,t6,t7) k text)=((ck u (t1,t2,t3,t4,t5,t6,t7) ((aH (aj,ak,an,ao,ah,aq,ai,ar) (t1,t2,t3,t4,t5,t6,t7)).set k.toNat p) (cf (t1,t2,t3,t4,t5,t6,t7) k)).1,(ck u (t1,t2,t3,t4,t5,t6,t7) ((aH (aj,ak,an,ao,ah,aq,ai,ar) (t1,t2,t3,t4,t5,t6,t7)).set k.toNat p) (cf (t1,t2,t3,t4,t5,t6,t7) k)).2.1,false):=by rw [hM];unfold um;rw [hz];rfl
   refine⟨[],[],_,_,_,ζ,aC,false,2,(by show false=(aP (aj,ak,an,ao,ah,aq,ai,ar) (t1,t2,t3,t4,t5,t6,t7) k text).2.2;rw [e]),?_,?_,ζ⟩
   ·(show _=iT (aj,ak,an,ao,ah,aq,ai,ar) (t1,t2,t3,t4,t5,t6,t7) k text false);unfold iT;first|(rw [e];rfl)|rfl
   ·(show _=ke (aj,ak,an,ao,ah,aq,ai,ar) (t1,t2,t3,t4,t5,t6,t7) k text false);unfold ke;first|(rw [e];rfl)|rfl
  ·exact absurd (show true=false from w3) Bool.noConfusion
  ·exact absurd (show true=false from w3) Bool.noConfusion
  ·exact absurd (show false=true from w9) Bool.noConfusion
  ·have hz:(ck u (t1,t2,t3,t4,t5,t6,t7) ((aH (aj,ak,an,ao,ah,aq,ai,ar) (t1,t2,t3,t4,t5,t6,t7)).set k.toNat p) (cf (t1,t2,t3,t4,t5,t6,t7) k)).2.2=true:=(show true=(ck u (t1,t2,t3,t4,t5,t6,t7) ((aH (aj,ak,an,ao,ah,aq,ai,ar) (t1,t2,t3,t4,t5,t6,t7)).set k.toNat p) (cf (t1,t2,t3,t4,t5,t6,t7) k)).2.2 from w8).symm
   have hpe:(!(ptrEq p (eJ (aj,ak,an,ao,ah,aq,ai,ar) (t1,t2,t3,t4,t5,t6,t7) k)))=true:=iP
   have e:(aP (aj,ak,an,ao,ah,aq,ai,ar) (t1,t2,t3,t4,t5,t6,t7) k text)=(dh (ck u (t1,t2,t3,t4,t5,t6,t7) ((aH (aj,ak,an,ao,ah,aq,ai,ar) (t1,t2,t3,t4,t5,t6,t7)).set k.toNat p) (cf (t1,t2,t3,t4,t5,t6,t7) k)).1 (eJ (aj,ak,an,ao,ah,aq,ai,ar) (t1,t2,t3,t4,t5,t6,t7) k),(ck u (t1,t2,t3,t4,t5,t6,t7) ((aH (aj,ak,an,ao,ah,aq,ai,ar) (t1,t2,t3,t4,t5,t6,t7)).set k.toNat p) (cf (t1,t2,t3,t4,t5,t6,t7) k)).2.1,true):=by rw [hM];unfold um;rw [hz,hpe];rfl
   refine⟨[1000930000,1000930001],[],_,_,_,ζ,aC,true,0,(by show true=(aP (aj,ak,an,ao,ah,aq,ai,ar) (t1,t2,t3,t4,t5,t6,t7) k text).2.2;rw [e]),?_,?_,ζ⟩
   ·(show _=iT (aj,ak,an,ao,ah,aq,ai,ar) (t1,t2,t3,t4,t5,t6,t7) k text true);unfold iT;first|(rw [e];rfl)|rfl
   ·(show _=ke (aj,ak,an,ao,ah,aq,ai,ar) (t1,t2,t3,t4,t5,t6,t7) k text true);unfold ke;first|(rw [e];rfl)|rfl
  ·have hz:(ck u (t1,t2,t3,t4,t5,t6,t7) ((aH (aj,ak,an,ao,ah,aq,ai,ar) (t1,t2,t3,t4,t5,t6,t7)).set k.toNat p) (cf (t1,t2,t3,t4,t5,t6,t7) k)).2.2=true:=(show true=(ck u (t1,t2,t3,t4,t5,t6,t7) ((aH (aj,ak,an,ao,ah,aq,ai,ar) (t1,t2,t3,t4,t5,t6,t7)).set k.toNat p) (cf (t1,t2,t3,t4,t5,t6,t7) k)).2.2 from w8).symm
   have hpe:(!(ptrEq p (eJ (aj,ak,an,ao,ah,aq,ai,ar) (t1,t2,t3,t4,t5,t6,t7) k)))=false:=gY
   have e:(aP (aj,ak,an,ao,ah,aq,ai,ar) (t1,t2,t3,t4,t5,t6,t7) k text)=((ck u (t1,t2,t3,t4,t5,t6,t7) ((aH (aj,ak,an,ao,ah,aq,ai,ar) (t1,t2,t3,t4,t5,t6,t7)).set k.toNat p) (cf (t1,t2,t3,t4,t5,t6,t7) k)).1,(ck u (t1,t2,t3,t4,t5,t6,t7) ((aH (aj,ak,an,ao,ah,aq,ai,ar) (t1,t2,t3,t4,t5,t6,t7)).set k.toNat p) (cf (t1,t2,t3,t4,t5,t6,t7) k)).2.1,true):=by rw [hM];unfold um;rw [hz,hpe];rfl
   refine⟨[1000800000,1000800001],[],_,_,_,ζ,aC,true,0,(by show true=(aP (aj,ak,an,ao,ah,aq,ai,ar) (t1,t2,t3,t4,t5,t6,t7) k text).2.2;rw [e]),?_,?_,ζ⟩
   ·(show _=iT (aj,ak,an,ao,ah,aq,ai,ar) (t1,t2,t3,t4,t5,t6,t7) k text true);unfold iT;first|(rw [e];rfl)|rfl
   ·(show _=ke (aj,ak,an,ao,ah,aq,ai,ar) (t1,t2,t3,t4,t5,t6,t7) k text true);unfold ke;first|(rw [e];rfl)|rfl
 ·refine⟨⟨⟨⟨⟨?_,?_⟩,⟨?_,?_⟩,⟨?_,?_⟩,aa,⟨?_,?_⟩,aa,⟨?_,?_⟩,tv2⟩,tv8,aa⟩,?_,?_⟩,λx1 w2=>⟨⟨?_,?_⟩,?_,⟨⟨⟨⟨?_,?_⟩,⟨?_,?_⟩,⟨?_,?_⟩,aa,⟨?_,?_⟩,aa,⟨?_,?_⟩,tv2⟩,tv6,aa⟩,λx3 w4=>?_,?_,?_⟩,λx5 w6=>⟨⟨?_,?_⟩,aa,λw7=>⟨λw8=>⟨[.s 4,.b 1004],Sq48,ζ,[.s 5,.b 1005],Sq49,ζ,[.s 8,.s 48,.b 1008],[.b 1008],ζ,[.s 9,.s 49,.b 1009],[.b 1009],ζ,[],Sq10,ζ,?_⟩,λw9=>⟨λdB=>⟨λiP=>⟨⟨⟨tv9,tv3⟩,⟨?_,?_,?_,?_,?_⟩,⟨?_,?_,?_⟩,?_⟩,λve iL=>⟨λgY=>⟨[.s 4,.b 1004],Sq66,ζ,[.s 5,.b 1005],Sq67,ζ,[.s 8,.s 66,.b 1008],[.b 1008],ζ,[.s 9,.s 67,.b 1009],[.b 1009],ζ,[],Sq10,ζ,?_⟩,λnG=>?_⟩⟩,λkC=>?_⟩,λxh=>?_⟩⟩,λqU=>⟨λo9=>⟨λtl=>⟨⟨⟨tv9,tv3⟩,⟨?_,?_,?_,?_,?_⟩,⟨?_,?_,?_⟩,?_⟩,λx21 DB=>⟨λzi=>⟨[.s 4,.b 1004],Sq66,ζ,[.s 5,.b 1005],Sq67,ζ,[.s 8,.s 66,.b 1008],[.b 1008],ζ,[.s 9,.s 67,.b 1009],[.b 1009],ζ,[],Sq10,ζ,?_⟩,λtZ=>?_⟩⟩,λFV=>?_⟩,λw26=>?_⟩⟩⟩⟩
  all_goals first|refine aw ?_|refine ax ?_|exact bb|(dsimp only [fa,gI,fb,gJ,oK,py,kU,mr,c8,eh,iE];omega)|exact ba|exact absurd (aF w7) (aF dB)|exact sG.rd|exact qg|exact sG.sz _ w4|exact hoa.1|(show _<(aj.length:Int);rw [h64];exact hoa.2)|exact sG.n.1|exact sG.n.2.1|exact sG.n.2.2|skip
  ·have c1:decide (jO (aj,ak,an,ao,ah,aq,ai,ar) (t1,t2,t3,t4,t5,t6,t7) k=text)=true:=w7
   have c2:decide (cf (t1,t2,t3,t4,t5,t6,t7) k=bf.many (t1,t2,t3,t4,t5,t6,t7))=true:=w8
   have e:(aP (aj,ak,an,ao,ah,aq,ai,ar) (t1,t2,t3,t4,t5,t6,t7) k text)=((aj,ak,an,ao,ah,aq,ai,ar),(t1,t2,t3,t4,t5,t6,t7),true):=by unfold aP;rw [c1,c2];rfl
   refine⟨[3,4],[],_,_,_,ζ,aC,true,0,(by show true=(aP (aj,ak,an,ao,ah,aq,ai,ar) (t1,t2,t3,t4,t5,t6,t7) k text).2.2;rw [e]),?_,?_,ζ⟩
   ·(show _=iT (aj,ak,an,ao,ah,aq,ai,ar) (t1,t2,t3,t4,t5,t6,t7) k text true);unfold iT;first|(rw [e];rfl)|rfl
   ·(show _=ke (aj,ak,an,ao,ah,aq,ai,ar) (t1,t2,t3,t4,t5,t6,t7) k text true);unfold ke;first|(rw [e];rfl)|rfl
  ·exact absurd (aF w7) (aF dB)
  ·exact absurd (aF w7) (aF dB)
  ·exact absurd (aF w7) (aF dB)
  ·have c1:decide (jO (aj,ak,an,ao,ah,aq,ai,ar) (t1,t2,t3,t4,t5,t6,t7) k=text)=true:=w7
   have c2:decide (cf (t1,t2,t3,t4,t5,t6,t7) k=bf.many (t1,t2,t3,t4,t5,t6,t7))=false:=w9
   have c3:decide (jO (aj,ak,an,ao,ah,aq,ai,ar) (t1,t2,t3,t4,t5,t6,t7) k≠text)=false:=xh
   have e:(aP (aj,ak,an,ao,ah,aq,ai,ar) (t1,t2,t3,t4,t5,t6,t7) k text)=um (aj,ak,an,ao,ah,aq,ai,ar) (t1,t2,t3,t4,t5,t6,t7) (aH (aj,ak,an,ao,ah,aq,ai,ar) (t1,t2,t3,t4,t5,t6,t7)) k.toNat (eJ (aj,ak,an,ao,ah,aq,ai,ar) (t1,t2,t3,t4,t5,t6,t7) k) (cf (t1,t2,t3,t4,t5,t6,t7) k) (eJ (aj,ak,an,ao,ah,aq,ai,ar) (t1,t2,t3,t4,t5,t6,t7) k):=by unfold aP;rw [c1,c2,c3];rfl
   refine joinTail tail (((aj,ak,an,ao,ah,aq,ai,ar),eJ (aj,ak,an,ao,ah,aq,ai,ar) (t1,t2,t3,t4,t5,t6,t7) k)) [] ((⟨sG,⟨hg,hd⟩,e⟩)) ?_
   repeat' (first|exact trivial|rfl|exact rfl|exact iO ZA0.symm|apply And.intro)
  ·have c1:decide (jO (aj,ak,an,ao,ah,aq,ai,ar) (t1,t2,t3,t4,t5,t6,t7) k=text)=false:=qU
   have c3:decide (jO (aj,ak,an,ao,ah,aq,ai,ar) (t1,t2,t3,t4,t5,t6,t7) k≠text)=true:=o9
   have c4:decide (text≠⟨#[]⟩)=true:=tl
   have c5:(!(bm (aj,ak,an,ao,ah,aq,ai,ar) text 0).2.2)=true:=zi
   have e:(aP (aj,ak,an,ao,ah,aq,ai,ar) (t1,t2,t3,t4,t5,t6,t7) k text)=((aj,ak,an,ao,ah,aq,ai,ar),(t1,t2,t3,t4,t5,t6,t7),false):=by unfold aP;rw [c1,c3,c4,c5];rfl
   have e2:(bm (aj,ak,an,ao,ah,aq,ai,ar) text 0).1=(aj,ak,an,ao,ah,aq,ai,ar):=by
    rcases mK (aj,ak,an,ao,ah,aq,ai,ar) text 0 with ⟨_,h⟩ |⟨_,h,_⟩
    ·exact h
    ·rw [h] at c5;cases c5
   refine⟨[],[],_,_,_,ζ,aC,false,2,(by show false=(aP (aj,ak,an,ao,ah,aq,ai,ar) (t1,t2,t3,t4,t5,t6,t7) k text).2.2;rw [e]),?_,?_,ζ⟩
   ·(show _=iT (aj,ak,an,ao,ah,aq,ai,ar) (t1,t2,t3,t4,t5,t6,t7) k text false);unfold iT;first|(rw [e];rfl)|(rw [e];exact congrArg (λx:ay=>KF x++[AV.zz,AV.zz]) e2)|rfl
   ·(show _=ke (aj,ak,an,ao,ah,aq,ai,ar) (t1,t2,t3,t4,t5,t6,t7) k text false);unfold ke;first|(rw [e];rfl)|(rw [e];exact congrArg (λx:ay=>KF x++[AV.zz,AV.zz]) e2)|rfl
  ·have c1:decide (jO (aj,ak,an,ao,ah,aq,ai,ar) (t1,t2,t3,t4,t5,t6,t7) k=text)=false:=qU
   have c3:decide (jO (aj,ak,an,ao,ah,aq,ai,ar) (t1,t2,t3,t4,t5,t6,t7) k≠text)=true:=o9
   have c4:decide (text≠⟨#[]⟩)=true:=tl
   have c5:(!(bm (aj,ak,an,ao,ah,aq,ai,ar) text 0).2.2)=false:=tZ
   have hws:=IV (text:=text) (lv:=0) sG
   have e:(aP (aj,ak,an,ao,ah,aq,ai,ar) (t1,t2,t3,t4,t5,t6,t7) k text)=um (bm (aj,ak,an,ao,ah,aq,ai,ar) text 0).1 (t1,t2,t3,t4,t5,t6,t7) (aH (aj,ak,an,ao,ah,aq,ai,ar) (t1,t2,t3,t4,t5,t6,t7)) k.toNat (bm (aj,ak,an,ao,ah,aq,ai,ar) text 0).2.1 (cf (t1,t2,t3,t4,t5,t6,t7) k) (eJ (aj,ak,an,ao,ah,aq,ai,ar) (t1,t2,t3,t4,t5,t6,t7) k):=by unfold aP;rw [c1,c3,c4,c5];rfl
   refine joinTail tail (((bm (aj,ak,an,ao,ah,aq,ai,ar) text 0).1,(bm (aj,ak,an,ao,ah,aq,ai,ar) text 0).2.1)) [] ((⟨hws.wf,⟨(by show (bm (aj,ak,an,ao,ah,aq,ai,ar) text 0).1.gone.length<=1046000;rw [hws.gone];exact hg),(by show (bm (aj,ak,an,ao,ah,aq,ai,ar) text 0).1.dead.length<=1046000;rw [hws.dead];exact hd)⟩,e⟩)) ?_
   repeat' (first|exact trivial|rfl|exact rfl|exact iO ZA0.symm|apply And.intro)
  ·have c1:decide (jO (aj,ak,an,ao,ah,aq,ai,ar) (t1,t2,t3,t4,t5,t6,t7) k=text)=false:=qU
   have c3:decide (jO (aj,ak,an,ao,ah,aq,ai,ar) (t1,t2,t3,t4,t5,t6,t7) k≠text)=true:=o9
   have c4:decide (text≠⟨#[]⟩)=false:=FV
   have e:(aP (aj,ak,an,ao,ah,aq,ai,ar) (t1,t2,t3,t4,t5,t6,t7) k text)=um (aj,ak,an,ao,ah,aq,ai,ar) (t1,t2,t3,t4,t5,t6,t7) (aH (aj,ak,an,ao,ah,aq,ai,ar) (t1,t2,t3,t4,t5,t6,t7)) k.toNat ch (cf (t1,t2,t3,t4,t5,t6,t7) k) (eJ (aj,ak,an,ao,ah,aq,ai,ar) (t1,t2,t3,t4,t5,t6,t7) k):=by unfold aP;rw [c1,c3,c4];rfl
   refine joinTail tail (((aj,ak,an,ao,ah,aq,ai,ar),ch)) [] ((⟨sG,⟨hg,hd⟩,e⟩)) ?_
   repeat' (first|exact trivial|rfl|exact rfl|exact iO ZA0.symm|apply And.intro)
  ·exact absurd (aD qU) (aD w26)
end GL
namespace GL
def dV:List Pt->ay->ay
 |[],s=>s
 |p::l,s=>dV l (dh s p)
def H4:∀{l:List Pt}{s:ay},s.wf->(dV l s).wf/\(dV l s).gone.length<=s.gone.length+l.length/\(dV l s).dead.length<=s.dead.length+l.length
 |[],s,h=>⟨h,ZB0 _,ZB0 _⟩
 |o::l,s,h=>by
  have h1:=H4 (l:=l) (r4 (p:=o) h)
  have h2:=qL s o
  rw [ZA1]
  exact⟨h1.1,by have:=h1.2.1;show (dV l (dh s o)).gone.length<=_;omega,by have:=h1.2.2;show (dV l (dh s o)).dead.length<=_;omega⟩
theorem zP (s:ay) (p:Pt):(dh s p).cz=s.cz:=by
 unfold dh
 cases au p with
 |true=>rfl
 |false=>
  cases decide (p.2.1<=s.cm) with
  |true=>rfl
  |false=>
   cases decide (p.2.1<s.cz) with
   |true=>rfl
   |false=>rfl
theorem CD:∀(l:List Pt) (s:ay),(dV l s).cz=s.cz
 |[],_=>rfl
 |p::l,s=>(CD l (dh s p)).trans (zP s p)
theorem O5:∀(l stays:List Pt) (s:ay),(eL l stays s).cz=s.cz
 |[],_,_=>rfl
 |p::l,stays,s=>by
  refine (O5 l stays _).trans ?_
  cases iZ stays p with
  |true=>rfl
  |false=>exact zP s p
def N6 {s:ay}{t:bf}{l:List Pt}{many:Int}(h:s.wf):(ck s t l many).1.cz=s.cz:=by
 unfold ck
 have h1:=zD (f:=3) (t:=t) (d:=bo many) (lv:=1) (l:=l.take many.toNat) (sy:=[]) h
 cases hf:qf 3 s t (bo many) 1 (l.take many.toNat) [] with
 |mk s' r=>
  rw [hf] at h1
  cases r with
  |none=>exact h1.cz
  |some q=>obtain⟨x,y⟩:=q;exact (O5 _ _ s').trans h1.cz
def HQ {s:ay}{t:bf}{l:List Pt}{many:Int}(h:s.wf) (hz:(ck s t l many).2.2=false):tT s (ck s t l many).1:=by
 unfold ck at hz ⊢
 have h1:=zD (f:=3) (t:=t) (d:=bo many) (lv:=1) (l:=l.take many.toNat) (sy:=[]) h
 cases hf:qf 3 s t (bo many) 1 (l.take many.toNat) [] with
 |mk s' r=>
  rw [hf] at h1 hz
  cases r with
  |none=>exact h1
  |some q=>cases hz
def aa9 (s:ay) (t:bf) (many:Int):ay×bf×Bool:=
 bif !(ck s t (aH s t) many).2.2 then ((ck s t (aH s t) many).1,t,false)
 else (dV ((aH s t).drop many.toNat) (ck s t (aH s t) many).1,(ck s t (aH s t) many).2.1,true)
def cX (s:ay) (t:bf) (many:Int):ay×bf×Bool:=bif decide (many=t.many) then (s,t,true) else aa9 s t many
def akg {s:ay}{t:bf}{many:Int}(h:decide (many=t.many)=true):cX s t many=(s,t,true):=by unfold cX;rw [h];rfl
def akf {s:ay}{t:bf}{many:Int}(h:decide (many=t.many)=false) (h2:(!(ck s t (aH s t) many).2.2)=true):cX s t many=((ck s t (aH s t) many).1,t,false):=by unfold cX aa9;rw [h,h2];rfl
def ake {s:ay}{t:bf}{many:Int}(h:decide (many=t.many)=false) (h2:(!(ck s t (aH s t) many).2.2)=false):cX s t many=(dV ((aH s t).drop many.toNat) (ck s t (aH s t) many).1,(ck s t (aH s t) many).2.1,true):=by unfold cX aa9;rw [h,h2];rfl
def ahS (a b l:Int) (s:ByteArray):bc (jQ a b l s).1=true:=by
 cases h1:gC s.size 1 128 with
 |false=>rw [GX h1];decide
 |true=>cases h2:bc (a,b,(s.size:Int),vi s,l) with
  |false=>rw [GW h2];decide
  |true=>rw [GV h1 h2];exact h2
def K8 (s:ay) (text:ByteArray) (lv:Int):bc (bm s text lv).2.1=true:=by
 cases h:decide (dK s text lv<0) with
 |true=>rw [o8 rfl h];rfl
 |false=>cases h2: !(jQ (dK s text lv) s.cz lv text).2 with
  |true=>rw [nU rfl h h2];rfl
  |false=>rw [qB rfl h h2];exact ahS _ _ _ _
def ajR {s:ay}{l:List Pt}{lv:Int}{o:Pt}(h:bc o=true):bc (eU s l lv o).2.1=true:=by
 cases h1:ql l with
 |true=>rw [WR h1];rfl
 |false=>cases h2:gX s l o with
  |true=>rw [WQ h1 h2];exact h
  |false=>rw [yF h1 h2];exact K8 _ _ _
def TD {lv:Int}{mj l:List Pt}(hw:∀q∈mj,bc q=true):∀{f:Nat}{s s':ay}{i:Nat}{nx sy n y:List Pt},iC f s lv mj l i nx sy=(s',some (n,y))->(∀q∈nx,bc q=true)->∀q∈n,bc q=true
 |0,s,s',i,nx,sy,n,y,h,hn=>by cases h;exact hn
 |f+1,s,s',i,nx,sy,n,y,h,hn=>by
  unfold iC at h
  cases hc:decide ((i:Int)*4<l.length) with
  |false=>rw [hc] at h;cases h;exact hn
  |true=>
   rw [hc,cond_true] at h
   cases hf: !(eU s (tz l i) lv (nth ae mj i)).2.2 with
   |true=>rw [hf] at h;cases h
   |false=>
    rw [hf,cond_false] at h
    refine TD hw h λq hq=>?_
    rcases ZB5.1 hq with hq |hq
    ·exact hn q hq
    ·rw [ZD0.1 hq];exact ajR (qd hw i)
def aaq {t:bf}{d:Int}(ht:t.rd):∀{f:Nat}{s s':ay}{lv:Int}{l sy n y:List Pt},qf f s t d lv l sy=(s',some (n,y))->(∀q∈l,bc q=true)->∀q∈n,bc q=true
 |0,s,s',lv,l,sy,n,y,h,hn=>by cases h;exact hn
 |f+1,s,s',lv,l,sy,n,y,h,hn=>by
  unfold qf at h
  cases hc:decide (lv<=d) with
  |false=>rw [hc] at h;cases h;exact hn
  |true=>
   rw [hc,cond_true] at h
   cases hf:iC 5 s lv (eE s t d lv) (fI l) 0 [] sy with
   |mk u r=>
    rw [hf] at h
    cases r with
    |none=>cases h
    |some q=>exact aaq ht h (TD (aei ht) hf λ_ h=>by cases h)
structure bf.ok (t:bf):Prop where
 rd:t.rd
 m0:0<=t.many
 m1:t.many<=16
def XF:qS.ok:=⟨⟨by decide,by decide⟩,by decide,by decide⟩
theorem aap {s:ay}{t:bf}{l:List Pt}{many:Int}(ht:t.rd) (hl:∀q∈l,bc q=true) (h0:0<=many) (h1:many<=16):(ck s t l many).2.1.ok:=by
 unfold ck
 cases hf:qf 3 s t (bo many) 1 (l.take many.toNat) [] with
 |mk u r=>
  cases r with
  |none=>exact XF
  |some q=>
   have h:=aaq ht hf λq hq=>hl q (ZE5 hq)
   refine⟨⟨(oI many).2,?_⟩,h0,h1⟩
   show bc (rootOf q.1)=true
   unfold rootOf
   cases decide ((q.1.length:Int)>0) with
   |true=>exact qd h 0
   |false=>rfl
def xr {s:ay}{t:bf}(h:t.rd) {k:Nat}{p:Pt}(hp:bc p=true):∀q∈(aH s t).set k p,bc q=true:=by
 intro q hq
 rcases List.mem_or_eq_of_mem_set hq with hq |hq
 ·exact mL h q hq
 ·rw [hq];exact hp
structure ay.wg (s:ay) (n:Nat):Prop where
 wf:s.wf
 g:s.gone.length<=n
 d:s.dead.length<=n
 t:s.cz<=((1000+n:Nat):Int)
def ay.wg.mono {s:ay}{n m:Nat}(h:s.wg n) (hm:n<=m):s.wg m:=⟨h.wf,ZA9 h.g hm,ZA9 h.d hm,by have:=h.t;omega⟩
def tT.wg {s u:ay}{n:Nat}(h:tT s u) (hs:s.wg n):u.wg n:=⟨h.wf,by rw [h.gone];exact hs.g,by rw [h.dead];exact hs.d,by rw [h.cz];exact hs.t⟩
def UU {s:ay}{t:bf}{l:List Pt}{k:Nat}{p old:Pt}{many:Int}{n:Nat}(hs:s.wg n) (ht:t.rd) (hl:∀q∈l.set k p,bc q=true) (h0:0<=many) (h1:many<=16):(um s t l k p many old).1.wg (n+6)/\(um s t l k p many old).2.1.ok/\((um s t l k p many old).2.2=false->tT s (um s t l k p many old).1):=by
 have h2:=KN (t:=t) (l:=l.set k p) (many:=many) hs.wf
 have h3:=aap (s:=s) ht hl h0 h1
 have hg:=hs.g;have hd:=hs.d
 unfold um
 cases hz: !(ck s t (l.set k p) many).2.2 with
 |true=>
  have h4:=HQ hs.wf (P7 hz)
  exact⟨(h4.wg hs).mono (by omega),h3,λ_=>h4⟩
 |false=>
  refine⟨?_,h3,λh=>by cases h⟩
  cases !(ptrEq p old) with
  |true=>
   have h5:=qL (ck s t (l.set k p) many).1 old
   exact⟨r4 h2.1,by show (dh _ old).gone.length<=_;omega,by show (dh _ old).dead.length<=_;omega,by show (dh _ old).cz<=_;rw [zP,N6 hs.wf];have:=hs.t;omega⟩
  |false=>exact⟨h2.1,by show (ck s t (l.set k p) many).1.gone.length<=_;omega,by show (ck s t (l.set k p) many).1.dead.length<=_;omega,by show (ck s t (l.set k p) many).1.cz<=_;rw [N6 hs.wf];have:=hs.t;omega⟩
def lL {s:ay}{t:bf}{k:Int}{text:ByteArray}{n:Nat}(hs:s.wg n) (ht:t.ok) (hk0:0<=k) (hk:k<=15):(aP s t k text).1.wg (n+6)/\(aP s t k text).2.1.ok/\((aP s t k text).2.2=false->tT s (aP s t k text).1):=by
 have wW:0<=cf t k:=by unfold cf;have:=ht.m0;omega
 have CB:cf t k<=16:=by unfold cf;have:=ht.m1;omega
 have hold:bc (eJ s t k)=true:=qd (mL ht.rd) _
 have hrefl:tT s s:=⟨hs.wf,rfl,rfl,rfl,rfl,rfl⟩
 unfold aP
 cases decide (jO s t k=text)&&decide (cf t k=t.many) with
 |true=>exact⟨hs.mono (by omega),ht,λh=>by cases h⟩
 |false=>
  cases decide (jO s t k≠text) with
  |true=>
   cases decide (text≠⟨#[]⟩) with
   |true=>
    have hw:=IV (text:=text) (lv:=0) hs.wf
    cases hz: !(bm s text 0).2.2 with
    |true=>exact⟨hs.mono (by omega),ht,λ_=>hrefl⟩
    |false=>
     have h:=UU (old:=eJ s t k) (hw.wg hs) ht.rd (xr (s:=s) (k:=k.toNat) ht.rd (K8 s text 0)) wW CB
     exact⟨h.1,h.2.1,λhh=>hw.trans (h.2.2 hh)⟩
   |false=>exact UU hs ht.rd (xr ht.rd (by decide)) wW CB
  |false=>exact UU hs ht.rd (xr ht.rd hold) wW CB
def K3 {s:ay}{t:bf}{many:Int}{n:Nat}(hs:s.wg n) (ht:t.ok) (h0:0<=many) (h1:many<=16):(cX s t many).1.wg (n+21)/\(cX s t many).2.1.ok/\((cX s t many).2.2=false->tT s (cX s t many).1):=by
 have h2:=KN (t:=t) (l:=aH s t) (many:=many) hs.wf
 have h3:=aap (s:=s) ht.rd (mL (s:=s) ht.rd) h0 h1
 have hg:=hs.g;have hd:=hs.d
 unfold cX
 cases decide (many=t.many) with
 |true=>exact⟨hs.mono (by omega),ht,λh=>by cases h⟩
 |false=>
  show (aa9 s t many).1.wg (n+21)/\(aa9 s t many).2.1.ok/\((aa9 s t many).2.2=false->tT s (aa9 s t many).1)
  unfold aa9
  cases hz: !(ck s t (aH s t) many).2.2 with
  |true=>
   have h4:=HQ hs.wf (P7 hz)
   exact⟨(h4.wg hs).mono (by omega),ht,λ_=>h4⟩
  |false=>
   have h5:=H4 (l:=(aH s t).drop many.toNat) h2.1
   have h6:((aH s t).drop many.toNat).length<=16:=by rw [ZC8,ic ht.rd];omega
   refine⟨⟨h5.1,?_,?_,?_⟩,h3,λh=>by cases h⟩
   ·show (dV ((aH s t).drop many.toNat) (ck s t (aH s t) many).1).gone.length<=_;omega
   ·show (dV ((aH s t).drop many.toNat) (ck s t (aH s t) many).1).dead.length<=_;omega
   ·show (dV ((aH s t).drop many.toNat) (ck s t (aH s t) many).1).cz<=_;rw [CD,N6 hs.wf];have:=hs.t;omega
end GL
namespace GL
def size_pos {s:ByteArray}(h:s≠⟨#[]⟩):1<=s.size:=by
 cases s with
 |mk a=>
  refine Nat.one_le_iff_ne_zero.2 λe=>h ?_
  have:a= #[]:=Array.eq_empty_of_size_eq_zero e
  rw [this]
def pcF:Nat->ByteArray->List ByteArray
 |0,_=>[]
 |f+1,s=>bif decide ((s.size:Int)>128) then s.extract 0 128::pcF f (s.extract 128 s.size) else bif decide (s≠⟨#[]⟩) then [s] else []
def lN (s:ByteArray):List ByteArray:=pcF (s.size+1) s
def ahY {f:Nat}{s:ByteArray}(h:decide ((s.size:Int)>128)=true):pcF (f+1) s=s.extract 0 128::pcF f (s.extract 128 s.size):=by rw [pcF,h];rfl
def ahX {f:Nat}{s:ByteArray}(h:decide ((s.size:Int)>128)=false) (h2:decide (s≠⟨#[]⟩)=true):pcF (f+1) s=[s]:=by rw [pcF,h,h2];rfl
def ahW {f:Nat}{s:ByteArray}(h:decide ((s.size:Int)>128)=false) (h2:decide (s≠⟨#[]⟩)=false):pcF (f+1) s=[]:=by rw [pcF,h,h2];rfl
def adT {u:ByteArray}(h:(u.size:Int)>0):(u.extract 0 ((u.size:Int)-1).toNat).size+1=u.size:=by
 rw [ZC2,Nat.min_eq_left (by omega)];omega
def mY (s:ByteArray):Prop:=s.size<=1000000
def mO (s:ByteArray):AV:=.s (.xs 0 1 0 (lN s).length)
def pF (s:ByteArray):List AV:=[.rs ab (lN s)]
def sa:cu where
 A:=[.s .str]
 B:=[]
 pre:=λx b=>mY x
 r:=λx b _=>mO x
 o:=λx b _=>pF x
 nf:=1
def N9:Has Tryz.prog 183 sa:=by
 refine Has.fP zT zF zF (l:=[]) trivial Tryz.func183 ?_
 rintro (s:ByteArray) _ (hp:mY s)
 show vc _ _ _ _ (entry [.str s] []) _
 unfold mY at hp
 refine⟨aa,?_⟩
 all_goals first|refine aw ?_|refine ax ?_|exact bb|exact ba|skip
 refine df (l:=[]) (ex:=zT) (wr:=zF) (pt:=zF) trivial [] (λy:Nat×List ByteArray×ByteArray=>[(.s 0,.str y.2.2),(.s 3,.s (.xs 1004 1 0 y.2.1.length)),(.b 1004,.rs ab y.2.1)]) (λy=>y.2.2.size<y.1/\y.1<=s.size+1/\y.2.1.length+y.1<=s.size+1/\y.2.1++pcF y.1 y.2.2=lN s) (λy=>y.1) (s.size+1,[],s) [] ⟨ZE7 _,ZB0 _,by show 0+(s.size+1)<=s.size+1;omega,rfl⟩ dP ?_
 rintro⟨f,out,u⟩ ⟨(hf:u.size<f),(hf1:f<=s.size+1),(hol:out.length+f<=s.size+1),(he:out++pcF f u=lN s)⟩
 refine⟨λw1=>⟨⟨?_,?_,?_⟩,aa,⟨⟨?_,?_⟩,?_,?_⟩,⟨?_,?_,?_⟩,?_⟩,λw2=>⟨λw3=>⟨aa,⟨⟨?_,?_⟩,?_,?_⟩,?_⟩,λw4=>?_⟩⟩
 all_goals first|refine aw ?_|refine ax ?_|exact bb|exact ba|skip
 ·obtain⟨g,rfl⟩:∃g,f=g+1:=⟨f-1,by omega⟩
  have db:decide ((u.size:Int)>128)=true:=w1
  have asb:=aF db
  refine⟨(g,out++[u.extract 0 128],u.extract 128 u.size),[(1004,1012)],?_,?_,?_⟩
  rotate_right
  ·exact bY
  ·refine⟨by show (u.extract 128 u.size).size<g;rw [ZC2];omega,by show g<=s.size+1;omega,by show (out++[u.extract 0 128]).length+g<=s.size+1;rw [ZA0];show out.length+1+g<=_;omega,?_⟩
   rw [<-he,ahY db,ZC5];rfl
  ·exact ZE7 g
 ·obtain⟨g,rfl⟩:∃g,f=g+1:=⟨f-1,by omega⟩
  have e:lN s=out++[u]:=by rw [<-he,ahX w2 w3]
  refine⟨[1020],[],_,_,_,ζ,aC,(),aa,?_,?_,ζ⟩
  ·(show _=mO s);unfold mO;first|(rw [e,ZA0];rfl)|(rw [e];rfl)|rfl
  ·(show _=pF s);unfold pF;first|(rw [e,ZA0];rfl)|(rw [e];rfl)|rfl
 ·obtain⟨g,rfl⟩:∃g,f=g+1:=⟨f-1,by omega⟩
  have e:lN s=out:=by rw [<-he,ahW w2 w4,ZD4]
  refine⟨[1004],[],_,_,_,ζ,aC,(),aa,?_,?_,ζ⟩
  ·(show _=mO s);unfold mO;first|(rw [e];rfl)|rfl
  ·(show _=pF s);unfold pF;first|(rw [e];rfl)|rfl
def zrB (s:ByteArray):Bool:=decide ((s.size:Int)>0)&&decide (bX s ((s.size:Int)-1).toNat=0)
def zrF:Nat->ByteArray->ByteArray
 |0,s=>s
 |f+1,s=>bif zrB s then zrF f (s.extract 0 ((s.size:Int)-1).toNat) else s
def zrM (s:ByteArray):ByteArray:=zrF (s.size+1) s
def amb {f:Nat}{s:ByteArray}(h:zrB s=true):zrF (f+1) s=zrF f (s.extract 0 ((s.size:Int)-1).toNat):=by rw [zrF,h];rfl
def ahd {f:Nat}{s:ByteArray}(h:zrB s=false):zrF (f+1) s=s:=by rw [zrF,h];rfl
def rG (s:ByteArray):Prop:=s.size<=1000000
def rl (s:ByteArray):AV:=.s (.str (zrM s))
def af5 (s:ByteArray):List AV:=[]
def yQ:cu where
 A:=[.s .str]
 B:=[]
 pre:=λx b=>rG x
 r:=λx b _=>rl x
 o:=λx b _=>af5 x
def aav:Has Tryz.prog 186 yQ:=by
 refine Has.fP zT zF zF (l:=[]) trivial Tryz.func186 ?_
 rintro (s:ByteArray) _ (hp:rG s)
 show vc _ _ _ _ (entry [.str s] []) _
 unfold rG at hp
 refine df (l:=[]) (ex:=zT) (wr:=zF) (pt:=zF) trivial [] (λy:Nat×ByteArray=>[(.s 0,.str y.2)]) (λy=>y.2.size<y.1/\y.2.size<=1000000/\zrF y.1 y.2=zrM s) (λy=>y.1) (s.size+1,s) [] ⟨ZE7 _,hp,rfl⟩ dP ?_
 rintro⟨f,u⟩ ⟨(hf:u.size<f),(hu:u.size<=1000000),(he:zrF f u=zrM s)⟩
 obtain⟨g,rfl⟩:∃g,f=g+1:=⟨f-1,by omega⟩
 refine⟨aa,λw1=>⟨⟨?_,?_⟩,⟨?_,?_⟩,λw2=>⟨⟨?_,?_⟩,⟨?_,?_,?_⟩,?_⟩,λw3=>?_⟩,λw4=>?_⟩
 all_goals first|refine aw ?_|refine ax ?_|exact bb|exact ba|skip
 ·have hb:zrB u=true:=by unfold zrB;rw [w1,w2];rfl
  have h1:(u.size:Int)>0:=aF w1
  refine⟨(g,u.extract 0 ((u.size:Int)-1).toNat),[],?_,?_,?_⟩
  rotate_right
  ·exact bY
  ·exact⟨by show (u.extract 0 ((u.size:Int)-1).toNat).size<g;have:=adT h1;omega,by show (u.extract 0 ((u.size:Int)-1).toNat).size<=1000000;have:=adT h1;omega,by rw [<-he,amb hb]⟩
  ·exact ZE7 g
 ·have hb:zrB u=false:=by unfold zrB;rw [w1,show decide (bX u ((u.size:Int)-1).toNat=0)=false from w3];rfl
  have e:zrM s=u:=by rw [<-he,ahd hb]
  refine⟨[],[],_,_,_,ζ,aC,(),aa,?_,?_,ζ⟩
  ·(show _=rl s);unfold rl;first|(rw [e];rfl)|rfl
  ·rfl
 ·have hb:zrB u=false:=by unfold zrB;rw [show decide ((u.size:Int)>0)=false from w4];rfl
  have e:zrM s=u:=by rw [<-he,ahd hb]
  refine⟨[],[],_,_,_,ζ,aC,(),aa,?_,?_,ζ⟩
  ·(show _=rl s);unfold rl;first|(rw [e];rfl)|rfl
  ·rfl
def lT (n:Int):ByteArray:=gp (List.replicate (max 0 n).toNat 0)
def kH (n:Int):Prop:=n<=100000
def vq (n:Int):AV:=.s (.str (lT n))
def ZG (n:Int):List AV:=[]
def jz:cu where
 A:=[.s .int]
 B:=[]
 pre:=λx b=>kH x
 r:=λx b _=>vq x
 o:=λx b _=>ZG x
def wh:Has Tryz.prog 164 jz:=by
 refine Has.fP zT zF zF (l:=[]) trivial Tryz.func164 ?_
 rintro (n:Int) _ (hp:kH n)
 show vc _ _ _ _ (entry [.int n] []) _
 have hn:n<=100000:=hp
 refine⟨⟨?_,⟨?_,?_⟩⟩,⟨⟨?_,?_⟩,?_⟩⟩
 all_goals first|refine aw ?_|refine ax ?_|exact bb|exact ba|skip
 refine⟨[],[],_,_,_,ζ,aC,(),aa,?_,?_,ζ⟩
 ·(show _=vq n);unfold vq;first|rfl
 ·rfl
end GL
namespace GL
def R1 (s:ByteArray) (k:Nat):Bool:=decide (bX s k<97)||decide (bX s k>122)
def nmF:Nat->ByteArray->Nat->Bool
 |0,_,_=>true
 |f+1,s,k=>bif R1 s k then false else nmF f s (k+1)
def gr (s:ByteArray):Bool:=nmF s.size s 0&&gC s.size 1 4
def amm {f:Nat}{s:ByteArray}{k:Nat}(h:R1 s k=true):nmF (f+1) s k=false:=by rw [nmF,h];rfl
def aoI {f:Nat}{s:ByteArray}{k:Nat}(h:R1 s k=false):nmF (f+1) s k=nmF f s (k+1):=by rw [nmF,h];rfl
def Z8 {s:ByteArray}(h:nmF s.size s 0=false):gr s=false:=by unfold gr;rw [h];rfl
def aiG {s:ByteArray}(h:nmF s.size s 0=true):gr s=gC s.size 1 4:=by unfold gr;rw [h];rfl
def ot (s:ByteArray):Prop:=s.size<=1000000
def lU (s:ByteArray):AV:=.s (.q (gr s))
def age (s:ByteArray):List AV:=[]
def pT:cu where
 A:=[.s .str]
 B:=[]
 pre:=λx b=>ot x
 r:=λx b _=>lU x
 o:=λx b _=>age x
def EF:Has Tryz.prog 132 pT:=by
 refine Has.fP zT zF zF (l:=[(60,jc)]) ⟨jr,aa⟩ Tryz.func132 ?_
 rintro (s:ByteArray) _ (hp:ot s)
 show vc _ _ _ _ (entry [.str s] []) _
 unfold ot at hp
 refine df (l:=[(60,jc)]) (ex:=zT) (wr:=zF) (pt:=zF) ⟨jr,aa⟩ [.s 0] (λy:Nat×Nat=>[(.s 3,.int y.1)]) (λy=>y.1+y.2=s.size/\nmF y.2 s y.1=nmF s.size s 0) (λy=>y.2) (0,s.size) [] ⟨ZA6 _,rfl⟩ dP ?_
 rintro⟨k,f⟩ ⟨(hk:k+f=s.size),(he:nmF f s k=nmF s.size s 0)⟩
 have hb:=zZ s k
 have bR:decide ((k:Int)<s.size)=true->∃g,f=g+1:=λh=>⟨f-1,by have:=aF h;omega⟩
 refine⟨λw1=>⟨⟨?_,?_⟩,aa,λw2=>?_,λw3=>⟨⟨?_,?_⟩,λw4=>?_,λw5=>⟨⟨?_,?_⟩,?_⟩⟩⟩,λw6=>⟨⟨tv4,aa⟩,λx7 w8=>?_⟩⟩
 all_goals first|refine aw ?_|refine ax ?_|exact bb|exact ba|skip
 ·obtain⟨g,rfl⟩:=bR w1
  have e:gr s=false:=Z8 (by rw [<-he];exact amm (by unfold R1;rw [show decide (bX s k<97)=true from w2];rfl))
  refine⟨[],[],_,_,_,ζ,aC,(),aa,?_,?_,ζ⟩
  ·(show _=lU s);unfold lU;first|(rw [e];rfl)|rfl
  ·rfl
 ·obtain⟨g,rfl⟩:=bR w1
  have e:gr s=false:=Z8 (by rw [<-he];exact amm (by unfold R1;rw [show decide (bX s k>122)=true from w4,ZC7]))
  refine⟨[],[],_,_,_,ζ,aC,(),aa,?_,?_,ζ⟩
  ·(show _=lU s);unfold lU;first|(rw [e];rfl)|rfl
  ·rfl
 ·obtain⟨g,rfl⟩:=bR w1
  refine⟨(k+1,g),[],?_,?_,?_⟩
  rotate_right
  ·exact bY
  ·exact⟨by show k+1+g=s.size;omega,by rw [<-he];exact (aoI (by unfold R1;rw [show decide (bX s k<97)=false from w3,show decide (bX s k>122)=false from w5];rfl)).symm⟩
  ·exact ZE7 g
 ·have hf:f=0:=by have:=aD (p:=(k:Int)<s.size) w6;omega
  subst hf
  have e:gr s=gC s.size 1 4:=aiG (by rw [<-he];rfl)
  refine⟨[],[],_,_,_,ζ,aC,(),aa,?_,?_,ζ⟩
  ·(show _=lU s);unfold lU;first|(rw [e];rfl)|rfl
  ·rfl
def lk (l:List fO) (i:Nat):Bool:= !(gr (nth aO l i).1)||(!(gC (nth aO l i).2 1 15)||(decide ((i:Int)>0)&& !(Op.bytesLess (nth aO l ((i:Int)-1).toNat).1.toList (nth aO l i).1.toList)))
def EZ:Nat->List fO->Nat->Bool
 |0,_,_=>true
 |f+1,l,i=>bif lk l i then false else EZ f l (i+1)
def fh (l:List fO):Bool:=EZ l.length l 0&&decide ((l.length:Int)<=12)
def WV {f:Nat}{l:List fO}{k:Nat}(h:lk l k=true):EZ (f+1) l k=false:=by rw [EZ,h];rfl
def adk {f:Nat}{l:List fO}{k:Nat}(h:lk l k=false):EZ (f+1) l k=EZ f l (k+1):=by rw [EZ,h];rfl
def yI {l:List fO}(h:EZ l.length l 0=false):fh l=false:=by unfold fh;rw [h];rfl
def aa4 {l:List fO}(h:EZ l.length l 0=true):fh l=decide ((l.length:Int)<=12):=by unfold fh;rw [h];rfl
def aj6 {l:List fO}{i:Nat}(h:(!(gr (nth aO l i).1))=true):lk l i=true:=by unfold lk;rw [h];rfl
def aj5 {l:List fO}{i:Nat}(h:(!(gC (nth aO l i).2 1 15))=true):lk l i=true:=by unfold lk;rw [h,Bool.true_or,ZC7]
def aj4 {l:List fO}{i:Nat}(h:decide ((i:Int)>0)=true) (h2:(!(Op.bytesLess (nth aO l ((i:Int)-1).toNat).1.toList (nth aO l i).1.toList))=true):lk l i=true:=by unfold lk;rw [h,h2,Bool.and_true,ZC7,ZC7]
def aj7 {l:List fO}{i:Nat}(h1:(!(gr (nth aO l i).1))=false) (h2:(!(gC (nth aO l i).2 1 15))=false) (h3:decide ((i:Int)>0)=false):lk l i=false:=by unfold lk;rw [h1,h2,h3];rfl
def agZ {l:List fO}{i:Nat}(h1:(!(gr (nth aO l i).1))=false) (h2:(!(gC (nth aO l i).2 1 15))=false) (h4:(!(Op.bytesLess (nth aO l ((i:Int)-1).toNat).1.toList (nth aO l i).1.toList))=false):lk l i=false:=by unfold lk;rw [h1,h2,h4,ZD7];rfl
structure akS (l:List fO):Prop where
 len:l.length<=1000000
 sz:∀e∈l,e.1.size<=1000000
def akS.at {l:List fO}(h:akS l) (k:Nat):(nth aO l k).1.size<=1000000:=by
 by_cases hk:k<l.length
 ·exact h.sz _ (bS (ek:=aO) hk)
 ·unfold nth;rw [ZE1 (by omega)];exact ZA7 _
def oU (l:List fO):Prop:=akS l
def fG (l:List fO):AV:=.s (.q (fh l))
def VC (l:List fO):List AV:=[]
def pU:cu where
 A:=[.s (.vz aO)]
 B:=[]
 pre:=λx b=>oU x
 r:=λx b _=>fG x
 o:=λx b _=>VC x
def JD:Has Tryz.prog 199 pU:=by
 refine Has.fP zT zF zF (l:=[(60,jc),(132,pT)]) ⟨jr,EF,aa⟩ Tryz.func199 ?_
 rintro (l:List fO) _ (hp:oU l)
 show vc _ _ _ _ (entry [.s (.vz aO l)] []) _
 have hE:akS l:=hp
 have hlen:=hE.len
 refine df (l:=[(60,jc),(132,pT)]) (ex:=zT) (wr:=zF) (pt:=zF) ⟨jr,EF,aa⟩ [.s 0] (λy:Nat×Nat=>[(.s 3,.int y.1)]) (λy=>y.1+y.2=l.length/\EZ y.2 l y.1=EZ l.length l 0) (λy=>y.2) (0,l.length) [] ⟨ZA6 _,rfl⟩ dP ?_
 rintro⟨k,f⟩ ⟨(hk:k+f=l.length),(he:EZ f l k=EZ l.length l 0)⟩
 have bR:decide ((k:Int)<(l.length:Int))=true->k<l.length:=λh=>by have:=aF h;omega
 have hg:decide ((k:Int)<(l.length:Int))=true->∃g,f=g+1:=λh=>⟨f-1,by have:=bR h;omega⟩
 refine⟨λw1=>⟨Sq0,Sq10,ζ,Sq3,Sq11,ζ,[.s 10,.s 11],Sq12,ζ,⟨?_,?_⟩,Sq12,Sq13,ζ,Sq13,Sq14,ζ,Sq14,Sq15,ζ,⟨tv2,?_⟩,?_,λx2 w3=>⟨Sq15,Sq16,ζ,Sq16,Sq17,ζ,aa,λw4=>⟨Sq17,Sq18,ζ,Sq17,Sq19,ζ,Sq17,Sq20,ζ,Sq17,Sq21,ζ,Sq17,Sq22,ζ,Sq17,Sq23,ζ,Sq17,Sq24,ζ,[.s 17,.s 24],Sq25,ζ,Sq25,Sq26,ζ,Sq26,Sq27,ζ,Sq26,Sq28,ζ,Sq26,Sq29,ζ,Sq29,Sq30,ζ,Sq29,Sq31,ζ,Sq29,Sq32,ζ,Sq29,Sq33,ζ,Sq29,Sq34,ζ,Sq29,Sq35,ζ,Sq29,Sq36,ζ,Sq29,Sq37,ζ,Sq29,Sq38,ζ,Sq29,Sq39,ζ,Sq29,Sq40,ζ,Sq29,Sq41,ζ,Sq26,Sq42,ζ,[.s 26,.s 42],Sq43,ζ,?_⟩,λw5=>⟨[.s 17,.s 0],Sq18,ζ,[.s 17,.s 3],Sq19,ζ,[.s 17,.s 18,.s 19],Sq20,ζ,⟨?_,?_⟩,[.s 17,.s 20],Sq21,ζ,[.s 17,.s 21],Sq22,ζ,[.s 17,.s 22],Sq23,ζ,⟨tv4,aa⟩,?_,λx6 w7=>⟨[.s 17,.s 23],Sq24,ζ,[.s 17,.s 24],Sq25,ζ,Sq25,Sq26,ζ,aa,λw8=>⟨Sq26,Sq27,ζ,Sq26,Sq28,ζ,Sq26,Sq29,ζ,Sq29,Sq30,ζ,Sq29,Sq31,ζ,Sq29,Sq32,ζ,Sq29,Sq33,ζ,Sq29,Sq34,ζ,Sq29,Sq35,ζ,Sq29,Sq36,ζ,Sq29,Sq37,ζ,Sq29,Sq38,ζ,Sq29,Sq39,ζ,Sq29,Sq40,ζ,Sq29,Sq41,ζ,Sq26,Sq42,ζ,[.s 26,.s 42],Sq43,ζ,?_⟩,λw9=>⟨[.s 26,.s 3],Sq27,ζ,[.s 26,.s 27],Sq28,ζ,[.s 26,.s 28],Sq29,ζ,aa,λdB=>⟨[.s 29,.s 0],Sq30,ζ,[.s 29,.s 3],Sq31,ζ,[.s 29,.s 31],Sq32,ζ,⟨?_,?_⟩,[.s 29,.s 30,.s 32],Sq33,ζ,⟨?_,?_⟩,[.s 29,.s 33],Sq34,ζ,[.s 29,.s 34],Sq35,ζ,[.s 29,.s 0],Sq36,ζ,[.s 29,.s 3],Sq37,ζ,[.s 29,.s 36,.s 37],Sq38,ζ,⟨?_,?_⟩,[.s 29,.s 38],Sq39,ζ,[.s 29,.s 39],Sq40,ζ,[.s 29,.s 35,.s 40],Sq41,ζ,[.s 26,.s 29,.s 41],Sq42,ζ,[.s 26,.s 42],Sq43,ζ,λiP=>?_,λdW=>⟨⟨?_,?_⟩,?_⟩⟩,λiL=>⟨Sq29,Sq30,ζ,Sq29,Sq31,ζ,Sq29,Sq32,ζ,Sq29,Sq33,ζ,Sq29,Sq34,ζ,Sq29,Sq35,ζ,Sq29,Sq36,ζ,Sq29,Sq37,ζ,Sq29,Sq38,ζ,Sq29,Sq39,ζ,Sq29,Sq40,ζ,Sq29,Sq41,ζ,[.s 26,.s 29,.s 41],Sq42,ζ,[.s 26,.s 42],Sq43,ζ,⟨?_,?_⟩,?_⟩⟩⟩⟩⟩⟩,λgY=>?_⟩
 all_goals first|refine aw ?_|refine ax ?_|exact bb|(dsimp only [pT,ot];omega)|exact ba|exact hE.at _|exact bR w1|skip
 ·obtain⟨g,rfl⟩:=hg w1
  have e:fh l=false:=yI (by rw [<-he];exact WV (aj6 (show (!(gr (nth aO l k).1))=true from w4)))
  refine⟨[],[],_,_,_,ζ,aC,(),aa,?_,?_,ζ⟩
  ·(show _=fG l);unfold fG;first|(rw [e];rfl)|rfl
  ·rfl
 ·obtain⟨g,rfl⟩:=hg w1
  have e:fh l=false:=yI (by rw [<-he];exact WV (aj5 (show (!(gC (nth aO l k).2 1 15))=true from w8)))
  refine⟨[],[],_,_,_,ζ,aC,(),aa,?_,?_,ζ⟩
  ·(show _=fG l);unfold fG;first|(rw [e];rfl)|rfl
  ·rfl
 ·obtain⟨g,rfl⟩:=hg w1
  have e:fh l=false:=yI (by rw [<-he];exact WV (aj4 dB iP))
  refine⟨[],[],_,_,_,ζ,aC,(),aa,?_,?_,ζ⟩
  ·(show _=fG l);unfold fG;first|(rw [e];rfl)|rfl
  ·rfl
 ·obtain⟨g,rfl⟩:=hg w1
  refine⟨(k+1,g),[],?_,?_,?_⟩
  rotate_right
  ·exact bY
  ·exact⟨by show k+1+g=l.length;omega,by rw [<-he];exact (adk (agZ (show (!(gr (nth aO l k).1))=false from w5) (show (!(gC (nth aO l k).2 1 15))=false from w9) dW)).symm⟩
  ·exact ZE7 g
 ·obtain⟨g,rfl⟩:=hg w1
  refine⟨(k+1,g),[],?_,?_,?_⟩
  rotate_right
  ·exact bY
  ·exact⟨by show k+1+g=l.length;omega,by rw [<-he];exact (adk (aj7 (show (!(gr (nth aO l k).1))=false from w5) (show (!(gC (nth aO l k).2 1 15))=false from w9) iL)).symm⟩
  ·exact ZE7 g
 ·have hf:f=0:=by have:=aD (p:=(k:Int)<(l.length:Int)) gY;omega
  subst hf
  have e:fh l=decide ((l.length:Int)<=12):=aa4 (by rw [<-he];rfl)
  refine⟨[],[],_,_,_,ζ,aC,(),aa,?_,?_,ζ⟩
  ·(show _=fG l);unfold fG;first|(rw [e];rfl)|rfl
  ·rfl
def tf (out:ByteArray) (e:fO):ByteArray:=out++e.1++⟨#[61]⟩++bL e.2++⟨#[59]⟩
def eS (l:List fO):ByteArray:=l.foldl tf ⟨#[]⟩
structure ahb (l:List fO):Prop where
 len:l.length<=1000
 sz:∀e∈l,e.1.size<=1000000
 id:∀e∈l,0<=e.2/\e.2<=999999999
def rE (l:List fO):Prop:=ahb l
def A8 (l:List fO):AV:=.s (.str (eS l))
def af3 (l:List fO):List AV:=[]
def sf:cu where
 A:=[.s (.vz aO)]
 B:=[]
 pre:=λx b=>rE x
 r:=λx b _=>A8 x
 o:=λx b _=>af3 x
def OE:Has Tryz.prog 155 sf:=by
 refine Has.fP zT zF zF (l:=[(98,kX)]) ⟨zK,aa⟩ Tryz.func155 ?_
 rintro (l:List fO) _ (hp:rE l)
 show vc _ _ _ _ (entry [.s (.vz aO l)] []) _
 have hE:ahb l:=hp
 have hlen:=hE.len
 refine ?_
 all_goals first|refine aw ?_|refine ax ?_|exact bb|(dsimp only [kX,oi];omega)|exact ba|skip
 refine df (l:=[(98,kX)]) (ex:=zT) (wr:=zF) (pt:=zF) ⟨zK,aa⟩ [.s 0] (λy:Nat×ByteArray=>[(.s 3,.str y.2),(.s 4,.int y.1)]) (λy=>y.1<=l.length/\y.2.size<=2000000*y.1/\(l.drop y.1).foldl tf y.2=eS l) (λy=>l.length-y.1) (0,⟨#[]⟩) [] ⟨ZA7 _,ZA7 _,rfl⟩ dP ?_
 rintro⟨i,out⟩ ⟨(hi:i<=l.length),(ho:out.size<=2000000*i),(hr:(l.drop i).foldl tf out=eS l)⟩
 have bR:decide ((i:Int)<(l.length:Int))=true->i<l.length:=λh=>by have:=aF h;omega
 have db:i<l.length->(nth aO l i).1.size<=1000000:=λh=>hE.sz _ (bS (ek:=aO) h)
 have hid:i<l.length->0<=(nth aO l i).2/\(nth aO l i).2<=999999999:=λh=>hE.id _ (bS (ek:=aO) h)
 have anI:i<l.length->(bL (nth aO l i).2).size<=12:=λh=>cM (ZE9 (hid h).2 (by omega))
 have hs1:i<l.length->(out++(nth aO l i).1).size<=2001000000:=λh=>by rw [ZB4];have:=db h;omega
 have hs2:i<l.length->(out++(nth aO l i).1++(⟨#[61]⟩:ByteArray)).size<=2001000001:=λh=>by rw [ZB4,sz1];have:=hs1 h;omega
 have hs3:i<l.length->(out++(nth aO l i).1++(⟨#[61]⟩:ByteArray)++bL (nth aO l i).2).size<=2001000100:=λh=>by rw [ZB4];have:=hs2 h;have:=anI h;omega
 have hA:i<l.length->(0:Int)<=(nth aO l i).2:=λh=>(hid h).1
 have hB:i<l.length->((nth aO l i).2:Int)<=999999999999:=λh=>ZE9 (hid h).2 (by omega)
 refine⟨λw1=>⟨Sq3,Sq11,ζ,Sq0,Sq12,ζ,Sq4,Sq13,ζ,[.s 12,.s 13],Sq14,ζ,⟨?_,?_⟩,Sq14,Sq15,ζ,Sq15,Sq16,ζ,[.s 11,.s 16],Sq17,ζ,?_,Sq17,Sq18,ζ,?_,Sq0,Sq19,ζ,Sq4,Sq20,ζ,[.s 19,.s 20],Sq21,ζ,⟨?_,?_⟩,Sq21,Sq22,ζ,Sq22,Sq23,ζ,Sq23,Sq24,ζ,⟨tv2,?_,?_⟩,?_,λx2 w3=>⟨[.s 18,.s 24],Sq25,ζ,?_,Sq25,Sq26,ζ,?_,Sq26,Sq3,ζ,⟨?_,?_⟩,?_⟩⟩,λw4=>?_⟩
 all_goals first|refine aw ?_|refine ax ?_|exact bb|(dsimp only [kX,oi];omega)|exact ba|exact bR w1|(unfold imax;simp only [ZB4,ZA5,sz1];have:=db (bR w1);have:=anI (bR w1);omega)|skip
 ·exact hB (bR w1)
 ·have lQ:=bR w1
  refine⟨(i+1,tf out (nth aO l i)),[],?_,?_,?_⟩
  rotate_right
  ·exact bY
  ·refine⟨lQ,?_,by rw [<-hr,bJ (ek:=aO) lQ];rfl⟩
   show (out++(nth aO l i).1++⟨#[61]⟩++bL (nth aO l i).2++⟨#[59]⟩).size<=2000000*(i+1)
   have a1:=db lQ;have a2:=anI lQ
   simp only [ZB4]
   rw [show (⟨#[61]⟩:ByteArray).size=1 from rfl,show (⟨#[59]⟩:ByteArray).size=1 from rfl];omega
  ·show l.length-(i+1)<l.length-i;omega
 ·have wZ:¬i<l.length:=by have:=aD (p:=(i:Int)<(l.length:Int)) (by assumption);omega
  have e:eS l=out:=by rw [<-hr,ZB3 (by omega)];rfl
  refine⟨[],[],_,_,_,ζ,aC,(),aa,?_,?_,ζ⟩
  ·(show _=A8 l);unfold A8;first|(rw [e];rfl)|rfl
  ·rfl
def atF:Nat->List fO->Nat->ByteArray->Int
 |0,_,_,_=> -1
 |f+1,l,i,name=>bif decide ((nth aO l i).1=name) then (i:Int) else atF f l (i+1) name
def mI (l:List fO) (name:ByteArray):Int:=atF l.length l 0 name
def amL {f:Nat}{l:List fO}{i:Nat}{name:ByteArray}(h:decide ((nth aO l i).1=name)=true):atF (f+1) l i name=(i:Int):=by rw [atF,h];rfl
def amM {f:Nat}{l:List fO}{i:Nat}{name:ByteArray}(h:decide ((nth aO l i).1=name)=false):atF (f+1) l i name=atF f l (i+1) name:=by rw [atF,h];rfl
def qF (l:List fO) (name:ByteArray):Prop:=l.length<=1000000
def ui (l:List fO) (name:ByteArray):AV:=.s (.int (mI l name))
def aid (l:List fO) (name:ByteArray):List AV:=[]
def qA:cu where
 A:=[.s (.vz aO),.s .str]
 B:=[]
 pre:=λx b=>qF (x.1) (x.2)
 r:=λx b _=>ui (x.1) (x.2)
 o:=λx b _=>aid (x.1) (x.2)
def KP:Has Tryz.prog 126 qA:=by
 refine Has.fP zT zF zF (l:=[]) trivial Tryz.func126 ?_
 rintro⟨(l:List fO),(name:ByteArray)⟩ _ (hp:qF l name)
 show vc _ _ _ _ (entry [.s (.vz aO l),.str name] []) _
 have hlen:l.length<=1000000:=hp
 refine df (l:=[]) (ex:=zT) (wr:=zF) (pt:=zF) trivial [.s 0,.s 1] (λy:Nat×Nat=>[(.s 5,.int y.1)]) (λy=>y.1+y.2=l.length/\atF y.2 l y.1 name=mI l name) (λy=>y.2) (0,l.length) [] ⟨ZA6 _,rfl⟩ dP ?_
 rintro⟨k,f⟩ ⟨(hk:k+f=l.length),(he:atF f l k name=mI l name)⟩
 have bR:decide ((k:Int)<(l.length:Int))=true->k<l.length:=λh=>by have:=aF h;omega
 have hg:decide ((k:Int)<(l.length:Int))=true->∃g,f=g+1:=λh=>⟨f-1,by have:=bR h;omega⟩
 refine⟨λw1=>⟨⟨?_,?_⟩,⟨λw2=>?_,λw3=>⟨⟨?_,?_⟩,?_⟩⟩⟩,λw4=>?_⟩
 all_goals first|refine aw ?_|refine ax ?_|exact bb|exact ba|exact bR w1|skip
 ·obtain⟨g,rfl⟩:=hg w1
  have e:mI l name=(k:Int):=by rw [<-he];exact amL w2
  refine⟨[],[],_,_,_,ζ,aC,(),aa,?_,?_,ζ⟩
  ·(show _=ui l name);unfold ui;first|(rw [e];rfl)|rfl
  ·rfl
 ·obtain⟨g,rfl⟩:=hg w1
  refine⟨(k+1,g),[],?_,?_,?_⟩
  rotate_right
  ·exact bY
  ·exact⟨by show k+1+g=l.length;omega,by rw [<-he];exact (amM w3).symm⟩
  ·exact ZE7 g
 ·have hf:f=0:=by have:=aD (p:=(k:Int)<(l.length:Int)) w4;omega
  subst hf
  have e:mI l name= -1:=by rw [<-he];rfl
  refine⟨[],[],_,_,_,ζ,aC,(),aa,?_,?_,ζ⟩
  ·(show _=ui l name);unfold ui;first|(rw [e];rfl)|rfl
  ·rfl
def KA (e x:fO) (done:Bool):Bool:= !done&& !(Op.bytesLess x.1.toList e.1.toList||x.1.toList==e.1.toList)
def z7:List fO->fO->Bool->List fO->List fO×Bool
 |[],_,done,out=>(out,done)
 |x::l,e,done,out=>bif KA e x done then z7 l e true (out++[e]++[x]) else z7 l e done (out++[x])
def zb (e:fO) (r:List fO×Bool):List fO:=bif !r.2 then r.1++[e] else r.1
def sI (l:List fO) (e:fO):List fO:=zb e (z7 l e false [])
def adE {x e:fO}{l out:List fO}{done:Bool}(h:KA e x done=true):z7 (x::l) e done out=z7 l e true (out++[e]++[x]):=by rw [z7,h];rfl
def W9 {x e:fO}{l out:List fO}{done:Bool}(h:KA e x done=false):z7 (x::l) e done out=z7 l e done (out++[x]):=by rw [z7,h];rfl
def rF (l:List fO) (e:fO):Prop:=l.length<=1000
def ri (l:List fO) (e:fO):AV:=.s (.xs 0 2 0 (sI l e).length)
def uy (l:List fO) (e:fO):List AV:=[.rs aO (sI l e)]
def si:cu where
 A:=[.s (.vz aO),.a [.str,.int]]
 B:=[]
 pre:=λx b=>rF (x.1) (x.2)
 r:=λx b _=>ri (x.1) (x.2)
 o:=λx b _=>uy (x.1) (x.2)
 nf:=1
def OF:Has Tryz.prog 120 si:=by
 refine Has.fP zT zF zF (l:=[]) trivial Tryz.func120 ?_
 rintro⟨(l:List fO),⟨(e1:ByteArray),(e2:Int)⟩⟩ _ (hp:rF l (e1,e2))
 show vc _ _ _ _ (entry [.s (.vz aO l),.a [.str e1,.int e2]] []) _
 have hlen:l.length<=1000:=hp
 refine⟨aa,?_⟩
 all_goals first|refine aw ?_|refine ax ?_|exact bb|exact ba|skip
 refine df (l:=[]) (ex:=zT) (wr:=zF) (pt:=zF) trivial [.s 0,.s 3,.b 1003] (λy:Nat×List fO×Bool=>[(.s 5,.s (.xs 1008 2 0 y.2.1.length)),(.s 6,.s (.q y.2.2)),(.s 7,.int y.1),(.b 1008,.rs aO y.2.1)]) (λy=>y.1<=l.length/\y.2.1.length<=2*y.1/\z7 (l.drop y.1) (e1,e2) y.2.2 y.2.1=z7 l (e1,e2) false []) (λy=>l.length-y.1) (0,[],false) [] ⟨ZA7 _,ZA7 _,rfl⟩ dP ?_
 rintro⟨i,out,dn⟩ ⟨(hi:i<=l.length),(ho:out.length<=2*i),(hr:z7 (l.drop i) (e1,e2) dn out=z7 l (e1,e2) false [])⟩
 have bR:decide ((i:Int)<(l.length:Int))=true->i<l.length:=λh=>by have:=aF h;omega
 refine⟨λw1=>⟨Sq6,Sq15,ζ,Sq15,Sq16,ζ,Sq16,Sq17,ζ,aa,λw2=>⟨[.s 17,.s 0],Sq18,ζ,[.s 17,.s 7],Sq19,ζ,[.s 17,.s 18,.s 19],Sq20,ζ,⟨?_,?_⟩,[.s 17,.s 20],Sq21,ζ,[.s 17,.s 21],Sq22,ζ,[.s 17,.s 3],Sq23,ζ,[.s 17,.s 23,.b 1003],Sq24,ζ,[.s 17,.s 22,.s 24],Sq25,ζ,[.s 17,.s 25],Sq26,ζ,λw3=>⟨aa,⟨⟨?_,?_⟩,?_,?_⟩,⟨?_,?_⟩,aa,⟨⟨?_,?_⟩,?_,?_⟩,⟨?_,?_⟩,?_⟩,λw4=>⟨⟨?_,?_⟩,aa,⟨⟨?_,?_⟩,?_,?_⟩,⟨?_,?_⟩,?_⟩⟩,λw5=>⟨Sq17,Sq18,ζ,Sq17,Sq19,ζ,Sq17,Sq20,ζ,Sq17,Sq21,ζ,Sq17,Sq22,ζ,Sq17,Sq23,ζ,Sq17,Sq24,ζ,Sq17,Sq25,ζ,[.s 17,.s 25],Sq26,ζ,⟨?_,?_⟩,aa,⟨⟨?_,?_⟩,?_,?_⟩,⟨?_,?_⟩,?_⟩⟩,λw6=>⟨λw7=>⟨aa,⟨⟨?_,?_⟩,?_,?_⟩,?_⟩,λw8=>?_⟩⟩
 all_goals first|refine aw ?_|refine ax ?_|exact bb|exact ba|exact bR w1|skip
 ·have lQ:=bR w1
  have hb:KA (e1,e2) (nth aO l i) dn=true:=by unfold KA;rw [show (!dn)=true from w2,show (!(Op.bytesLess (nth aO l i).1.toList e1.toList||(nth aO l i).1.toList==e1.toList))=true from w3];rfl
  refine⟨(i+1,out++[(e1,e2)]++[nth aO l i],true),[(1008,1037)],?_,?_,?_⟩
  rotate_right
  ·exact bY
  ·refine⟨lQ,by show (out++[(e1,e2)]++[nth aO l i]).length<=2*(i+1);rw [ZA0,ZA0];show out.length+1+1<=_;omega,?_⟩
   rw [<-hr,bJ (ek:=aO) lQ,adE hb]
  ·show l.length-(i+1)<l.length-i;omega
 ·have lQ:=bR w1
  have hb:KA (e1,e2) (nth aO l i) dn=false:=by unfold KA;rw [show (!(Op.bytesLess (nth aO l i).1.toList e1.toList||(nth aO l i).1.toList==e1.toList))=false from w4,ZD7]
  refine⟨(i+1,out++[nth aO l i],dn),[(1008,1037)],?_,?_,?_⟩
  rotate_right
  ·exact bY
  ·refine⟨lQ,by show (out++[nth aO l i]).length<=2*(i+1);rw [ZA0];show out.length+1<=_;omega,?_⟩
   rw [<-hr,bJ (ek:=aO) lQ,W9 hb]
  ·show l.length-(i+1)<l.length-i;omega
 ·have lQ:=bR w1
  have hb:KA (e1,e2) (nth aO l i) dn=false:=by unfold KA;rw [show (!dn)=false from w5];rfl
  refine⟨(i+1,out++[nth aO l i],dn),[(1008,1037)],?_,?_,?_⟩
  rotate_right
  ·exact bY
  ·refine⟨lQ,by show (out++[nth aO l i]).length<=2*(i+1);rw [ZA0];show out.length+1<=_;omega,?_⟩
   rw [<-hr,bJ (ek:=aO) lQ,W9 hb]
  ·show l.length-(i+1)<l.length-i;omega
 ·have wZ:¬i<l.length:=by have:=aD (p:=(i:Int)<(l.length:Int)) w6;omega
  have e:sI l (e1,e2)=out++[(e1,e2)]:=by unfold sI;rw [<-hr,ZB3 (by omega)];show zb (e1,e2) (out,dn)=_;unfold zb;rw [show (!dn)=true from w7];rfl
  refine⟨[1043],[],_,_,_,ζ,aC,(),aa,?_,?_,ζ⟩
  ·(show _=ri l (e1,e2));unfold ri;first|(rw [e,ZA0];rfl)|(rw [e];rfl)|rfl
  ·(show _=uy l (e1,e2));unfold uy;first|(rw [e,ZA0];rfl)|(rw [e];rfl)|rfl
 ·have wZ:¬i<l.length:=by have:=aD (p:=(i:Int)<(l.length:Int)) w6;omega
  have e:sI l (e1,e2)=out:=by unfold sI;rw [<-hr,ZB3 (by omega)];show zb (e1,e2) (out,dn)=_;unfold zb;rw [show (!dn)=false from w8];rfl
  refine⟨[1008],[],_,_,_,ζ,aC,(),aa,?_,?_,ζ⟩
  ·(show _=ri l (e1,e2));unfold ri;first|(rw [e];rfl)|rfl
  ·(show _=uy l (e1,e2));unfold uy;first|(rw [e];rfl)|rfl
def eZ (l:List fO) (i:Nat):List fO:=l.take i++l.drop (i+1)
def sS (l:List fO) (i:Int):Prop:=l.length<=1000/\0<=i/\i<l.length
def xI (l:List fO) (i:Int):AV:=.s (.xs 0 2 0 (eZ l i.toNat).length)
def BW (l:List fO) (i:Int):List AV:=[.rs aO (eZ l i.toNat)]
def uU:cu where
 A:=[.s (.vz aO),.s .int]
 B:=[]
 pre:=λx b=>sS (x.1) (x.2)
 r:=λx b _=>xI (x.1) (x.2)
 o:=λx b _=>BW (x.1) (x.2)
 nf:=1
def SK:Has Tryz.prog 125 uU:=by
 refine Has.fP zT zF zF (l:=[]) trivial Tryz.func125 ?_
 rintro⟨(l:List fO),(i:Int)⟩ _ (hp:sS l i)
 show vc _ _ _ _ (entry [.s (.vz aO l),.int i] []) _
 obtain⟨h1,h2,h3⟩:=hp
 have e:eZ l i.toNat=l.take (i.toNat-0)++l.drop (i+1).toNat:=by unfold eZ;rw [Nat.sub_zero,show (i+1).toNat=i.toNat+1 by omega]
 have hl1:(l.take (i.toNat-0)).length<=1000:=by rw [ZB6];omega
 have hl2:((l.drop (i+1).toNat).take (l.length-(i+1).toNat)).length<=1000:=by rw [ZB6,ZC8];omega
 refine⟨[.b 1005],[.s 5,.b 1005],ζ,aa,Sq0,Sq6,ζ,Sq1,Sq7,ζ,[.s 6,.s 7],Sq8,ζ,⟨?_,?_,?_⟩,[.s 5,.s 8,.b 1005,.b 1009],[.s 9,.b 1009,.b 1005],ζ,⟨⟨?_,?_⟩,aa⟩,Sq0,Sq10,ζ,Sq1,Sq11,ζ,Sq11,Sq12,ζ,⟨?_,?_⟩,[.s 10,.s 12],Sq13,ζ,⟨?_,?_,?_⟩,[.s 9,.s 13,.b 1009,.b 1014],[.s 14,.b 1014,.b 1009],ζ,⟨⟨?_,?_⟩,aa⟩,Sq14,Sq4,ζ,?_⟩
 all_goals first|refine aw ?_|refine ax ?_|exact bb|exact ba|(show 0+(l.take (i.toNat-0)).length<=1048576;omega)|(show ([]++l.take (i.toNat-0)).length+((l.drop (i+1).toNat).take (l.length-(i+1).toNat)).length<=1048576;rw [ZC9];omega)|skip
 ·have e2:(eZ l i.toNat).length=([]++l.take (i.toNat-0)).length+((l.drop (i+1).toNat).take (l.length-(i+1).toNat)).length:=by rw [e,ZA0,ZC9,ZC4 (l:=l.drop _) (by rw [ZC8];omega)]
  have e3:eZ l i.toNat=([]++l.take (i.toNat-0))++((l.drop (i+1).toNat).take (l.length-(i+1).toNat)):=by rw [e,ZC9,ZC4 (l:=l.drop _) (by rw [ZC8];omega)]
  refine⟨[1014],[],_,_,_,ζ,aC,(),aa,?_,?_,ζ⟩
  ·(show _=xI l i);unfold xI;first|(rw [e2];rfl)|(rw [e3];rfl)|rfl
  ·(show _=BW l i);unfold BW;first|(rw [e2];rfl)|(rw [e3];rfl)|rfl
end GL
namespace GL
def ld:List Pt->ay->ay
 |[],s=>s
 |p::l,s=>ld l (gZ s p.1.toNat)
def aoJ (u:ay):ay:=(u.rows,u.refs,u.last,u.cz+1,[],u.cm,u.dead,u.same)
def jR (s:ay):ay:=aoJ (ld s.gone s)
structure ay.gk (s:ay):Prop where
 n:s.n64
 len:s.gone.length<=1000000
 ok:∀p∈s.gone,0<=p.1/\p.1<64
 cz: -1000000<=s.cz/\s.cz<=1000000
def rv (S:ay):Prop:=S.gk
def A7 (S:ay):AV:=.a (nH 0 1 2 5 4 (jR S))
def HA (S:ay):List AV:=[.rs ab (jR S).rows,.rs ag (jR S).refs,.rs ag (jR S).last,.rs ae S.gone,.rs ae (jR S).dead,.rs ae []]
def sc:cu where
 A:=[.a (stB 0 1 2 3 4)]
 B:=[.r ab,.r ag,.r ag,.r ae,.r ae]
 pre:=λx b=>stW x b/\rv (iE x b)
 r:=λx b _=>A7 (iE x b)
 o:=λx b _=>HA (iE x b)
 nf:=1
def OA:Has Tryz.prog 46 sc:=by
 refine Has.fP zT zF zF (l:=[(84,sd)]) ⟨OB,aa⟩ Tryz.func46 ?_
 rintro⟨(C7:Nat),(C6:Nat),(C5:Nat),(ao:Int),(C4:Nat),(aq:Int),(C3:Nat),(ar:Bool)⟩ ⟨(aj:List ByteArray),(ak:List Int),(an:List Int),(ah:List Pt),(ai:List Pt)⟩ ⟨⟨(gR:C7=List.length aj),(gQ:C6=List.length ak),(gP:C5=List.length an),(gO:C4=List.length ah),(gN:C3=List.length ai)⟩,(hp:rv (aj,ak,an,ao,ah,aq,ai,ar))⟩
 subst gR gQ gP gO gN
 show vc _ _ _ _ (entry [.a [.xs 0 1 0 aj.length,.xs 1 1 0 ak.length,.xs 2 1 0 an.length,.int ao,.xs 3 5 0 ah.length,.int aq,.xs 4 5 0 ai.length,.q ar]] [.rs ab aj,.rs ag ak,.rs ag an,.rs ae ah,.rs ae ai]) _
 let A':=(aj,ak,an,ao,ah,aq,ai,ar)
 have hgk:ay.gk A':=hp
 have hgl:ah.length<=1000000:=hgk.len
 have hn:aj.length=64/\ak.length=64/\an.length=64:=hgk.n
 refine ?_
 all_goals first|refine aw ?_|refine ax ?_|exact bb|(dsimp only [sd,ry,iE];omega)|exact ba|skip
 refine df (l:=[(84,sd)]) (ex:=zT) (wr:=zF) (pt:=zF) ⟨OB,aa⟩ [.s 1,.s 2,.b 1002,.b 3,.b 4] (λy:Nat×List ByteArray×List Int×List Int=>[(.s 3,.int y.1),(.b 1001,.a (nH 0 1 2 3 4 (y.2.1,y.2.2.1,y.2.2.2,ao,ah,aq,ai,ar))),(.b 0,.rs ab y.2.1),(.b 1,.rs ag y.2.2.1),(.b 2,.rs ag y.2.2.2)]) (λy=>y.1<=ah.length/\(y.2.1.length=64/\y.2.2.1.length=64/\y.2.2.2.length=64)/\ld (ah.drop y.1) (y.2.1,y.2.2.1,y.2.2.2,ao,ah,aq,ai,ar)=ld ah A') (λy=>ah.length-y.1) (0,aj,ak,an) [] ⟨ZA7 _,hn,rfl⟩ dP ?_
 rintro⟨i,ro,rf,la⟩ ⟨(hi:i<=ah.length),⟨(h1:ro.length=64),(h2:rf.length=64),(h3:la.length=64)⟩,(hr:ld (ah.drop i) (ro,rf,la,ao,ah,aq,ai,ar)=ld ah A')⟩
 have bR:decide ((i:Int)<(ah.length:Int))=true->i<ah.length:=λh=>by have:=aF h;omega
 have AH:i<ah.length->0<=(nth ae ah i).1/\(nth ae ah i).1<64:=λh=>hgk.ok _ (bS (ek:=ae) h)
 have htx:=hgk.cz
 have aqK: -1000000<=ao:=htx.1
 have ar9:ao<=1000000:=htx.2
 refine⟨λw1=>⟨[.s 1,.b 1001],Sq11,ζ,Sq1,Sq12,ζ,[.s 12,.b 1001],Sq13,ζ,Sq3,Sq14,ζ,[.s 13,.s 14],Sq15,ζ,⟨?_,?_⟩,Sq15,Sq16,ζ,[.s 16,.b 3],Sq17,ζ,?_,[.s 11,.s 17,.b 0,.b 1,.b 2,.b 3,.b 4],[.s 18,.b 0,.b 1,.b 2,.b 3,.b 4],ζ,⟨⟨tv9,tv2⟩,⟨?_,?_,?_,?_,?_⟩,⟨?_,?_,?_⟩,?_,?_⟩,?_,λx2 w3=>⟨[.s 1,.s 18,.b 1001],[.b 1001],ζ,⟨?_,?_⟩,?_⟩⟩,λw4=>⟨aa,⟨?_,?_⟩,?_⟩⟩
 all_goals first|refine aw ?_|refine ax ?_|exact bb|(dsimp only [sd,ry,iE];omega)|exact ba|(simp only [gz,imax];omega)|exact bR w1|skip
 ·exact (AH (bR w1)).1
 ·exact (AH (bR w1)).2
 ·have lQ:=bR w1
  have hdl:=zX (ro,rf,la,ao,ah,aq,ai,ar) (nth ae ah i).1.toNat
  refine⟨(i+1,(gZ (ro,rf,la,ao,ah,aq,ai,ar) (nth ae ah i).1.toNat).1,(gZ (ro,rf,la,ao,ah,aq,ai,ar) (nth ae ah i).1.toNat).2.1,(gZ (ro,rf,la,ao,ah,aq,ai,ar) (nth ae ah i).1.toNat).2.2.1),[],?_,?_,?_⟩
  rotate_right
  ·exact bY
  ·refine⟨lQ,⟨hdl.1.trans h1,hdl.2.1.trans h2,hdl.2.2.trans h3⟩,?_⟩
   rw [<-hr,bJ (ek:=ae) lQ];rfl
  ·show ah.length-(i+1)<ah.length-i;omega
 ·show gz<=ao+1;simp only [gz];omega
 ·show ao+1<=imax;simp only [imax];omega
 ·have wZ:¬i<ah.length:=by have:=aD (p:=(i:Int)<(ah.length:Int)) w4;omega
  have e:jR A'=(ro,rf,la,ao+1,[],aq,ai,ar):=by
   unfold jR
   rw [show ld (ay.gone A') A'=(ro,rf,la,ao,ah,aq,ai,ar) by
    rw [ZB3 (by omega)] at hr;exact hr.symm]
   rfl
  refine⟨[1019],[],_,_,_,ζ,aC,(),aa,?_,?_,ζ⟩
  ·(show _=A7 A');unfold A7;first|(rw [e];rfl)|rfl
  ·(show _=HA A');unfold HA;first|(rw [e];rfl)|rfl
def kZ:Nat->ay->List Pt->List Pt->Option (List Pt)
 |0,_,_,_=>none
 |_+1,_,[],out=>some out
 |f+1,s,p::l,out=>bif au p then kZ f s l out else bif decide (p.2.2.2.2>0) then kZ f s ((bl s p p.2.2.2.2).1++l) (out++[p]) else kZ f s l (out++[p])
def allM (s:ay) (t:bf):List Pt:=(kZ 40 s [t.root] []).getD []
def PF (s:ay) (t:bf):Bool:=(kZ 40 s [t.root] []).isSome
def qE (S:ay) (t:bf):Prop:=S.rd/\PF S t=true
def GA (S:ay) (t:bf):AV:=.s (.xs 0 5 0 (allM S t).length)
def M1 (S:ay) (t:bf):List AV:=[.rs ae (allM S t)]
def qy:cu where
 A:=[.a vj,.a [.int,.int,.int,.int,.int,.int,.int]]
 B:=[]
 pre:=λx b=>qE (x.1) (x.2)
 r:=λx b _=>GA (x.1) (x.2)
 o:=λx b _=>M1 (x.1) (x.2)
 nf:=1
theorem KO:Has Tryz.prog 32 qy:=by
 refine Has.fP zT zF (λd=>Nat.beq d 23) (l:=[(62,cN),(64,eP)]) ⟨cQ,mB,aa⟩ Tryz.func32 ?_
 rintro⟨⟨(aj:List ByteArray),(ak:List Int),(an:List Int),(ao:Int),(ah:List Pt),(aq:Int),(ai:List Pt),(ar:Bool)⟩,⟨(t1:Int),(t2:Int),(t3:Int),(t4:Int),(t5:Int),(t6:Int),(t7:Int)⟩⟩ _ (hp:qE (aj,ak,an,ao,ah,aq,ai,ar) (t1,t2,t3,t4,t5,t6,t7))
 show vc _ _ _ _ (entry [.a [.vz ab aj,.vz ag ak,.vz ag an,.int ao,.vz ae ah,.int aq,.vz ae ai,.q ar],.a [.int t1,.int t2,.int t3,.int t4,.int t5,.int t6,.int t7]] []) _
 let A':=(aj,ak,an,ao,ah,aq,ai,ar)
 let B':=(t1,t2,t3,t4,t5,t6,t7)
 obtain⟨dM,hen⟩:=hp
 have dM:ay.rd A':=dM
 obtain⟨al,hal⟩:=Option.isSome_iff_exists.1 hen
 have hal:kZ 40 A' [bf.root B'] []=some al:=hal
 have hM:allM A' B'=al:=by unfold allM;rw [hal];rfl
 refine⟨aa,aa,?_⟩
 all_goals first|refine aw ?_|refine ax ?_|exact bb|(dsimp only [eP,gu];omega)|exact ba|exact dM|skip
 refine df (l:=[(62,cN),(64,eP)]) (ex:=zT) (wr:=zF) (pt:=λd=>Nat.beq d 23) ⟨cQ,mB,trivial⟩ [.s 2,.s 3,.s 4,.b 1002,.b 1003] (λy:Nat×List Pt×List Pt=>[(.s 5,.s (.xs 1010 5 0 y.2.2.length)),(.s 6,.s (.xs 1013 5 0 y.2.1.length)),(.b 1010,.rs ae y.2.2),(.b 1013,.rs ae y.2.1)]) (λy=>y.1<=40/\y.2.1.length+4*y.1<=161/\y.2.2.length+y.1<=40/\kZ y.1 A' y.2.1 y.2.2=some al) (λy=>y.1) (40,[bf.root B'],[]) [] ⟨ZB0 _,by show 1+4*40<=161;omega,by show 0+40<=40;omega,hal⟩ dP ?_
 rintro⟨f,td,out⟩ ⟨(hf:f<=40),(htd:td.length+4*f<=161),(lZ:out.length+f<=40),(hr:kZ f A' td out=some al)⟩
 have bR:decide ((td.length:Int)>0)=true->0<td.length:=λh=>by have:=aF h;omega
 have hbl:=(gU A' (nth ae td 0) (nth ae td 0).2.2.2.2).1
 have aeH:decide ((td.length:Int)>0)=true->∃l,td=nth ae td 0::l:=λh=>by
  have:=bR h
  cases td with
  |nil=>simp at this
  |cons p l=>exact⟨l,rfl⟩
 have alv:∃g,f=g+1:=by
  cases f with
  |zero=>cases hr
  |succ g=>exact⟨g,rfl⟩
 refine⟨λw1=>⟨⟨?_,?_⟩,?_,aa,⟨?_,?_,?_⟩,⟨⟨?_,?_⟩,?_⟩,⟨⟨tv6,aa⟩,aa⟩,λx2 w3=>⟨λw4=>?_,λw5=>⟨aa,⟨⟨?_,?_⟩,?_,?_⟩,λw6=>⟨⟨⟨tv9,tv6,tv2⟩,?_⟩,λx7 w8=>⟨aa,⟨⟨?_,?_⟩,?_,?_⟩,⟨⟨?_,?_⟩,?_,?_⟩,?_⟩⟩,λw9=>?_⟩⟩⟩,λdB=>?_⟩
 all_goals first|refine aw ?_|refine ax ?_|exact bb|(dsimp only [eP,gu];omega)|exact ba|exact bR w1|exact dM|(show 0+(td.drop 1).length<=1048576;rw [ZC8];omega)|(show 0+((td.drop 1).take (td.length-1)).length<=1048576;rw [ZB6,ZC8];omega)|skip
 ·
  obtain⟨l,tU⟩:=aeH w1
  have eT:(([]:List Pt)++(td.drop 1).take (td.length-1))=l:=by rw [tU];simp
  obtain⟨g,rfl⟩:∃g,f=g+1:=alv
  have hll:l.length+1=td.length:=by rw [tU];rfl
  have hh:au (nth ae td 0)=true:=w4
  rw [tU,kZ,hh] at hr
  refine⟨(g,(([]:List Pt)++(td.drop 1).take (td.length-1)),out),[(1013,1023)],?_,?_,?_⟩
  rotate_right
  ·exact bY
  ·exact⟨by show g<=40;omega,by show ((([]:List Pt)++(td.drop 1).take (td.length-1))).length+4*g<=161;rw [eT];omega,by show out.length+g<=40;omega,by show kZ g A' (([]:List Pt)++(td.drop 1).take (td.length-1)) out=some al;rw [eT];exact hr⟩
  ·exact ZE7 g
 ·show ([]:List Pt).length+(bl A' (nth ae td 0) (nth ae td 0).2.2.2.2).1.length<=1048576;have:=hbl;show 0+_<=_;omega
 ·obtain⟨l,tU⟩:=aeH w1
  have eT:(([]:List Pt)++(td.drop 1).take (td.length-1))=l:=by rw [tU];simp
  have hll:l.length+1=td.length:=by rw [tU];rfl
  show (([]:List Pt)++(bl A' (nth ae td 0) (nth ae td 0).2.2.2.2).1).length+(([]:List Pt)++(td.drop 1).take (td.length-1)).length<=1048576
  rw [eT,ZC9];omega
 ·
  obtain⟨l,tU⟩:=aeH w1
  have eT:(([]:List Pt)++(td.drop 1).take (td.length-1))=l:=by rw [tU];simp
  obtain⟨g,rfl⟩:∃g,f=g+1:=alv
  have hll:l.length+1=td.length:=by rw [tU];rfl
  have hh:au (nth ae td 0)=false:=w5
  rw [tU,kZ,hh,show decide ((nth ae td 0).2.2.2.2>0)=true from w6] at hr
  refine⟨(g,(([]:List Pt)++(bl A' (nth ae td 0) (nth ae td 0).2.2.2.2).1)++(([]:List Pt)++(td.drop 1).take (td.length-1)),out++[(nth ae td 0)]),[(1013,1045),(1010,1029)],?_,?_,?_⟩
  rotate_right
  ·exact bY
  ·refine⟨by show g<=40;omega,?_,?_,?_⟩
   ·show ((([]:List Pt)++(bl A' (nth ae td 0) (nth ae td 0).2.2.2.2).1)++(([]:List Pt)++(td.drop 1).take (td.length-1))).length+4*g<=161;rw [eT,ZC9,ZA0];omega
   ·show (out++[(nth ae td 0)]).length+g<=40;rw [ZA0];show out.length+1+g<=40;omega
   ·show kZ g A' ((([]:List Pt)++(bl A' (nth ae td 0) (nth ae td 0).2.2.2.2).1)++(([]:List Pt)++(td.drop 1).take (td.length-1))) (out++[(nth ae td 0)])=some al;rw [eT,ZC9];exact hr
  ·exact ZE7 g
 ·
  obtain⟨l,tU⟩:=aeH w1
  have eT:(([]:List Pt)++(td.drop 1).take (td.length-1))=l:=by rw [tU];simp
  obtain⟨g,rfl⟩:∃g,f=g+1:=alv
  have hll:l.length+1=td.length:=by rw [tU];rfl
  have hh:au (nth ae td 0)=false:=w5
  rw [tU,kZ,hh,show decide ((nth ae td 0).2.2.2.2>0)=false from w9] at hr
  refine⟨(g,(([]:List Pt)++(td.drop 1).take (td.length-1)),out++[(nth ae td 0)]),[(1013,1023),(1010,1029)],?_,?_,?_⟩
  rotate_right
  ·exact bY
  ·refine⟨by show g<=40;omega,?_,?_,?_⟩
   ·show ((([]:List Pt)++(td.drop 1).take (td.length-1))).length+4*g<=161;rw [eT];omega
   ·show (out++[(nth ae td 0)]).length+g<=40;rw [ZA0];show out.length+1+g<=40;omega
   ·show kZ g A' (([]:List Pt)++(td.drop 1).take (td.length-1)) (out++[(nth ae td 0)])=some al;rw [eT];exact hr
  ·exact ZE7 g
 ·have h0:td=[]:=by cases td with
   |nil=>rfl
   |cons p l=>exact absurd (aD dB) (by simp)
  obtain⟨g,rfl⟩:∃g,f=g+1:=alv
  rw [h0,kZ] at hr
  have e:allM A' B'=out:=by rw [hM];exact (ZF4 hr).symm
  refine⟨[1010],[],_,_,_,ζ,aC,(),aa,?_,?_,ζ⟩
  ·(show _=GA A' B');unfold GA;first|(rw [e];rfl)|rfl
  ·(show _=M1 A' B');unfold M1;first|(rw [e];rfl)|rfl
end GL
namespace GL
def mM {b0 b1 b2 b3 b4:Nat}{s u:ay}(h:tT s u) (hs:s.wf):nH b0 b1 b2 b3 b4 s=nH b0 b1 b2 b3 b4 u:=by
 unfold nH
 rw [h.wf.n.1,h.wf.n.2.1,h.wf.n.2.2,hs.n.1,hs.n.2.1,hs.n.2.2,h.gone,h.dead,h.cz,h.cm,h.same]
def oh (S:ay) (t:bf) (many:Int):Prop:=S.wf/\t.rd/\0<=many/\many<=16/\S.gone.length<=1046000/\S.dead.length<=1046000
def afG (S:ay) (t:bf) (many:Int) (z:Bool):Prop:=z=(cX S t many).2.2
def oc (S:ay) (t:bf) (many:Int) (z:Bool):AV:=match z with |true=>.t [.a (nH 0 1 2 5 6 (cX S t many).1),trA (cX S t many).2.1,.s (.q true)] |false=>.t [.a (nH 0 1 2 3 4 (cX S t many).1),trA (cX S t many).2.1,.s (.q false)]
def rO (S:ay) (t:bf) (many:Int) (z:Bool):List AV:=match z with |true=>[.rs ab (cX S t many).1.rows,.rs ag (cX S t many).1.refs,.rs ag (cX S t many).1.last,.zz,.zz,.rs ae (cX S t many).1.gone,.rs ae (cX S t many).1.dead] |false=>KF (cX S t many).1++[.zz,.zz]
def nC:cu where
 A:=[.a (stB 0 1 2 3 4),.a [.int,.int,.int,.int,.int,.int,.int],.s .int]
 B:=[.r ab,.r ag,.r ag,.r ae,.r ae]
 pre:=λx b=>stW x.1 b/\oh (iE x.1 b) (x.2.1) (x.2.2)
 α:=λ_ _=>Bool
 φ:=λx b z=>afG (iE x.1 b) (x.2.1) (x.2.2) z
 r:=λx b z=>oc (iE x.1 b) (x.2.1) (x.2.2) z
 o:=λx b z=>rO (iE x.1 b) (x.2.1) (x.2.2) z
 nf:=2
 mv:=true
def EA:Has Tryz.prog 160 nC:=by
 refine Has.ofP 4 zT zF zF (l:=[(49,fa),(52,kU),(53,c8)]) ⟨nr,zH,iy,aa⟩ Tryz.func160 ?_
 rintro⟨⟨(C7:Nat),(C6:Nat),(C5:Nat),(ao:Int),(C4:Nat),(aq:Int),(C3:Nat),(ar:Bool)⟩,⟨(t1:Int),(t2:Int),(t3:Int),(t4:Int),(t5:Int),(t6:Int),(t7:Int)⟩,(many:Int)⟩ ⟨(aj:List ByteArray),(ak:List Int),(an:List Int),(ah:List Pt),(ai:List Pt)⟩ ⟨⟨(gR:C7=List.length aj),(gQ:C6=List.length ak),(gP:C5=List.length an),(gO:C4=List.length ah),(gN:C3=List.length ai)⟩,(hp:oh (aj,ak,an,ao,ah,aq,ai,ar) (t1,t2,t3,t4,t5,t6,t7) many)⟩
 subst gR gQ gP gO gN
 show vcP _ _ _ _ 4 _ (entry [.a [.xs 0 1 0 aj.length,.xs 1 1 0 ak.length,.xs 2 1 0 an.length,.int ao,.xs 3 5 0 ah.length,.int aq,.xs 4 5 0 ai.length,.q ar],.a [.int t1,.int t2,.int t3,.int t4,.int t5,.int t6,.int t7],.int many] [.rs ab aj,.rs ag ak,.rs ag an,.rs ae ah,.rs ae ai])
 let A':=(aj,ak,an,ao,ah,aq,ai,ar)
 let B':=(t1,t2,t3,t4,t5,t6,t7)
 obtain⟨sG,qg,wW,CB,(hg:ah.length<=1046000),(hd:ai.length<=1046000)⟩:=hp
 have sG:ay.wf A':=sG
 have qg:bf.rd B':=qg
 have hwl:=ic (s:=A') qg
 have hwo:=mL (s:=A') qg
 have hly:=KN (t:=B') (l:=aH A' B') (many:=many) sG
 refine KB (l:=[(49,fa),(52,kU),(53,c8)]) (ex:=zT) (wr:=zF) (pt:=zF) ⟨nr,zH,iy,aa⟩ (λy:Unit=>[(.s 3,.s (.bp 1003 0)),(.s 4,.s (.bp 1004 0)),(.s 6,.s (.bp 1006 0)),(.s 7,.s (.bp 1007 0)),(.s 12,.s (.q false)),(.b 1003,.a (nH 0 1 2 3 4 A')),(.b 0,.rs ab (ck A' B' (aH A' B') many).1.rows),(.b 1,.rs ag (ck A' B' (aH A' B') many).1.refs),(.b 2,.rs ag (ck A' B' (aH A' B') many).1.last),(.b 3,.rs ae (ck A' B' (aH A' B') many).1.gone),(.b 4,.rs ae (ck A' B' (aH A' B') many).1.dead),(.b 1004,.a [.int t1,.int t2,.int t3,.int t4,.int t5,.int t6,.int t7]),(.b 1006,.a (D5 xv.zero)),(.b 1007,.a (D5 DD.zero))]) (λy=>decide (many=bf.many B')=false/\(ck A' B' (aH A' B') many).2.2=false) (E1 4 (W6 Tryz.f160)) ?_ (λtail=>?_)
 ·rintro⟨⟩ ⟨(ft:decide (many=bf.many B')=false),(hz:(ck A' B' (aH A' B') many).2.2=false)⟩
  have J5:=HQ sG hz
  have e:(cX A' B' many)=((ck A' B' (aH A' B') many).1,B',false):=akf ft (by rw [hz];rfl)
  refine⟨λw1=>⟨[.s 3,.b 1003],Sq34,ζ,[.s 4,.b 1004],Sq35,ζ,[.s 6,.s 34,.b 1006],[.b 1006],ζ,[.s 7,.s 35,.b 1007],[.b 1007],ζ,[],Sq8,ζ,?_⟩,λw2=>?_⟩
  all_goals first|refine aw ?_|refine ax ?_|exact bb|(dsimp only [fa,gI,kU,mr,c8,eh,iE];omega)|exact ba|skip
  ·have es:nH 0 1 2 3 4 A'=nH 0 1 2 3 4 (ck A' B' (aH A' B') many).1:=mM J5 sG
   refine⟨[],[],_,_,_,ζ,aC,false,2,(by show false=(cX A' B' many).2.2;rw [e]),?_,?_,ζ⟩
   ·(show _=oc A' B' many false);unfold oc;first|(rw [e];rfl)|(rw [e];exact congrArg (λx=>AV.t [A0.a x,trA B',A0.s (SV.q false)]) es)|rfl
   ·(show _=rO A' B' many false);unfold rO;first|(rw [e];rfl)|(rw [e];exact congrArg (λx=>AV.t [A0.a x,trA B',A0.s (SV.q false)]) es)|rfl
  ·exact absurd (show true=false from w2) Bool.noConfusion
 have aoo:=tail
 clear tail
 refine KB (l:=[(49,fa),(52,kU),(53,c8)]) (ex:=zT) (wr:=zF) (pt:=zF) ⟨nr,zH,iy,aa⟩ (λy:Unit=>[(.s 2,.int many),(.s 6,.s (.bp 1006 0)),(.s 7,.s (.bp 1007 0)),(.s 9,.s (.xs 230000 5 0 (aH A' B').length)),(.s 10,.s (.bp 1010 0)),(.s 11,.s (.bp 1011 0)),(.s 12,.s (.q true)),(.b 1010,.a (nH 0 1 2 1000290000 1000290001 (ck A' B' (aH A' B') many).1)),(.b 0,.rs ab (ck A' B' (aH A' B') many).1.rows),(.b 1,.rs ag (ck A' B' (aH A' B') many).1.refs),(.b 2,.rs ag (ck A' B' (aH A' B') many).1.last),(.b 1000290000,.rs ae (ck A' B' (aH A' B') many).1.gone),(.b 1000290001,.rs ae (ck A' B' (aH A' B') many).1.dead),(.b 1011,.a [.int (ck A' B' (aH A' B') many).2.1.1,.int (ck A' B' (aH A' B') many).2.1.2.1,.int (ck A' B' (aH A' B') many).2.1.2.2.1,.int (ck A' B' (aH A' B') many).2.1.2.2.2.1,.int (ck A' B' (aH A' B') many).2.1.2.2.2.2.1,.int (ck A' B' (aH A' B') many).2.1.2.2.2.2.2.1,.int (ck A' B' (aH A' B') many).2.1.2.2.2.2.2.2]),(.b 1006,.a (D5 xv.zero)),(.b 1007,.a (D5 DD.zero)),(.b 230000,.rs ae (aH A' B'))]) (λy=>decide (many=bf.many B')=false/\(ck A' B' (aH A' B') many).2.2=true) (E1 4 (W6 Tryz.f160)) ?_ (λtail=>?_)
 ·rintro⟨⟩ ⟨(ft:decide (many=bf.many B')=false),(hz:(ck A' B' (aH A' B') many).2.2=true)⟩
  have e:(cX A' B' many)=(dV ((aH A' B').drop many.toNat) (ck A' B' (aH A' B') many).1,(ck A' B' (aH A' B') many).2.1,true):=ake ft (by rw [hz];rfl)
  refine⟨λw1=>⟨Sq3,[],ζ,?_⟩,λw2=>?_⟩
  all_goals first|refine aw ?_|refine ax ?_|exact bb|(dsimp only [fa,gI,kU,mr,c8,eh,iE];omega)|exact ba|skip
  ·exact absurd (show false=true from w1) Bool.noConfusion
  ·refine df (l:=[(49,fa),(52,kU),(53,c8)]) (ex:=zT) (wr:=zF) (pt:=zF) ⟨nr,zH,iy,trivial⟩ [.s 6,.s 7,.s 9,.s 10,.s 11,.b 1011,.b 1006,.b 1007,.b 230000] (λy:Int×ay=>[(.s 13,.int y.1),(.b 1010,.a (nH 0 1 2 1000000001 1000000002 y.2)),(.b 0,.rs ab y.2.rows),(.b 1,.rs ag y.2.refs),(.b 2,.rs ag y.2.last),(.b 1000000001,.rs ae y.2.gone),(.b 1000000002,.rs ae y.2.dead)]) (λy=>y.2.wf/\(0<=y.1/\y.1<=16)/\(y.2.gone.length<=1046005+y.1.toNat/\y.2.dead.length<=1046005+y.1.toNat)/\dV ((aH A' B').drop y.1.toNat) y.2=dV ((aH A' B').drop many.toNat) (ck A' B' (aH A' B') many).1) (λy=>16-y.1.toNat) (many,(ck A' B' (aH A' B') many).1) [(1000000001,1000290000),(1000000002,1000290001)] ⟨hly.1,⟨wW,CB⟩,⟨ZA9 hly.2.1 (by have:ah.length<=1046000:=hg;show ah.length+5<=1046005+many.toNat;omega),ZA9 hly.2.2.1 (by have:ai.length<=1046000:=hd;show ai.length+5<=1046005+many.toNat;omega)⟩,rfl⟩ dP ?_
   rintro⟨i,u⟩ ⟨(hu:u.wf),⟨(hi0:0<=i),(hi:i<=16)⟩,⟨(hug:u.gone.length<=1046005+i.toNat),(hud:u.dead.length<=1046005+i.toNat)⟩,(jV:dV ((aH A' B').drop i.toNat) u=dV ((aH A' B').drop many.toNat) (ck A' B' (aH A' B') many).1)⟩
   have hia:=pI (qd hwo i.toNat)
   have cF:decide (i<((aH A' B').length:Int))=true->i.toNat<(aH A' B').length:=λh=>by have:=aF h;omega
   refine⟨λw1=>⟨[.s 10,.b 1010],Sq43,ζ,Sq9,Sq44,ζ,Sq13,Sq45,ζ,[.s 44,.s 45],Sq46,ζ,⟨?_,?_⟩,[.s 46,.b 230000],Sq47,ζ,?_,[.s 43,.s 47,.b 0,.b 1,.b 2,.b 1000000001,.b 1000000002,.b 1000490001,.b 1000490000],[.s 48,.b 0,.b 1,.b 2,.b 1000000001,.b 1000000002,.b 1000490000,.b 1000490001],ζ,⟨⟨tv9,tv6,aa⟩,⟨?_,?_,?_,?_,?_⟩,⟨?_,?_,?_⟩,?_,?_,?_,?_⟩,?_,λx2 w3=>⟨[.s 10,.s 48,.b 1010],[.b 1010],ζ,⟨?_,?_⟩,?_⟩⟩,λw4=>⟨[.s 10,.b 1010],Sq49,ζ,[.s 11,.b 1011],Sq50,ζ,[.s 6,.s 49,.b 1006],[.b 1006],ζ,[.s 7,.s 50,.b 1007],[.b 1007],ζ,[],Sq8,ζ,?_⟩⟩
   all_goals first|refine aw ?_|refine ax ?_|exact bb|(dsimp only [fa,gI,kU,mr,c8,eh,iE];omega)|exact ba|exact cF w1|exact aF w1|exact hu.n.1|exact hu.n.2.1|exact hu.n.2.2|exact hia.1|exact hia.2|exact ZA9 hug (by omega)|exact ZA9 hud (by omega)|skip
   ·have hil:=cF w1
    have lQ:=aF (p:=i<((aH A' B').length:Int)) w1
    have hfl:=qL u (nth ae (aH A' B') i.toNat)
    have zO:(i+1).toNat=i.toNat+1:=by omega
    refine⟨(i+1,dh u (nth ae (aH A' B') i.toNat)),[(1000000001,1000490000),(1000000002,1000490001)],?_,?_,?_⟩
    rotate_right
    ·exact bY
    ·refine⟨r4 hu,⟨by show 0<=i+1;omega,by show i+1<=16;omega⟩,⟨by show (dh u (nth ae (aH A' B') i.toNat)).gone.length<=1046005+(i+1).toNat;omega,by show (dh u (nth ae (aH A' B') i.toNat)).dead.length<=1046005+(i+1).toNat;omega⟩,?_⟩
     show dV ((aH A' B').drop (i+1).toNat) _=_
     rw [<-jV,bJ (ek:=ae) hil,zO];rfl
    ·show 16-(i+1).toNat<16-i.toNat;omega
   ·have e2:dV ((aH A' B').drop many.toNat) (ck A' B' (aH A' B') many).1=u:=by
     rw [<-jV,ZB3 (by have:=aD (p:=i<((aH A' B').length:Int)) w4;omega)];rfl
    have e3:(cX A' B' many)=(u,(ck A' B' (aH A' B') many).2.1,true):=by rw [e,e2]
    refine⟨[1000000001,1000000002],[],_,_,_,ζ,aC,true,0,(by show true=(cX A' B' many).2.2;rw [e3]),?_,?_,ζ⟩
    ·(show _=oc A' B' many true);unfold oc;first|(rw [e3];rfl)|rfl
    ·(show _=rO A' B' many true);unfold rO;first|(rw [e3];rfl)|rfl
 ·refine⟨λw1=>⟨[.s 3,.b 1003],Sq18,ζ,[.s 4,.b 1004],Sq19,ζ,[.s 6,.s 18,.b 1006],[.b 1006],ζ,[.s 7,.s 19,.b 1007],[.b 1007],ζ,[],Sq8,ζ,?_⟩,λw2=>⟨⟨⟨⟨⟨?_,?_⟩,⟨?_,?_⟩,⟨?_,?_⟩,aa,⟨?_,?_⟩,aa,⟨?_,?_⟩,tv2⟩,tv8,aa⟩,?_,?_⟩,λx3 w4=>⟨⟨⟨tv9,tv8,⟨?_,?_⟩,tv2⟩,⟨?_,?_,?_,?_,?_⟩,?_,?_,?_,?_,?_,?_,?_⟩,λ|false=>λw5=>?_ |true=>λw6=>?_⟩⟩⟩
  all_goals first|refine aw ?_|refine ax ?_|exact bb|(dsimp only [fa,gI,kU,mr,c8,eh,iE];omega)|exact ba|exact sG|exact sG.rd|exact qg|exact hwl|exact ZA9 hg (by decide)|exact ZA9 hd (by decide)|skip
  ·have e:(cX A' B' many)=(A',B',true):=akg w1
   refine⟨[3,4],[],_,_,_,ζ,aC,true,0,(by show true=(cX A' B' many).2.2;rw [e]),?_,?_,ζ⟩
   ·(show _=oc A' B' many true);unfold oc;first|(rw [e];rfl)|rfl
   ·(show _=rO A' B' many true);unfold rO;first|(rw [e];rfl)|rfl
  ·have hz:(ck A' B' (aH A' B') many).2.2=false:=(show false=(ck A' B' (aH A' B') many).2.2 from w5).symm
   refine joinTail aoo () [] (⟨w2,hz⟩) ?_
   repeat' (first|exact trivial|rfl|exact rfl|exact iO ZA0.symm|apply And.intro)
  ·have hz:(ck A' B' (aH A' B') many).2.2=true:=(show true=(ck A' B' (aH A' B') many).2.2 from w6).symm
   refine joinTail tail ((())) [] ((⟨w2,hz⟩)) ?_
   repeat' (first|exact trivial|rfl|exact rfl|exact iO ZA0.symm|apply And.intro)
end GL
namespace GL
def eV {s:ay}{t:bf}(h:t.ok):(aE s t).length=t.many.toNat:=by
 unfold aE tu
 rw [ZH3,ZB6,ic h.rd]
 have:=h.m0;have:=h.m1;omega
def AX {s:ay}{t:bf}(h:t.ok) {k:Nat}(hk:k<t.many.toNat):nth ab (aE s t) k=getM s t k:=by
 have h1:=h.m1
 have hl:=ic (s:=s) h.rd
 unfold aE tu getM nth
 rw [ZG7,ZH7 hk,ZB2 (by omega)]
 rfl
def nX {s:ay}{t:bf}(h:s.rd):∀x∈aE s t,x.size<=1000000:=by
 intro x hx
 unfold aE tu at hx
 obtain⟨p,_,rfl⟩:=List.mem_map.1 hx
 exact DS h
def HI {l:List ByteArray}(h:∀x∈l,x.size<=1000000) (k:Nat):(nth ab l k).size<=1000000:=by
 by_cases hk:k<l.length
 ·exact h _ (bS (ek:=ab) hk)
 ·unfold nth;rw [ZE1 (by omega)];exact ZA7 _
def cW (s:ay) (t:bf) (k:Int):dN×Bool:=bif !(gC k 0 (t.many-1)) then (dq,false) else aG (getM s t k.toNat)
def ac7 {s:ay}{t:bf}{k:Int}(h:(!(gC k 0 (t.many-1)))=true):cW s t k=(dq,false):=by unfold cW;rw [h];rfl
def ac6 {s:ay}{t:bf}{k:Int}(h:(!(gC k 0 (t.many-1)))=false):cW s t k=aG (getM s t k.toNat):=by unfold cW;rw [h];rfl
def lW (S:ay) (t:bf) (k:Int):Prop:=S.rd/\bf.ok t
def rk (S:ay) (t:bf) (k:Int):AV:=.t [ndA (cW S t k).1,.s (.q (cW S t k).2)]
def af4 (S:ay) (t:bf) (k:Int):List AV:=[]
def kr:cu where
 A:=[.a vj,.a [.int,.int,.int,.int,.int,.int,.int],.s .int]
 B:=[]
 pre:=λx b=>lW (x.1) (x.2.1) (x.2.2)
 r:=λx b _=>rk (x.1) (x.2.1) (x.2.2)
 o:=λx b _=>af4 (x.1) (x.2.1) (x.2.2)
def yq:Has Tryz.prog 158 kr:=by
 refine Has.fP zT zF zF (l:=[(60,jc),(184,WZ),(34,fC)]) ⟨jr,alq,oB,aa⟩ Tryz.func158 ?_
 rintro⟨⟨(aj:List ByteArray),(ak:List Int),(an:List Int),(ao:Int),(ah:List Pt),(aq:Int),(ai:List Pt),(ar:Bool)⟩,⟨(t1:Int),(t2:Int),(t3:Int),(t4:Int),(t5:Int),(t6:Int),(t7:Int)⟩,(k:Int)⟩ _ (hp:lW (aj,ak,an,ao,ah,aq,ai,ar) (t1,t2,t3,t4,t5,t6,t7) k)
 show vc _ _ _ _ (entry [.a [.vz ab aj,.vz ag ak,.vz ag an,.int ao,.vz ae ah,.int aq,.vz ae ai,.q ar],.a [.int t1,.int t2,.int t3,.int t4,.int t5,.int t6,.int t7],.int k] []) _
 let A':=(aj,ak,an,ao,ah,aq,ai,ar)
 let B':=(t1,t2,t3,t4,t5,t6,t7)
 obtain⟨dM,cn⟩:=hp
 have dM:ay.rd A':=dM
 have cn:bf.ok B':=cn
 have h0:0<=t7:=cn.m0
 have h1:t7<=16:=cn.m1
 have cF:(!(gC k 0 (t7-1)))=false->0<=k/\k<16:=λh=>by have:=cy.1 (qi h);omega
 have db:(getM A' B' k.toNat).size<=1000000:=DS dM
 refine⟨⟨?_,?_⟩,⟨tv4,aa⟩,λx1 w2=>⟨λw3=>?_,λw4=>⟨⟨⟨tv9,tv8,tv2⟩,?_,?_,?_,?_⟩,λx5 w6=>⟨⟨tv2,?_⟩,λx7 w8=>?_⟩⟩⟩⟩
 all_goals first|refine aw ?_|refine ax ?_|exact bb|(dsimp only [WZ,G3,fC,gv];omega)|exact ba|exact dM|exact cn.rd|exact db|exact (cF w4).1|exact (cF w4).2|skip
 ·refine⟨[],[],_,_,_,ζ,aC,(),aa,?_,?_,ζ⟩
  ·(show _=rk A' B' k);unfold rk;first|(rw [ac7 (s:=A') (t:=B') w3];rfl)|rfl
  ·rfl
 ·refine⟨[],[],_,_,_,ζ,aC,(),aa,?_,?_,ζ⟩
  ·(show _=rk A' B' k);unfold rk;first|(rw [ac6 (s:=A') (t:=B') w4];rfl)|rfl
  ·rfl
def jS (nI:Int):List ByteArray->Nat->Int->Int
 |[],_,n=>n
 |x::l,k,n=>jS nI l (k+1) (bif decide ((k:Int)≠nI)&&decide (x≠⟨#[]⟩) then (k:Int)+1 else n)
def alm {nI:Int}{x:ByteArray}{l:List ByteArray}{k:Nat}{n:Int}(h:decide ((k:Int)≠nI)=true) (h2:decide (x≠⟨#[]⟩)=true):jS nI (x::l) k n=jS nI l (k+1) ((k:Int)+1):=by rw [jS,h,h2];rfl
def aiT {nI:Int}{x:ByteArray}{l:List ByteArray}{k:Nat}{n:Int}(h:decide ((k:Int)≠nI)=true) (h2:decide (x≠⟨#[]⟩)=false):jS nI (x::l) k n=jS nI l (k+1) n:=by rw [jS,h,h2];rfl
def aiS {nI:Int}{x:ByteArray}{l:List ByteArray}{k:Nat}{n:Int}(h:decide ((k:Int)≠nI)=false):jS nI (x::l) k n=jS nI l (k+1) n:=by rw [jS,h];rfl
def nS (s:ay) (t:bf) (nI:Int):Int:=jS nI (aE s t) 0 0
def sT (S:ay) (t:bf) (nI:Int):Prop:=S.rd/\bf.ok t
def xJ (S:ay) (t:bf) (nI:Int):AV:=.s (.int (nS S t nI))
def acd (S:ay) (t:bf) (nI:Int):List AV:=[]
def uV:cu where
 A:=[.a vj,.a [.int,.int,.int,.int,.int,.int,.int],.s .int]
 B:=[]
 pre:=λx b=>sT (x.1) (x.2.1) (x.2.2)
 r:=λx b _=>xJ (x.1) (x.2.1) (x.2.2)
 o:=λx b _=>acd (x.1) (x.2.1) (x.2.2)
def SL:Has Tryz.prog 159 uV:=by
 refine Has.fP zT zF zF (l:=[(33,cD)]) ⟨gb,aa⟩ Tryz.func159 ?_
 rintro⟨⟨(aj:List ByteArray),(ak:List Int),(an:List Int),(ao:Int),(ah:List Pt),(aq:Int),(ai:List Pt),(ar:Bool)⟩,⟨(t1:Int),(t2:Int),(t3:Int),(t4:Int),(t5:Int),(t6:Int),(t7:Int)⟩,(nI:Int)⟩ _ (hp:sT (aj,ak,an,ao,ah,aq,ai,ar) (t1,t2,t3,t4,t5,t6,t7) nI)
 show vc _ _ _ _ (entry [.a [.vz ab aj,.vz ag ak,.vz ag an,.int ao,.vz ae ah,.int aq,.vz ae ai,.q ar],.a [.int t1,.int t2,.int t3,.int t4,.int t5,.int t6,.int t7],.int nI] []) _
 obtain⟨dM,cn⟩:=hp
 have dM:ay.rd (aj,ak,an,ao,ah,aq,ai,ar):=dM
 have cn:bf.ok (t1,t2,t3,t4,t5,t6,t7):=cn
 have h0:0<=t7:=cn.m0
 have h1:t7<=16:=cn.m1
 have hl:(aE (aj,ak,an,ao,ah,aq,ai,ar) (t1,t2,t3,t4,t5,t6,t7)).length=t7.toNat:=eV cn
 refine⟨⟨⟨tv9,tv8,aa⟩,?_,?_,?_,?_⟩,λx1 w2=>?_⟩
 all_goals first|refine aw ?_|refine ax ?_|exact bb|(dsimp only [cD,dL];omega)|exact ba|exact dM|exact cn.rd|skip
 refine df (l:=[(33,cD)]) (ex:=zT) (wr:=zF) (pt:=zF) ⟨gb,aa⟩ [.s 2,.s 3,.s 4,.b 1003,.b 1004,.s 8,.b 130000] (λy:Nat×Int=>[(.s 7,.int y.2),(.s 9,.int y.1)]) (λy=>(y.1:Int)<=t7/\jS nI ((aE (aj,ak,an,ao,ah,aq,ai,ar) (t1,t2,t3,t4,t5,t6,t7)).drop y.1) y.1 y.2=nS (aj,ak,an,ao,ah,aq,ai,ar) (t1,t2,t3,t4,t5,t6,t7) nI) (λy=>t7.toNat-y.1) (0,0) [] ⟨h0,rfl⟩ dP ?_
 rintro⟨i,n⟩ ⟨(hi:(i:Int)<=t7),(hr:jS nI ((aE (aj,ak,an,ao,ah,aq,ai,ar) (t1,t2,t3,t4,t5,t6,t7)).drop i) i n=nS (aj,ak,an,ao,ah,aq,ai,ar) (t1,t2,t3,t4,t5,t6,t7) nI)⟩
 have bR:decide ((i:Int)<t7)=true->i<(aE (aj,ak,an,ao,ah,aq,ai,ar) (t1,t2,t3,t4,t5,t6,t7)).length:=λh=>by have:=aF h;omega
 refine⟨λw1=>⟨aa,λw2=>⟨⟨?_,?_⟩,?_,λw3=>⟨⟨?_,?_⟩,⟨?_,?_⟩,?_⟩,λw4=>⟨⟨?_,?_⟩,?_⟩⟩,λw5=>⟨⟨?_,?_⟩,?_⟩⟩,λw6=>?_⟩
 all_goals first|refine aw ?_|refine ax ?_|exact bb|(dsimp only [cD,dL];omega)|exact ba|exact bR w1|skip
 ·have lQ:=bR w1
  have ajk:=aF (p:=(i:Int)<t7) w1
  refine⟨(i+1,(i:Int)+1),[],?_,?_,?_⟩
  rotate_right
  ·exact bY
  ·exact⟨by show ((i+1:Nat):Int)<=t7;omega,by rw [<-hr,bJ (ek:=ab) lQ,alm w2 (show decide (nth ab (aE (aj,ak,an,ao,ah,aq,ai,ar) (t1,t2,t3,t4,t5,t6,t7)) i≠⟨#[]⟩)=true from w3)]⟩
  ·show t7.toNat-(i+1)<t7.toNat-i;omega
 ·have lQ:=bR w1
  have ajk:=aF (p:=(i:Int)<t7) w1
  refine⟨(i+1,n),[],?_,?_,?_⟩
  rotate_right
  ·exact bY
  ·exact⟨by show ((i+1:Nat):Int)<=t7;omega,by rw [<-hr,bJ (ek:=ab) lQ,aiT w2 (show decide (nth ab (aE (aj,ak,an,ao,ah,aq,ai,ar) (t1,t2,t3,t4,t5,t6,t7)) i≠⟨#[]⟩)=false from w4)]⟩
  ·show t7.toNat-(i+1)<t7.toNat-i;omega
 ·have lQ:=bR w1
  have ajk:=aF (p:=(i:Int)<t7) w1
  refine⟨(i+1,n),[],?_,?_,?_⟩
  rotate_right
  ·exact bY
  ·exact⟨by show ((i+1:Nat):Int)<=t7;omega,by rw [<-hr,bJ (ek:=ab) lQ,aiS w5]⟩
  ·show t7.toNat-(i+1)<t7.toNat-i;omega
 ·have e:nS (aj,ak,an,ao,ah,aq,ai,ar) (t1,t2,t3,t4,t5,t6,t7) nI=n:=by rw [<-hr,ZB3 (by have:=aD (p:=(i:Int)<t7) w6;omega)];rfl
  refine⟨[],[],_,_,_,ζ,aC,(),aa,?_,?_,ζ⟩
  ·(show _=xJ (aj,ak,an,ao,ah,aq,ai,ar) (t1,t2,t3,t4,t5,t6,t7) nI);unfold xJ;first|(rw [e];rfl)|rfl
  ·rfl
def frF:Nat->List ByteArray->Nat->Int
 |0,_,_=> -1
 |f+1,l,k=>bif decide ((k:Int)>=(l.length:Int))||decide (nth ab l k=⟨#[]⟩) then (k:Int) else frF f l (k+1)
def amD {f:Nat}{l:List ByteArray}{k:Nat}(h:decide ((k:Int)>=(l.length:Int))=true):frF (f+1) l k=(k:Int):=by rw [frF,h];rfl
def amC {f:Nat}{l:List ByteArray}{k:Nat}(h:decide (nth ab l k=⟨#[]⟩)=true):frF (f+1) l k=(k:Int):=by rw [frF,h,ZC7];rfl
def amB {f:Nat}{l:List ByteArray}{k:Nat}(h:decide ((k:Int)>=(l.length:Int))=false) (h2:decide (nth ab l k=⟨#[]⟩)=false):frF (f+1) l k=frF f l (k+1):=by rw [frF,h,h2];rfl
def z1 (s:ay) (t:bf):Int:=frF 16 (aE s t) 0
def xV (S:ay) (t:bf):Prop:=S.rd/\bf.ok t
def j1 (S:ay) (t:bf):AV:=.s (.int (z1 S t))
def ace (S:ay) (t:bf):List AV:=[]
def IJ:cu where
 A:=[.a vj,.a [.int,.int,.int,.int,.int,.int,.int]]
 B:=[]
 pre:=λx b=>xV (x.1) (x.2)
 r:=λx b _=>j1 (x.1) (x.2)
 o:=λx b _=>ace (x.1) (x.2)
def agy:Has Tryz.prog 116 IJ:=by
 refine Has.fP zT zF zF (l:=[(33,cD)]) ⟨gb,aa⟩ Tryz.func116 ?_
 rintro⟨⟨(aj:List ByteArray),(ak:List Int),(an:List Int),(ao:Int),(ah:List Pt),(aq:Int),(ai:List Pt),(ar:Bool)⟩,⟨(t1:Int),(t2:Int),(t3:Int),(t4:Int),(t5:Int),(t6:Int),(t7:Int)⟩⟩ _ (hp:xV (aj,ak,an,ao,ah,aq,ai,ar) (t1,t2,t3,t4,t5,t6,t7))
 show vc _ _ _ _ (entry [.a [.vz ab aj,.vz ag ak,.vz ag an,.int ao,.vz ae ah,.int aq,.vz ae ai,.q ar],.a [.int t1,.int t2,.int t3,.int t4,.int t5,.int t6,.int t7]] []) _
 let A':=(aj,ak,an,ao,ah,aq,ai,ar)
 let B':=(t1,t2,t3,t4,t5,t6,t7)
 obtain⟨dM,cn⟩:=hp
 have dM:ay.rd A':=dM
 have cn:bf.ok B':=cn
 have h0:0<=t7:=cn.m0
 have h1:t7<=16:=cn.m1
 have hl:(aE A' B').length=t7.toNat:=eV cn
 refine⟨⟨⟨tv9,tv8,aa⟩,?_,?_,?_,?_⟩,λx1 w2=>?_⟩
 all_goals first|refine aw ?_|refine ax ?_|exact bb|(dsimp only [cD,dL];omega)|exact ba|exact dM|exact cn.rd|skip
 refine df (l:=[(33,cD)]) (ex:=zT) (wr:=zF) (pt:=zF) ⟨gb,aa⟩ [.s 2,.s 3,.b 1002,.b 1003,.s 5,.b 100000] (λy:Nat×Nat=>[(.s 6,.int y.1)]) (λy=>y.1+y.2=16/\frF y.2 (aE A' B') y.1=z1 A' B') (λy=>y.2) (0,16) [] ⟨rfl,rfl⟩ dP ?_
 rintro⟨i,f⟩ ⟨(hi:i+f=16),(hr:frF f (aE A' B') i=z1 A' B')⟩
 have bR:decide ((i:Int)>=((aE A' B').length:Int))=false->i<(aE A' B').length:=λh=>by have:=aD h;omega
 refine⟨λw1=>⟨aa,λw2=>?_,λw3=>⟨⟨?_,?_⟩,?_,λw4=>?_,λw5=>⟨⟨?_,?_⟩,?_⟩⟩⟩,λw6=>?_⟩
 all_goals first|refine aw ?_|refine ax ?_|exact bb|(dsimp only [cD,dL];omega)|exact ba|exact bR w3|(show (i:Int)<((aE A' B').length:Int);have:=bR w3;omega)|skip
 ·obtain⟨g,rfl⟩:∃g,f=g+1:=⟨f-1,by have:=aF (p:=(i:Int)<16) w1;omega⟩
  have e:z1 A' B'=(i:Int):=by rw [<-hr,amD (show decide ((i:Int)>=((aE A' B').length:Int))=true from w2)]
  refine⟨[],[],_,_,_,ζ,aC,(),aa,?_,?_,ζ⟩
  ·(show _=j1 A' B');unfold j1;first|(rw [e];rfl)|rfl
  ·rfl
 ·obtain⟨g,rfl⟩:∃g,f=g+1:=⟨f-1,by have:=aF (p:=(i:Int)<16) w1;omega⟩
  have e:z1 A' B'=(i:Int):=by rw [<-hr,amC (show decide (nth ab (aE A' B') i=⟨#[]⟩)=true from w4)]
  refine⟨[],[],_,_,_,ζ,aC,(),aa,?_,?_,ζ⟩
  ·(show _=j1 A' B');unfold j1;first|(rw [e];rfl)|rfl
  ·rfl
 ·obtain⟨g,rfl⟩:∃g,f=g+1:=⟨f-1,by have:=aF (p:=(i:Int)<16) w1;omega⟩
  refine⟨(i+1,g),[],?_,?_,?_⟩
  rotate_right
  ·exact bY
  ·exact⟨by show i+1+g=16;omega,by rw [<-hr];exact (amB (show decide ((i:Int)>=((aE A' B').length:Int))=false from w3) (show decide (nth ab (aE A' B') i=⟨#[]⟩)=false from w5)).symm⟩
  ·exact ZE7 g
 ·have hf:f=0:=by have:=aD (p:=(i:Int)<16) w6;omega
  subst hf
  have e:z1 A' B'= -1:=by rw [<-hr];rfl
  refine⟨[],[],_,_,_,ζ,aC,(),aa,?_,?_,ζ⟩
  ·(show _=j1 A' B');unfold j1;first|(rw [e];rfl)|rfl
  ·rfl
def bgB (many:Int) (x:ByteArray) (k:Nat):Bool:=decide (x=⟨#[]⟩)||(decide ((k:Int)+1<many)&&decide ((x.size:Int)≠128))
def bgF (many:Int):List ByteArray->Nat->ByteArray->ByteArray×Bool
 |[],_,out=>(out,true)
 |x::l,k,out=>bif bgB many x k then (⟨#[]⟩,false) else bgF many l (k+1) (out++x)
def apK {many:Int}{x:ByteArray}{l:List ByteArray}{k:Nat}{out:ByteArray}(h:decide (x=⟨#[]⟩)=true):bgF many (x::l) k out=(⟨#[]⟩,false):=by rw [bgF,bgB,h];rfl
def apJ {many:Int}{x:ByteArray}{l:List ByteArray}{k:Nat}{out:ByteArray}(h:decide ((k:Int)+1<many)=true) (h2:decide ((x.size:Int)≠128)=true):bgF many (x::l) k out=(⟨#[]⟩,false):=by rw [bgF,bgB,h,h2,Bool.and_true,ZC7];rfl
def apI {many:Int}{x:ByteArray}{l:List ByteArray}{k:Nat}{out:ByteArray}(h0:decide (x=⟨#[]⟩)=false) (h:decide ((k:Int)+1<many)=true) (h2:decide ((x.size:Int)≠128)=false):bgF many (x::l) k out=bgF many l (k+1) (out++x):=by rw [bgF,bgB,h0,h,h2];rfl
def apH {many:Int}{x:ByteArray}{l:List ByteArray}{k:Nat}{out:ByteArray}(h0:decide (x=⟨#[]⟩)=false) (h:decide ((k:Int)+1<many)=false):bgF many (x::l) k out=bgF many l (k+1) (out++x):=by rw [bgF,bgB,h0,h];rfl
def dI (s:ay) (t:bf):ByteArray×Bool:=bgF t.many (aE s t) 0 ⟨#[]⟩
def G2 (S:ay) (t:bf):Prop:=S.rd/\bf.ok t
def oa (S:ay) (t:bf):AV:=.t [.s (.str (dI S t).1),.s (.q (dI S t).2)]
def ah5 (S:ay) (t:bf):List AV:=[]
def WY:cu where
 A:=[.a vj,.a [.int,.int,.int,.int,.int,.int,.int]]
 B:=[]
 pre:=λx b=>G2 (x.1) (x.2)
 r:=λx b _=>oa (x.1) (x.2)
 o:=λx b _=>ah5 (x.1) (x.2)
def alp:Has Tryz.prog 181 WY:=by
 refine Has.fP zT zF zF (l:=[(33,cD)]) ⟨gb,aa⟩ Tryz.func181 ?_
 rintro⟨⟨(aj:List ByteArray),(ak:List Int),(an:List Int),(ao:Int),(ah:List Pt),(aq:Int),(ai:List Pt),(ar:Bool)⟩,⟨(t1:Int),(t2:Int),(t3:Int),(t4:Int),(t5:Int),(t6:Int),(t7:Int)⟩⟩ _ (hp:G2 (aj,ak,an,ao,ah,aq,ai,ar) (t1,t2,t3,t4,t5,t6,t7))
 show vc _ _ _ _ (entry [.a [.vz ab aj,.vz ag ak,.vz ag an,.int ao,.vz ae ah,.int aq,.vz ae ai,.q ar],.a [.int t1,.int t2,.int t3,.int t4,.int t5,.int t6,.int t7]] []) _
 obtain⟨dM,cn⟩:=hp
 have dM:ay.rd (aj,ak,an,ao,ah,aq,ai,ar):=dM
 have cn:bf.ok (t1,t2,t3,t4,t5,t6,t7):=cn
 have h0:0<=t7:=cn.m0
 have h1:t7<=16:=cn.m1
 have hl:(aE (aj,ak,an,ao,ah,aq,ai,ar) (t1,t2,t3,t4,t5,t6,t7)).length=t7.toNat:=eV cn
 refine⟨⟨⟨tv9,tv8,aa⟩,?_,?_,?_,?_⟩,λx1 w2=>?_⟩
 all_goals first|refine aw ?_|refine ax ?_|exact bb|(dsimp only [cD,dL];omega)|exact ba|exact dM|exact cn.rd|skip
 refine df (l:=[(33,cD)]) (ex:=zT) (wr:=zF) (pt:=zF) ⟨gb,aa⟩ [.s 2,.s 3,.b 1002,.b 1003,.s 7,.b 130000] (λy:Nat×ByteArray=>[(.s 6,.str y.2),(.s 8,.int y.1)]) (λy=>(y.1:Int)<=t7/\y.2.size<=1000000*y.1/\bgF t7 ((aE (aj,ak,an,ao,ah,aq,ai,ar) (t1,t2,t3,t4,t5,t6,t7)).drop y.1) y.1 y.2=dI (aj,ak,an,ao,ah,aq,ai,ar) (t1,t2,t3,t4,t5,t6,t7)) (λy=>t7.toNat-y.1) (0,⟨#[]⟩) [] ⟨h0,ZA7 _,rfl⟩ dP ?_
 rintro⟨i,out⟩ ⟨(hi:(i:Int)<=t7),(ho:out.size<=1000000*i),(hr:bgF t7 ((aE (aj,ak,an,ao,ah,aq,ai,ar) (t1,t2,t3,t4,t5,t6,t7)).drop i) i out=dI (aj,ak,an,ao,ah,aq,ai,ar) (t1,t2,t3,t4,t5,t6,t7))⟩
 have bR:decide ((i:Int)<t7)=true->i<(aE (aj,ak,an,ao,ah,aq,ai,ar) (t1,t2,t3,t4,t5,t6,t7)).length:=λh=>by have:=aF h;omega
 have db:=HI (nX (s:=(aj,ak,an,ao,ah,aq,ai,ar)) (t:=(t1,t2,t3,t4,t5,t6,t7)) dM) i
 refine⟨λw1=>⟨⟨?_,?_⟩,?_,aa,λw2=>?_,λw3=>⟨⟨?_,?_⟩,aa,λw4=>⟨λw5=>?_,λw6=>⟨?_,⟨?_,?_⟩,?_⟩⟩,λw7=>⟨?_,⟨?_,?_⟩,?_⟩⟩⟩,λw8=>?_⟩
 all_goals first|refine aw ?_|refine ax ?_|exact bb|(dsimp only [cD,dL];omega)|exact ba|exact bR w1|(unfold imax;dsimp only;omega)|skip
 ·have lQ:=bR w1
  have e:dI (aj,ak,an,ao,ah,aq,ai,ar) (t1,t2,t3,t4,t5,t6,t7)=(⟨#[]⟩,false):=by rw [<-hr,bJ (ek:=ab) lQ,apK (show decide ((nth ab (aE (aj,ak,an,ao,ah,aq,ai,ar) (t1,t2,t3,t4,t5,t6,t7)) i)=⟨#[]⟩)=true from w2)]
  refine⟨[],[],_,_,_,ζ,aC,(),aa,?_,?_,ζ⟩
  ·(show _=oa (aj,ak,an,ao,ah,aq,ai,ar) (t1,t2,t3,t4,t5,t6,t7));unfold oa;first|(rw [e];rfl)|rfl
  ·rfl
 ·have lQ:=bR w1
  have e:dI (aj,ak,an,ao,ah,aq,ai,ar) (t1,t2,t3,t4,t5,t6,t7)=(⟨#[]⟩,false):=by rw [<-hr,bJ (ek:=ab) lQ,apJ w4 (show decide (((nth ab (aE (aj,ak,an,ao,ah,aq,ai,ar) (t1,t2,t3,t4,t5,t6,t7)) i).size:Int)≠128)=true from w5)]
  refine⟨[],[],_,_,_,ζ,aC,(),aa,?_,?_,ζ⟩
  ·(show _=oa (aj,ak,an,ao,ah,aq,ai,ar) (t1,t2,t3,t4,t5,t6,t7));unfold oa;first|(rw [e];rfl)|rfl
  ·rfl
 ·have lQ:=bR w1
  have ajk:=aF (p:=(i:Int)<t7) w1
  refine⟨(i+1,out++(nth ab (aE (aj,ak,an,ao,ah,aq,ai,ar) (t1,t2,t3,t4,t5,t6,t7)) i)),[],?_,?_,?_⟩
  rotate_right
  ·exact bY
  ·refine⟨by show ((i+1:Nat):Int)<=t7;omega,by show (out++(nth ab (aE (aj,ak,an,ao,ah,aq,ai,ar) (t1,t2,t3,t4,t5,t6,t7)) i)).size<=1000000*(i+1);rw [ZB4];omega,?_⟩
   rw [<-hr,bJ (ek:=ab) lQ,apI (show decide ((nth ab (aE (aj,ak,an,ao,ah,aq,ai,ar) (t1,t2,t3,t4,t5,t6,t7)) i)=⟨#[]⟩)=false from w3) w4 (show decide (((nth ab (aE (aj,ak,an,ao,ah,aq,ai,ar) (t1,t2,t3,t4,t5,t6,t7)) i).size:Int)≠128)=false from w6)]
  ·show t7.toNat-(i+1)<t7.toNat-i;omega
 ·have lQ:=bR w1
  have ajk:=aF (p:=(i:Int)<t7) w1
  refine⟨(i+1,out++(nth ab (aE (aj,ak,an,ao,ah,aq,ai,ar) (t1,t2,t3,t4,t5,t6,t7)) i)),[],?_,?_,?_⟩
  rotate_right
  ·exact bY
  ·refine⟨by show ((i+1:Nat):Int)<=t7;omega,by show (out++(nth ab (aE (aj,ak,an,ao,ah,aq,ai,ar) (t1,t2,t3,t4,t5,t6,t7)) i)).size<=1000000*(i+1);rw [ZB4];omega,?_⟩
   rw [<-hr,bJ (ek:=ab) lQ,apH (show decide ((nth ab (aE (aj,ak,an,ao,ah,aq,ai,ar) (t1,t2,t3,t4,t5,t6,t7)) i)=⟨#[]⟩)=false from w3) w7]
  ·show t7.toNat-(i+1)<t7.toNat-i;omega
 ·have e:dI (aj,ak,an,ao,ah,aq,ai,ar) (t1,t2,t3,t4,t5,t6,t7)=(out,true):=by rw [<-hr,ZB3 (by have:=aD (p:=(i:Int)<t7) w8;omega)];rfl
  refine⟨[],[],_,_,_,ζ,aC,(),aa,?_,?_,ζ⟩
  ·(show _=oa (aj,ak,an,ao,ah,aq,ai,ar) (t1,t2,t3,t4,t5,t6,t7));unfold oa;first|(rw [e];rfl)|rfl
  ·rfl
end GL
namespace GL
def egB (w:List ByteArray) (i:Nat):List ByteArray:=bz (nth ab w i) 61
def egF:Nat->List ByteArray->Nat->List fO->Option (List fO)
 |0,_,_,out=>some out
 |f+1,w,i,out=>bif decide ((i:Int)+1<(w.length:Int)) then
   (bif decide (((egB w i).length:Int)≠2) then none else egF f w (i+1) (out++[(nth ab (egB w i) 0,(aA (nth ab (egB w i) 1)).1)])) else some out
def JO (s:ByteArray) (out:List fO):List fO×Bool:=bif !(fh out)||decide (eS out≠s) then ([],false) else (out,true)
def dj (s:ByteArray):List fO×Bool:=match egF ((bz s 59).length) (bz s 59) 0 [] with
 |none=>([],false)
 |some out=>JO s out
def apy {f:Nat}{w:List ByteArray}{i:Nat}{out:List fO}(h:decide ((i:Int)+1<(w.length:Int))=true) (h2:decide (((egB w i).length:Int)≠2)=true):egF (f+1) w i out=none:=by rw [egF,h,h2];rfl
def apx {f:Nat}{w:List ByteArray}{i:Nat}{out:List fO}(h:decide ((i:Int)+1<(w.length:Int))=true) (h2:decide (((egB w i).length:Int)≠2)=false):egF (f+1) w i out=egF f w (i+1) (out++[(nth ab (egB w i) 0,(aA (nth ab (egB w i) 1)).1)]):=by rw [egF,h,h2];rfl
theorem aj8 {f:Nat}{w:List ByteArray}{i:Nat}{out:List fO}(h:decide ((i:Int)+1<(w.length:Int))=false):egF f w i out=some out:=by
 cases f with
 |zero=>rfl
 |succ f=>rw [egF,h];rfl
def AL {s:ByteArray}(h:egF ((bz s 59).length) (bz s 59) 0 []=none):dj s=([],false):=by unfold dj;rw [h]
def o6 {s:ByteArray}{out:List fO}(h:egF ((bz s 59).length) (bz s 59) 0 []=some out):dj s=JO s out:=by unfold dj;rw [h]
def ae1 {s:ByteArray}{out:List fO}(h:(!(fh out))=true):JO s out=([],false):=by unfold JO;rw [h];rfl
def ae0 {s:ByteArray}{out:List fO}(h:decide (eS out≠s)=true):JO s out=([],false):=by unfold JO;rw [h,ZC7];rfl
def ae2 {s:ByteArray}{out:List fO}(h:(!(fh out))=false) (h2:decide (eS out≠s)=false):JO s out=(out,true):=by unfold JO;rw [h,h2];rfl
def aeW {l:List fO}:∀{f i:Nat},EZ f l i=true->∀k,i<=k->k<i+f->lk l k=false
 |0,i,_,k,h1,h2=>by omega
 |f+1,i,h,k,h1,h2=>by
  cases hb:lk l i with
  |true=>rw [WV hb] at h;cases h
  |false=>
   rw [adk hb] at h
   by_cases e:k=i
   ·rw [e];exact hb
   ·exact aeW h k (by omega) (by omega)
def AK {l:List fO}(h:fh l=true):l.length<=12/\∀e∈l,gr e.1=true/\1<=e.2/\e.2<=15:=by
 unfold fh at h
 simp only [ZB1,decide_eq_true_eq] at h
 refine⟨by omega,λe he=>?_⟩
 obtain⟨k,hk,rfl⟩:=List.mem_iff_getElem.1 he
 have hb:=aeW h.1 k (ZA7 _) (by omega)
 unfold lk at hb
 simp only [ZD5,Bool.not_eq_false',cy] at hb
 have hn:nth aO l k=l[k]:=by
  have:=qe (ek:=aO) hk
  rw [ZB2 hk] at this
  exact (ZF4 this).symm
 rw [hn] at hb
 exact⟨hb.1,hb.2.1⟩
def I7 {s:ByteArray}(h:gr s=true):1<=s.size/\s.size<=4:=by
 unfold gr at h
 simp only [ZB1,cy] at h
 omega
def ahb.aqv {l:List fO}(h:fh l=true):ahb l:=by
 obtain⟨h1,h2⟩:=AK h
 refine⟨by omega,λe he=>?_,λe he=>?_⟩
 ·have:=I7 (h2 e he).1;omega
 ·have:=(h2 e he).2;omega
def ni (s:ByteArray):Prop:=s.size<=1000000
def eX (s:ByteArray):AV:=.t [.s (.xs 0 2 0 (dj s).1.length),.s (.q (dj s).2)]
def fJ (s:ByteArray):List AV:=[.rs aO (dj s).1]
def wM:cu where
 A:=[.s .str]
 B:=[]
 pre:=λx b=>ni x
 r:=λx b _=>eX x
 o:=λx b _=>fJ x
 nf:=1
def WD:Has Tryz.prog 182 wM:=by
 refine Has.fP zT zF zF (l:=[(109,jx),(66,ku),(199,pU),(155,sf)]) ⟨wc,yt,JD,OE,aa⟩ Tryz.func182 ?_
 rintro (s:ByteArray) _ (hp:ni s)
 show vc _ _ _ _ (entry [.str s] []) _
 unfold ni at hp
 have hcl:=wz s 59
 have lj:=th (s:=s) (c:=59)
 refine⟨aa,⟨tv3,?_⟩,λx1 w2=>?_⟩
 all_goals first|refine aw ?_|refine ax ?_|exact bb|(dsimp only [jx,jL,ku,iH,pU,oU,sf,rE];omega)|exact ba|skip
 refine df (l:=[(109,jx),(66,ku),(199,pU),(155,sf)]) (ex:=zT) (wr:=zF) (pt:=zF) ⟨wc,yt,JD,OE,trivial⟩ [.s 0,.s 5,.b 130000] (λy:Nat×Nat×List fO=>[(.s 4,.s (.xs 1010 2 0 y.2.2.length)),(.s 6,.int y.1),(.b 1010,.rs aO y.2.2)]) (λy=>(y.1+y.2.1=(bz s 59).length/\1<=y.2.1)/\y.2.2.length=y.1/\(∀e∈y.2.2,e.1.size<=1000000)/\egF y.2.1 (bz s 59) y.1 y.2.2=egF (bz s 59).length (bz s 59) 0 []) (λy=>y.2.1) (0,(bz s 59).length,[]) [] ⟨⟨ZA6 _,hcl.1⟩,rfl,(λ_ h=>by cases h),rfl⟩ dP ?_
 rintro⟨i,f,out⟩ ⟨⟨(hi:i+f=(bz s 59).length),(hf1:1<=f)⟩,(hlo:out.length=i),(hos:∀e∈out,e.1.size<=1000000),(hr:egF f (bz s 59) i out=egF (bz s 59).length (bz s 59) 0 [])⟩
 have bR:decide ((i:Int)+1<((bz s 59).length:Int))=true->i<(bz s 59).length:=λh=>by have:=aF h;omega
 have hxs:i<(bz s 59).length->(nth ab (bz s 59) i).size<=1000000:=λh=>ZA9 (lj _ (bS (ek:=ab) h)) hp
 have hbl:=wz (nth ab (bz s 59) i) 61
 refine⟨⟨?_,?_⟩,λw1=>⟨⟨?_,?_⟩,?_,⟨tv3,?_⟩,λx2 w3=>⟨λw4=>⟨aa,?_⟩,λw5=>⟨⟨?_,?_⟩,?_,⟨tv2,?_⟩,λx6 w7=>⟨⟨?_,?_⟩,?_,aa,⟨⟨?_,?_⟩,?_,?_⟩,⟨?_,?_⟩,?_⟩⟩⟩⟩,λw8=>⟨⟨⟨⟨?_,?_⟩,aa⟩,?_⟩,λx9 dB=>⟨aa,λiP=>⟨aa,?_⟩,λdW=>⟨⟨⟨⟨?_,?_⟩,aa⟩,?_⟩,λtY gY=>⟨λnG=>⟨aa,?_⟩,λkC=>?_⟩⟩⟩⟩⟩
 all_goals first|refine aw ?_|refine ax ?_|exact bb|(dsimp only [jx,jL,ku,iH,pU,oU,sf,rE];omega)|exact ba|exact bR w1|exact hxs (bR w1)|skip
 ·obtain⟨g,rfl⟩:∃g,f=g+1:=⟨f-1,by have:=bR w1;omega⟩
  have e:dj s=([],false):=AL (by rw [<-hr];exact apy w1 w4)
  refine⟨[1028],[],_,_,_,ζ,aC,(),aa,?_,?_,ζ⟩
  ·(show _=eX s);unfold eX;first|(rw [e];rfl)|rfl
  ·(show _=fJ s);unfold fJ;first|(rw [e];rfl)|rfl
 ·have h2:(bz (nth ab (bz s 59) i) 61).length=2:=by have:=aD (p:=((bz (nth ab (bz s 59) i) 61).length:Int)≠2) w5;omega
  show (1:Int)<((bz (nth ab (bz s 59) i) 61).length:Int);omega
 ·have h2:(bz (nth ab (bz s 59) i) 61).length=2:=by have:=aD (p:=((bz (nth ab (bz s 59) i) 61).length:Int)≠2) w5;omega
  show 1<(bz (nth ab (bz s 59) i) 61).length;omega
 ·have h2:(bz (nth ab (bz s 59) i) 61).length=2:=by have:=aD (p:=((bz (nth ab (bz s 59) i) 61).length:Int)≠2) w5;omega
  have h3:(nth ab (bz (nth ab (bz s 59) i) 61) 1).size<=1000000:=ZA9 (th (s:=(nth ab (bz s 59) i)) (c:=61) _ (bS (ek:=ab) (l:=bz (nth ab (bz s 59) i) 61) (k:=1) (by omega))) (hxs (bR w1))
  show ((nth ab (bz (nth ab (bz s 59) i) 61) 1).size:Int)<=1000000000000;omega
 ·obtain⟨g,rfl⟩:∃g,f=g+1:=⟨f-1,by have:=bR w1;omega⟩
  have h2:(bz (nth ab (bz s 59) i) 61).length=2:=by have:=aD (p:=((bz (nth ab (bz s 59) i) 61).length:Int)≠2) w5;omega
  refine⟨(i+1,g,out++[(nth ab (egB (bz s 59) i) 0,(aA (nth ab (egB (bz s 59) i) 1)).1)]),[(1010,1043)],?_,?_,?_⟩
  rotate_right
  ·exact bY
  ·refine⟨⟨by show i+1+g=(bz s 59).length;omega,by show 1<=g;have:=aF (p:=(i:Int)+1<((bz s 59).length:Int)) w1;omega⟩,by show (out++[_]).length=i+1;rw [ZA0,hlo];rfl,λe he=>?_,by rw [<-hr];exact (apx w1 w5).symm⟩
   rcases ZB5.1 he with he |he
   ·exact hos e he
   ·rw [ZD0.1 he]
    exact ZA9 (th (s:=(nth ab (bz s 59) i)) (c:=61) _ (bS (ek:=ab) (l:=bz (nth ab (bz s 59) i) 61) (k:=0) (by omega))) (hxs (bR w1))
  ·exact ZE7 g
 ·exact (⟨by show out.length<=1000000;have:=aD (p:=(i:Int)+1<((bz s 59).length:Int)) w8;omega,hos⟩:akS out)
 ·have e0:egF (bz s 59).length (bz s 59) 0 []=some out:=by rw [<-hr];exact aj8 w8
  have e:dj s=([],false):=by rw [o6 e0];exact ae1 iP
  refine⟨[1053],[],_,_,_,ζ,aC,(),aa,?_,?_,ζ⟩
  ·(show _=eX s);unfold eX;first|(rw [e];rfl)|rfl
  ·(show _=fJ s);unfold fJ;first|(rw [e];rfl)|rfl
 ·exact ahb.aqv (cr dW)
 ·have e0:egF (bz s 59).length (bz s 59) 0 []=some out:=by rw [<-hr];exact aj8 w8
  have e:dj s=([],false):=by rw [o6 e0];exact ae0 nG
  refine⟨[1053],[],_,_,_,ζ,aC,(),aa,?_,?_,ζ⟩
  ·(show _=eX s);unfold eX;first|(rw [e];rfl)|rfl
  ·(show _=fJ s);unfold fJ;first|(rw [e];rfl)|rfl
 ·have e0:egF (bz s 59).length (bz s 59) 0 []=some out:=by rw [<-hr];exact aj8 w8
  have e:dj s=(out,true):=by rw [o6 e0];exact ae2 dW kC
  refine⟨[1010],[],_,_,_,ζ,aC,(),aa,?_,?_,ζ⟩
  ·(show _=eX s);unfold eX;first|(rw [e];rfl)|rfl
  ·(show _=fJ s);unfold fJ;first|(rw [e];rfl)|rfl
end GL
namespace GL
def bH (s:ByteArray):List ByteArray:=bif decide (s=⟨#[47]⟩) then [] else (bz s 47).drop 1
def Z6 {s:ByteArray}(h:decide (s=⟨#[47]⟩)=true):bH s=[]:=by unfold bH;rw [h];rfl
def aiF {s:ByteArray}(h:decide (s=⟨#[47]⟩)=false):bH s=(bz s 47).drop 1:=by unfold bH;rw [h];rfl
def HL {s:ByteArray}:∀x∈bH s,x.size<=s.size:=by
 intro x hx
 unfold bH at hx
 cases h:decide (s=⟨#[47]⟩) with
 |true=>rw [h] at hx;cases hx
 |false=>rw [h] at hx;exact th x (ZF5 hx)
def rU {s:ByteArray}:(bH s).length<=s.size:=by
 unfold bH
 cases h:decide (s=⟨#[47]⟩) with
 |true=>exact ZA7 _
 |false=>have:=wz s 47;simp only [cond_false,ZC8];omega
def gq (s:ByteArray):Prop:=s.size<=1000000
def mR (s:ByteArray):AV:=.s (.vw ab (bH s))
def ZF (s:ByteArray):List AV:=[]
def fB:cu where
 A:=[.s .str]
 B:=[]
 pre:=λx b=>gq x
 r:=λx b _=>mR x
 o:=λx b _=>ZF x
def oz:Has Tryz.prog 131 fB:=by
 refine Has.fP zT zF zF (l:=[(109,jx)]) ⟨wc,aa⟩ Tryz.func131 ?_
 rintro (s:ByteArray) _ (hp:gq s)
 show vc _ _ _ _ (entry [.str s] []) _
 unfold gq at hp
 have hb:=wz s 47
 have hv:(((bz s 47).drop (0+1)).take ((bz s 47).length-1))=(bz s 47).drop 1:=ZC4 (by rw [ZC8];omega)
 refine⟨λw1=>⟨aa,?_⟩,λw2=>⟨⟨tv3,?_⟩,λx3 w4=>⟨⟨?_,?_,?_⟩,?_⟩⟩⟩
 all_goals first|refine aw ?_|refine ax ?_|exact bb|(dsimp only [jx,jL];omega)|exact ba|skip
 ·refine⟨[],[],_,_,_,ζ,bZ,(),aa,?_,?_,ζ⟩
  ·(show _=mR s);unfold mR;first|(rw [Z6 w1];rfl)|rfl
  ·rfl
 ·refine⟨[],[],_,_,_,ζ,bZ,(),aa,?_,?_,ζ⟩
  ·(show _=mR s);unfold mR;first|(rw [aiF w2,<-hv];rfl)|rfl
  ·rfl
def MS:Nat->List ByteArray->Nat->Bool
 |0,_,_=>true
 |f+1,l,i=>bif gr (nth ab l i) then MS f l (i+1) else false
def vS (l:List ByteArray):Bool:=MS l.length l 0&&decide ((l.length:Int)<=4)
def gW (s:ByteArray):Bool:=bif decide (s=⟨#[47]⟩) then true else bif decide (s=⟨#[]⟩)||decide (bX s 0≠47) then false else vS (bH s)
def am5 {f:Nat}{l:List ByteArray}{i:Nat}(h:(!(gr (nth ab l i)))=true):MS (f+1) l i=false:=by rw [MS,pJ h];rfl
def am4 {f:Nat}{l:List ByteArray}{i:Nat}(h:(!(gr (nth ab l i)))=false):MS (f+1) l i=MS f l (i+1):=by rw [MS,cr h];rfl
def afL {s:ByteArray}(h:decide (s=⟨#[47]⟩)=true):gW s=true:=by unfold gW;rw [h];rfl
def afK {s:ByteArray}(h:decide (s=⟨#[47]⟩)=false) (h2:decide (s=⟨#[]⟩)=true):gW s=false:=by unfold gW;rw [h,h2];rfl
def afJ {s:ByteArray}(h:decide (s=⟨#[47]⟩)=false) (h2:decide (bX s 0≠47)=true):gW s=false:=by unfold gW;rw [h,h2,ZC7];rfl
def afI {s:ByteArray}(h:decide (s=⟨#[47]⟩)=false) (h2:decide (s=⟨#[]⟩)=false) (h3:decide (bX s 0≠47)=false):gW s=vS (bH s):=by unfold gW;rw [h,h2,h3];rfl
def oq (s:ByteArray):Prop:=s.size<=1000000
def gE (s:ByteArray):AV:=.s (.q (gW s))
def agb (s:ByteArray):List AV:=[]
def sr:cu where
 A:=[.s .str]
 B:=[]
 pre:=λx b=>oq x
 r:=λx b _=>gE x
 o:=λx b _=>agb x
def OO:Has Tryz.prog 83 sr:=by
 refine Has.fP zT zF zF (l:=[(131,fB),(132,pT)]) ⟨oz,EF,aa⟩ Tryz.func83 ?_
 rintro (s:ByteArray) _ (hp:oq s)
 show vc _ _ _ _ (entry [.str s] []) _
 unfold oq at hp
 have hnl:=rU (s:=s)
 have hns:=HL (s:=s)
 have oC:decide (s=⟨#[]⟩)=false->0<(s.size:Int):=λh=>by have:=size_pos (aD h);omega
 refine⟨λw1=>?_,λw2=>⟨aa,λw3=>?_,λw4=>⟨⟨?_,?_⟩,λw5=>?_,λw6=>⟨⟨tv2,?_⟩,λx7 w8=>?_⟩⟩⟩⟩
 all_goals first|refine aw ?_|refine ax ?_|exact bb|(dsimp only [fB,gq,pT,ot];omega)|exact ba|exact oC w4|skip
 ·refine⟨[],[],_,_,_,ζ,aC,(),aa,?_,?_,ζ⟩
  ·(show _=gE s);unfold gE;first|(rw [afL w1];rfl)|rfl
  ·rfl
 ·refine⟨[],[],_,_,_,ζ,aC,(),aa,?_,?_,ζ⟩
  ·(show _=gE s);unfold gE;first|(rw [afK w2 w3];rfl)|rfl
  ·rfl
 ·refine⟨[],[],_,_,_,ζ,aC,(),aa,?_,?_,ζ⟩
  ·(show _=gE s);unfold gE;first|(rw [afJ w2 w5];rfl)|rfl
  ·rfl
 ·have hM:=afI w2 w4 w6
  refine df (l:=[(131,fB),(132,pT)]) (ex:=zT) (wr:=zF) (pt:=zF) ⟨oz,EF,aa⟩ [.s 0,.s 3] (λy:Nat×Nat=>[(.s 4,.int y.1)]) (λy=>y.1+y.2=(bH s).length/\MS y.2 (bH s) y.1=MS (bH s).length (bH s) 0) (λy=>y.2) (0,(bH s).length) [] ⟨ZA6 _,rfl⟩ dP ?_
  rintro⟨k,f⟩ ⟨(hk:k+f=(bH s).length),(he:MS f (bH s) k=MS (bH s).length (bH s) 0)⟩
  have bR:decide ((k:Int)<((bH s).length:Int))=true->k<(bH s).length:=λh=>by have:=aF h;omega
  have db:k<(bH s).length->(nth ab (bH s) k).size<=1000000:=λh=>ZA9 (hns _ (bS (ek:=ab) h)) hp
  refine⟨λw1=>⟨⟨?_,?_⟩,⟨tv2,?_⟩,λx2 w3=>⟨λw4=>?_,λw5=>⟨⟨?_,?_⟩,?_⟩⟩⟩,λw6=>?_⟩
  all_goals first|refine aw ?_|refine ax ?_|exact bb|(dsimp only [fB,gq,pT,ot];omega)|exact ba|exact bR w1|exact db (bR w1)|skip
  ·obtain⟨g,rfl⟩:∃g,f=g+1:=⟨f-1,by have:=bR w1;omega⟩
   have e:vS (bH s)=false:=by unfold vS;rw [<-he,am5 (show (!(gr (nth ab (bH s) k)))=true from w4)];rfl
   refine⟨[],[],_,_,_,ζ,aC,(),aa,?_,?_,ζ⟩
   ·(show _=gE s);unfold gE;first|(rw [hM,e];rfl)|rfl
   ·rfl
  ·obtain⟨g,rfl⟩:∃g,f=g+1:=⟨f-1,by have:=bR w1;omega⟩
   refine⟨(k+1,g),[],?_,?_,?_⟩
   rotate_right
   ·exact bY
   ·exact⟨by show k+1+g=(bH s).length;omega,by rw [<-he];exact (am4 w5).symm⟩
   ·exact ZE7 g
  ·have hf:f=0:=by have:=aD (p:=(k:Int)<((bH s).length:Int)) w6;omega
   subst hf
   have e:vS (bH s)=decide (((bH s).length:Int)<=4):=by unfold vS;rw [<-he];rfl
   refine⟨[],[],_,_,_,ζ,aC,(),aa,?_,?_,ζ⟩
   ·(show _=gE s);unfold gE;first|(rw [hM,e];rfl)|rfl
   ·rfl
def cj (s:ByteArray):List ByteArray×Bool:=bif !(gW s) then ([],false) else (bH s,true)
def U2 {s:ByteArray}(h:(!(gW s))=true):cj s=([],false):=by unfold cj;rw [h];rfl
def U1 {s:ByteArray}(h:(!(gW s))=false):cj s=(bH s,true):=by unfold cj;rw [h];rfl
def oS (s:ByteArray):Prop:=s.size<=1000000
def lu (s:ByteArray):AV:=.t [.s (.vw ab (cj s).1),.s (.q (cj s).2)]
def VA (s:ByteArray):List AV:=[]
def yU:cu where
 A:=[.s .str]
 B:=[]
 pre:=λx b=>oS x
 r:=λx b _=>lu x
 o:=λx b _=>VA x
def aax:Has Tryz.prog 161 yU:=by
 refine Has.fP zT zF zF (l:=[(83,sr),(131,fB)]) ⟨OO,oz,aa⟩ Tryz.func161 ?_
 rintro (s:ByteArray) _ (hp:oS s)
 show vc _ _ _ _ (entry [.str s] []) _
 unfold oS at hp
 have hnl:=rU (s:=s)
 refine⟨⟨tv2,?_⟩,λx1 w2=>⟨λw3=>⟨aa,?_⟩,λw4=>⟨aa,⟨tv2,?_⟩,λx5 w6=>⟨⟨⟨?_,?_⟩,aa⟩,?_⟩⟩⟩⟩
 all_goals first|refine aw ?_|refine ax ?_|exact bb|(dsimp only [sr,oq,fB,gq];omega)|exact ba|skip
 ·refine⟨[],[],_,_,_,ζ,bZ,(),aa,?_,?_,ζ⟩
  ·(show _=lu s);unfold lu;first|(rw [U2 w3];rfl)|rfl
  ·rfl
 ·have hv:([]++bH s)=bH s:=ZC9 _
  refine⟨[],[],_,_,_,ζ,bZ,(),aa,?_,?_,ζ⟩
  ·(show _=lu s);unfold lu;first|(show AV.t [A0.s (SV.vw ab (List.take (([]:List ByteArray).length+(bH s).length) (List.drop 0 ([]++bH s)))),A0.s (SV.q true)]=_;simp only [ZC9,ZD8,ZA4,ZA6,List.take_length,U1 w4])|rfl
  ·rfl
def kc (o x:ByteArray):ByteArray:=o++⟨#[47]⟩++x
def qu (l:List ByteArray):ByteArray:=bif decide (l.foldl kc ⟨#[]⟩=⟨#[]⟩) then ⟨#[47]⟩ else l.foldl kc ⟨#[]⟩
def afN {l:List ByteArray}{o:ByteArray}(h:l.foldl kc ⟨#[]⟩=o) (h2:decide (o=⟨#[]⟩)=true):qu l=⟨#[47]⟩:=by unfold qu;rw [h,h2];rfl
def afM {l:List ByteArray}{o:ByteArray}(h:l.foldl kc ⟨#[]⟩=o) (h2:decide (o=⟨#[]⟩)=false):qu l=o:=by unfold qu;rw [h,h2];rfl
def G4 (l:List ByteArray):Prop:=l.length<=1000/\∀x∈l,x.size<=1000000
def uh (l:List ByteArray):AV:=.s (.str (qu l))
def aic (l:List ByteArray):List AV:=[]
def W2:cu where
 A:=[.s (.vz ab)]
 B:=[]
 pre:=λx b=>G4 x
 r:=λx b _=>uh x
 o:=λx b _=>aic x
def alr:Has Tryz.prog 162 W2:=by
 refine Has.fP zT zF zF (l:=[]) trivial Tryz.func162 ?_
 rintro (l:List ByteArray) _ (hp:G4 l)
 show vc _ _ _ _ (entry [.s (.vz ab l)] []) _
 obtain⟨hlen,db⟩:=hp
 refine ?_
 all_goals first|refine aw ?_|refine ax ?_|exact bb|exact ba|skip
 refine df (l:=[]) (ex:=zT) (wr:=zF) (pt:=zF) trivial [.s 0] (λy:Nat×ByteArray=>[(.s 3,.str y.2),(.s 4,.int y.1)]) (λy=>y.1<=l.length/\y.2.size<=1000001*y.1/\(l.drop y.1).foldl kc y.2=l.foldl kc ⟨#[]⟩) (λy=>l.length-y.1) (0,⟨#[]⟩) [] ⟨ZA7 _,ZA7 _,rfl⟩ dP ?_
 rintro⟨i,out⟩ ⟨(hi:i<=l.length),(ho:out.size<=1000001*i),(hr:(l.drop i).foldl kc out=l.foldl kc ⟨#[]⟩)⟩
 have bR:decide ((i:Int)<(l.length:Int))=true->i<l.length:=λh=>by have:=aF h;omega
 have hx:i<l.length->(nth ab l i).size<=1000000:=λh=>db _ (bS (ek:=ab) h)
 refine⟨λw1=>⟨?_,⟨⟨?_,?_⟩,⟨?_,⟨⟨?_,?_⟩,?_⟩⟩⟩⟩,λw2=>⟨λw3=>?_,λw4=>?_⟩⟩
 all_goals first|refine aw ?_|refine ax ?_|exact bb|exact ba|exact bR w1|(unfold imax;simp only [ZB4,ZA5,sz1];have:=hx (bR w1);omega)|skip
 ·have lQ:=bR w1
  refine⟨(i+1,kc out (nth ab l i)),[],?_,?_,?_⟩
  rotate_right
  ·exact bY
  ·refine⟨lQ,?_,by rw [<-hr,bJ (ek:=ab) lQ];rfl⟩
   show (out++⟨#[47]⟩++nth ab l i).size<=1000001*(i+1)
   have a1:=hx lQ
   simp only [ZB4]
   rw [show (⟨#[47]⟩:ByteArray).size=1 from rfl];omega
  ·show l.length-(i+1)<l.length-i;omega
 ·have e:l.foldl kc ⟨#[]⟩=out:=by rw [<-hr,ZB3 (by have:=aD (p:=(i:Int)<(l.length:Int)) w2;omega)];rfl
  refine⟨[],[],_,_,_,ζ,aC,(),aa,?_,?_,ζ⟩
  ·(show _=uh l);unfold uh;first|(rw [afN e w3];rfl)|rfl
  ·rfl
 ·have e:l.foldl kc ⟨#[]⟩=out:=by rw [<-hr,ZB3 (by have:=aD (p:=(i:Int)<(l.length:Int)) w2;omega)];rfl
  refine⟨[],[],_,_,_,ζ,aC,(),aa,?_,?_,ζ⟩
  ·(show _=uh l);unfold uh;first|(rw [afM e w4];rfl)|rfl
  ·rfl
def qV (s top:ByteArray):Bool:=
 bif !(cj s).2||(!(cj top).2||decide (((cj s).1.length:Int)<((cj top).1.length:Int))) then false
 else decide (qu ((cj s).1.take (cj top).1.length)=qu (cj top).1)
def AD (s:ByteArray):(cj s).1.length<=4/\∀x∈(cj s).1,x.size<=s.size:=by
 unfold cj
 cases h: !(gW s) with
 |true=>exact⟨ZA7 _,λx hx=>by cases hx⟩
 |false=>
  refine⟨?_,HL⟩
  have h:=cr h
  show (bH s).length<=4
  unfold gW at h
  cases h1:decide (s=⟨#[47]⟩) with
  |true=>rw [Z6 h1];exact ZA7 _
  |false=>
   rw [h1] at h
   simp only [cond_false] at h
   cases h2:decide (s=⟨#[]⟩)||decide (bX s 0≠47) with
   |true=>rw [h2] at h;cases h
   |false=>
    rw [h2] at h
    simp only [cond_false] at h
    unfold vS at h
    simp only [ZB1,decide_eq_true_eq] at h
    omega
def tD (s:ByteArray) (top:ByteArray):Prop:=s.size<=1000000/\top.size<=1000000
def fE (s:ByteArray) (top:ByteArray):AV:=.s (.q (qV s top))
def U9 (s:ByteArray) (top:ByteArray):List AV:=[]
def yT:cu where
 A:=[.s .str,.s .str]
 B:=[]
 pre:=λx b=>tD (x.1) (x.2)
 r:=λx b _=>fE (x.1) (x.2)
 o:=λx b _=>U9 (x.1) (x.2)
def aaw:Has Tryz.prog 128 yT:=by
 refine Has.fP zT zF zF (l:=[(161,yU),(162,W2)]) ⟨aax,alr,aa⟩ Tryz.func128 ?_
 rintro⟨(s:ByteArray),(top:ByteArray)⟩ _ (hp:tD s top)
 show vc _ _ _ _ (entry [.str s,.str top] []) _
 obtain⟨h1,h2⟩:=hp
 have hb:=AD s
 have hc:=AD top
 have hT:((cj s).1.take (((some ((cj top).1.length:Int)).getD (cj s).1.length).toNat-(((none:Option Int).getD 0).toNat)))=(cj s).1.take (cj top).1.length:=rfl
 have hm:∀x∈(cj s).1.take (cj top).1.length,x.size<=1000000:=λx hx=>ZA9 (hb.2 x (ZE5 hx)) h1
 refine⟨⟨tv2,?_⟩,λx1 w2=>⟨⟨tv2,?_⟩,λx3 w4=>⟨aa,λw5=>?_,λw6=>⟨aa,λw7=>?_,λw8=>⟨λw9=>?_,λdB=>⟨⟨?_,?_,?_⟩,⟨tv2,?_,λlJ dW=>?_⟩,λtY gY=>⟨⟨tv2,?_,λnN kC=>?_⟩,λx17 qU=>?_⟩⟩⟩⟩⟩⟩⟩
 all_goals first|refine aw ?_|refine ax ?_|exact bb|(dsimp only [yU,oS,W2,G4];omega)|exact ba|(show ((cj s).1.take (cj top).1.length).length<=1000;rw [ZB6];omega)|exact hm _ dW|exact ZA9 (hc.2 _ kC) h2|skip
 ·have e:qV s top=false:=by unfold qV;rw [w5];rfl
  refine⟨[],[],_,_,_,ζ,aC,(),aa,?_,?_,ζ⟩
  ·(show _=fE s top);unfold fE;first|(rw [e];rfl)|rfl
  ·rfl
 ·have e:qV s top=false:=by unfold qV;rw [w6,w7];rfl
  refine⟨[],[],_,_,_,ζ,aC,(),aa,?_,?_,ζ⟩
  ·(show _=fE s top);unfold fE;first|(rw [e];rfl)|rfl
  ·rfl
 ·have e:qV s top=false:=by unfold qV;rw [w6,w8,w9];rfl
  refine⟨[],[],_,_,_,ζ,aC,(),aa,?_,?_,ζ⟩
  ·(show _=fE s top);unfold fE;first|(rw [e];rfl)|rfl
  ·rfl
 ·have e:qV s top=decide (qu ((cj s).1.take (cj top).1.length)=qu (cj top).1):=by unfold qV;rw [w6,w8,dB];rfl
  refine⟨[],[],_,_,_,ζ,aC,(),aa,?_,?_,ζ⟩
  ·(show _=fE s top);unfold fE;first|(rw [e];rfl)|rfl
  ·rfl
def my (s:ByteArray):Prop:=s.size<=1000000/\1<=(bH s).length
def xF (s:ByteArray):AV:=.s (.str (nth ab (bH s) ((bH s).length-1)))
def ab8 (s:ByteArray):List AV:=[]
def kY:cu where
 A:=[.s .str]
 B:=[]
 pre:=λx b=>my x
 r:=λx b _=>xF x
 o:=λx b _=>ab8 x
def zL:Has Tryz.prog 121 kY:=by
 refine Has.fP zT zF zF (l:=[(131,fB)]) ⟨oz,aa⟩ Tryz.func121 ?_
 rintro (s:ByteArray) _ (hp:my s)
 show vc _ _ _ _ (entry [.str s] []) _
 obtain⟨h1,h2⟩:=hp
 have hnl:=rU (s:=s)
 refine⟨⟨tv2,?_⟩,λx1 w2=>⟨⟨?_,?_⟩,⟨?_,?_⟩,?_⟩⟩
 all_goals first|refine aw ?_|refine ax ?_|exact bb|(dsimp only [fB,gq];omega)|exact ba|(unfold imax;omega)|skip
 refine⟨[],[],_,_,_,ζ,aC,(),aa,?_,?_,ζ⟩
 ·(show _=xF s);unfold xF;first|(exact congrArg (λk:Nat=>AV.s (SV.str (nth ab (bH s) k))) (show ((bH s).length-1:Int).toNat=(bH s).length-1 by omega))|rfl
 ·rfl
def ZS (o:Opr):Bool:=decide (o.1=6)||decide (o.1=7)
def ani (o:Opr):Bool:=decide (o.1=3)||decide (o.1=4)
def ZT (tw a:Bool) (o:Opr):Bool:=
 bif !(gC o.1 1 7)||(!(gW o.2.1)||((tw&& !(gW o.2.2.1))||(!tw&&decide (o.2.2.1≠⟨#[]⟩)))) then false
 else bif (decide (o.1≠3)&&decide (o.2.2.2.2≠⟨#[]⟩))||decide ((o.2.2.2.2.size:Int)>24) then false
 else decide (o.2.2.2.1=0)||(a&&gC o.2.2.2.1 0 192)
def aeh (o:Opr):Bool:=ZT (ZS o) (ani o) o
def yc (o:Opr):Prop:=o.2.1.size<=1000000/\o.2.2.1.size<=1000000
def MD (o:Opr):AV:=.s (.q (aeh o))
def ak4 (o:Opr):List AV:=[]
def C0:cu where
 A:=[.a [.int,.str,.str,.int,.str]]
 B:=[]
 pre:=λx b=>yc x
 r:=λx b _=>MD x
 o:=λx b _=>ak4 x
def acU:Has Tryz.prog 45 C0:=by
 refine Has.ofP 3 zT zF zF (l:=[(60,jc),(83,sr)]) ⟨jr,OO,aa⟩ Tryz.func45 ?_
 rintro⟨(o1:Int),(o2:ByteArray),(o3:ByteArray),(o4:Int),(o5:ByteArray)⟩ _ (hp:yc (o1,o2,o3,o4,o5))
 show vcP _ _ _ _ 3 _ (entry [.a [.int o1,.str o2,.str o3,.int o4,.str o5]] [])
 obtain⟨(h1:o2.size<=1000000),(h2:o3.size<=1000000)⟩:=hp
 refine KB (l:=[(60,jc),(83,sr)]) (ex:=zT) (wr:=zF) (pt:=zF) ⟨jr,OO,aa⟩ (λy:Bool×Bool=>[(.s 1,.s (.bp 1001 0)),(.s 3,.s (.q y.1)),(.s 4,.s (.q y.2)),(.b 1001,.a [.int o1,.str o2,.str o3,.int o4,.str o5])]) (λy=>y.1=ZS (o1,o2,o3,o4,o5)/\y.2=ani (o1,o2,o3,o4,o5)) (E1 3 (W6 Tryz.f45)) ?_ (λtail=>?_)
 ·rintro⟨tw,at'⟩ ⟨(h3:tw=ZS (o1,o2,o3,o4,o5)),(h4:at'=ani (o1,o2,o3,o4,o5))⟩
  have e:aeh (o1,o2,o3,o4,o5)=ZT tw at' (o1,o2,o3,o4,o5):=by rw [h3,h4];rfl
  clear h3 h4
  show vc _ _ _ _ (NG.ap [(.s 1,.s (.bp 1001 0)),(.s 3,.s (.q tw)),(.s 4,.s (.q at')),(.b 1001,.a [.int o1,.str o2,.str o3,.int o4,.str o5])]) _
  refine⟨⟨tv4,aa⟩,λx1 w2=>⟨aa,λw3=>?_,λw4=>⟨⟨tv2,?_⟩,λx5 w6=>⟨aa,λw7=>?_,λw8=>⟨aa,λw9=>⟨⟨tv2,?_⟩,λzd iP=>⟨aa,λdW=>?_,λiL=>⟨aa,λgY=>⟨λnG=>?_,λkC=>⟨aa,λxh=>⟨aa,λqU=>?_,λo9=>⟨λtl=>?_,λFW=>⟨aa,λDB=>?_,λzi=>⟨aa,λtZ=>⟨⟨tv4,aa⟩,λx25 w26=>?_⟩,λw27=>?_⟩⟩⟩⟩,λw28=>⟨λw29=>?_,λw30=>⟨aa,λw31=>?_,λw32=>⟨aa,λw33=>⟨⟨tv4,aa⟩,λx34 w35=>?_⟩,λw36=>?_⟩⟩⟩⟩⟩,λw37=>⟨aa,λw38=>⟨aa,λw39=>?_,λw40=>⟨λw41=>?_,λw42=>⟨aa,λw43=>?_,λw44=>⟨aa,λw45=>⟨⟨tv4,aa⟩,λx46 w47=>?_⟩,λw48=>?_⟩⟩⟩⟩,λw49=>⟨λw50=>?_,λw51=>⟨aa,λw52=>?_,λw53=>⟨aa,λw54=>⟨⟨tv4,aa⟩,λx55 w56=>?_⟩,λw57=>?_⟩⟩⟩⟩⟩⟩⟩,λw58=>⟨aa,λw59=>⟨λw60=>?_,λw61=>⟨aa,λw62=>⟨aa,λw63=>?_,λw64=>⟨λw65=>?_,λw66=>⟨aa,λw67=>?_,λw68=>⟨aa,λw69=>⟨⟨tv4,aa⟩,λx70 w71=>?_⟩,λw72=>?_⟩⟩⟩⟩,λw73=>⟨λw74=>?_,λw75=>⟨aa,λw76=>?_,λw77=>⟨aa,λw78=>⟨⟨tv4,aa⟩,λx79 w80=>?_⟩,λw81=>?_⟩⟩⟩⟩⟩,λw82=>⟨aa,λw83=>⟨aa,λw84=>?_,λw85=>⟨λw86=>?_,λw87=>⟨aa,λw88=>?_,λw89=>⟨aa,λw90=>⟨⟨tv4,aa⟩,λx91 w92=>?_⟩,λw93=>?_⟩⟩⟩⟩,λw94=>⟨λw95=>?_,λw96=>⟨aa,λw97=>?_,λw98=>⟨aa,λw99=>⟨⟨tv4,aa⟩,λarz aqj=>?_⟩,λar4=>?_⟩⟩⟩⟩⟩⟩⟩⟩⟩⟩
  all_goals first|refine aw ?_|refine ax ?_|exact bb|(dsimp only [sr,oq];omega)|exact ba|exact h1|exact h2|skip
  all_goals
   refine⟨[],[],_,_,_,ζ,aC,(),0,aa,?_,?_,ζ⟩
   ·(show _=MD (o1,o2,o3,o4,o5));unfold MD;first|((rw [e];simp only [ZT, *];rfl))|((rw [e];simp [ZT, *]<;>rfl))|((exfalso;clear e;simp_all))|rfl
   ·rfl
 ·refine⟨aa,λw1=>⟨aa,λw2=>?_,λw3=>?_⟩,λw4=>⟨aa,λw5=>?_,λw6=>?_⟩⟩
  all_goals first|refine aw ?_|refine ax ?_|exact bb|(dsimp only [sr,oq];omega)|exact ba|skip
  ·refine joinTail tail ((true,decide (o1=4))) [] ((⟨by show true=(decide (o1=6)||decide (o1=7));rw [w1];rfl,by show decide (o1=4)=(decide (o1=3)||decide (o1=4));rw [w3];rfl⟩)) ?_
   repeat' (first|exact trivial|rfl|exact rfl|exact iO ZA0.symm|apply And.intro)
  ·refine joinTail tail ((decide (o1=7),true)) [] ((⟨by show decide (o1=7)=(decide (o1=6)||decide (o1=7));rw [w4];rfl,by show true=(decide (o1=3)||decide (o1=4));rw [w5];rfl⟩)) ?_
   repeat' (first|exact trivial|rfl|exact rfl|exact iO ZA0.symm|apply And.intro)
  ·refine joinTail tail ((decide (o1=7),decide (o1=4))) [] ((⟨by show decide (o1=7)=(decide (o1=6)||decide (o1=7));rw [w4];rfl,by show decide (o1=4)=(decide (o1=3)||decide (o1=4));rw [w6];rfl⟩)) ?_
   repeat' (first|exact trivial|rfl|exact rfl|exact iO ZA0.symm|apply And.intro)
