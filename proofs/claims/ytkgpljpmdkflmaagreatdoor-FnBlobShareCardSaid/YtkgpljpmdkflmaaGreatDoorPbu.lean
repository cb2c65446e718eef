/- Part 47 of A drawn law. -/
import Derived.Test.YtkgpljpmdkflmaaGreatDoorPaw
import Derived.Test.YtkgpljpmdkflmaaGreatDoorPbc
import Derived.Test.YtkgpljpmdkflmaaGreatDoorPbg
import Derived.Test.YtkgpljpmdkflmaaGreatDoorPbi
import Derived.Test.YtkgpljpmdkflmaaGreatDoorPbn
import Derived.Test.YtkgpljpmdkflmaaGreatDoorPbr
import Derived.Test.YtkgpljpmdkflmaaGreatDoorPbs
import Derived.Test.YtkgpljpmdkflmaaGreatDoorPbt
set_option maxHeartbeats 20000000
set_option maxRecDepth 100000
set_option linter.all false
namespace Go.Proofs.YtkgpljpmdkflmaaGreatDoor
namespace GL
noncomputable section
theorem amY {s:ay}{t:bf}(h:(iJ s&&qM s t)=false):pA s t=([],false):=by unfold pA;rw [h];rfl
theorem anf {s:ay}{t:bf}(h:(iJ s&&qM s t)=true):pA s t=((bB s t).1.take t.many.toNat,true):=by unfold pA;rw [h];rfl
theorem aoB {x:List Pt×Bool}{b:Bool}(e:x=([],b)):Wk (.t [.s (.vw ae x.1),.s (.q x.2)]) (.t [.s (.v (.slice none 0 0)),.s (.q b)]):=by
 subst e;exact Wk.tup ⟨Wk.nil _,Wk.refl _,trivial⟩
theorem aoC {x:List Pt×Bool}{l:List Pt}{b:Bool}(e:x=(l,b)):Wk (.t [.s (.vw ae x.1),.s (.q x.2)]) (.t [.s (.vw ae (List.take l.length l)),.s (.q b)]):=by
 subst e;rw [ZD1 (ZB5 _)];exact Wk.refl _
def amC (S:ay) (t:bf):Prop:=S.gone.length≤1000000∧S.dead.length≤1000000
def amo (S:ay) (t:bf):AV:=.t [.s (.vw ae (pA S t).1),.s (.q (pA S t).2)]
def anh (S:ay) (t:bf):List AV:=[]
def amI:ct where
 A:=[.a xy,.a [.int,.int,.int,.int,.int,.int,.int]]
 B:=[]
 pre:=fun x b=>amC (x.1) (x.2)
 r:=fun x b _=>amo (x.1) (x.2)
 o:=fun x b _=>anh (x.1) (x.2)
theorem am6:Has Tryz.prog 15 amI:=by
 refine Has.al3 zT zF (fun d=>d==17) (l:=[(59,yZ),(60,DG),(61,J4)]) ⟨W4,abJ,adY,aa⟩ Tryz.func15 ?_
 rintro⟨⟨(aj:List ByteArray),(ak:List Int),(an:List Int),(ao:Int),(ah:List Pt),(aq:Int),(ai:List Pt),(ar:Bool)⟩,⟨(t1:Int),(t2:Int),(t3:Int),(t4:Int),(t5:Int),(t6:Int),(t7:Int)⟩⟩ _ (hp:amC (aj,ak,an,ao,ah,aq,ai,ar) (t1,t2,t3,t4,t5,t6,t7))
 show vc _ _ _ _ (entry [.a [.vz ab aj,.vz ag ak,.vz ag an,.int ao,.vz ae ah,.int aq,.vz ae ai,.q ar],.a [.int t1,.int t2,.int t3,.int t4,.int t5,.int t6,.int t7]] []) _
 obtain⟨hg,hd⟩:=hp
 have hk:(!(iJ (aj,ak,an,ao,ah,aq,ai,ar)))=false→KI (aj,ak,an,ao,ah,aq,ai,ar):=fun h=>QK.1 (cM h)
 have dG:(!(iJ (aj,ak,an,ao,ah,aq,ai,ar)))=false→ay.rd (aj,ak,an,ao,ah,aq,ai,ar):=fun h=>(hk h).rd
 have hlen:∀b:Bool,b=qM (aj,ak,an,ao,ah,aq,ai,ar) (t1,t2,t3,t4,t5,t6,t7)→b=true→(bB (aj,ak,an,ao,ah,aq,ai,ar) (t1,t2,t3,t4,t5,t6,t7)).1.length≤16:=fun b h h2=>rk (ahq (h ▸ h2))
 refine⟨⟨⟨⟨aa,aa,aa,aa,aa,aa,aa,aa,aa⟩,aa⟩,?_,?_⟩,fun x1 w2=>⟨fun w3=>?_,fun w4=>⟨⟨⟨aa,⟨aa,aa,aa,aa,aa,aa,aa,aa⟩,aa⟩,?_,?_⟩,fun |false=>fun w5=>⟨⟨⟨aa,aa⟩,?_⟩,fun |false=>fun w6=>?_ |true=>fun w7=>?_⟩ |true=>fun w8=>⟨⟨⟨?_,aa⟩,?_⟩,fun |false=>fun w9=>?_ |true=>fun dy=>?_⟩⟩⟩⟩
 all_goals first|refine aw ?_|refine ax ?_|exact a8|(dsimp only [yZ,tn,DG,vk,J4,yn];omega)|exact a7|exact hg|exact hd|exact dG w4|(show 0≤ao;have h:1≤ao∧ao≤900:=(hk w4).cj;omega)|exact ZA7 _|(show 0+t7.toNat≤_;rw [ZA6];exact adp (s:=(aj,ak,an,ao,ah,aq,ai,ar)) (t:=(t1,t2,t3,t4,t5,t6,t7)) (show true=qM (aj,ak,an,ao,ah,aq,ai,ar) (t1,t2,t3,t4,t5,t6,t7) from w8).symm)|(show (List.take _ _).length≤1000000;have:=hlen true w8 rfl;rw [ZC0];exact ZB0 (Nat.min_le_right _ _) (ZB0 this (by decide)))|skip
 ·refine⟨[],[],_,_,_,rfl,cg,(),0,aa,aoB (aaC (ux w3)),rfl,rfl⟩
 ·refine⟨[],[],_,_,_,rfl,cg,(),0,aa,aoC (K8 (show qM (aj,ak,an,ao,ah,aq,ai,ar) (t1,t2,t3,t4,t5,t6,t7)=false from (show false=qM (aj,ak,an,ao,ah,aq,ai,ar) (t1,t2,t3,t4,t5,t6,t7) from w5).symm)),rfl,rfl⟩
 ·refine⟨[],[],_,_,_,rfl,cg,(),0,aa,aoB (K8 (show qM (aj,ak,an,ao,ah,aq,ai,ar) (t1,t2,t3,t4,t5,t6,t7)=false from (show false=qM (aj,ak,an,ao,ah,aq,ai,ar) (t1,t2,t3,t4,t5,t6,t7) from w5).symm)),rfl,rfl⟩
 ·refine⟨[],[],_,_,_,rfl,cg,(),0,aa,aoC (K7 (cM w4) (show qM (aj,ak,an,ao,ah,aq,ai,ar) (t1,t2,t3,t4,t5,t6,t7)=true from (show true=qM (aj,ak,an,ao,ah,aq,ai,ar) (t1,t2,t3,t4,t5,t6,t7) from w8).symm)),rfl,rfl⟩
 ·refine⟨[],[],_,_,_,rfl,cg,(),0,aa,aoB ((K7 (cM w4) (show qM (aj,ak,an,ao,ah,aq,ai,ar) (t1,t2,t3,t4,t5,t6,t7)=true from (show true=qM (aj,ak,an,ao,ah,aq,ai,ar) (t1,t2,t3,t4,t5,t6,t7) from w8).symm)).trans (congrArg (fun l=>(l,true)) (dy rfl))),rfl,rfl⟩
theorem amW {s:ay}{t:bf}(h:qM s t=true):(0≤t.many∧t.many≤16)∧t.many.toNat≤(bB s t).1.length:=by
 have hb:=Y5 h
 unfold lZ at hb
 exact⟨cD.1 (cM (ZE1.1 hb).1),adp h⟩
theorem aoE {s:ay}{t:bf}(h:(pA s t).2=true):((pA s t).1.length:Int)=t.many∧(pA s t).1.length≤16:=by
 rw [YG] at h
 obtain⟨h1,h2⟩:=Bool.and_eq_true_iff.1 h
 have h3:=amW h2
 rw [K7 h1 h2]
 show ((List.take _ _).length:Int)=_∧(List.take _ _).length≤_
 rw [ZC0];omega
theorem amE {s:ay}{t:bf}(h:(pA s t).2=true):(pA s t).1.length≤16:=(aoE h).2
def amr (S:ay) (t:bf):Prop:=S.gone.length≤1000000∧S.dead.length≤1000000
def amp (S:ay) (t:bf):AV:=.t [.s (.vw ae (pA S t).1),.s (.q (pA S t).2)]
def amU (S:ay) (t:bf):List AV:=[]
def amt:ct where
 A:=[.a xy,.a [.int,.int,.int,.int,.int,.int,.int]]
 B:=[]
 pre:=fun x b=>amr (x.1) (x.2)
 r:=fun x b _=>amp (x.1) (x.2)
 o:=fun x b _=>amU (x.1) (x.2)
theorem amM:Has Tryz.prog 16 amt:=by
 refine Has.fu zT zF (fun d=>d==24) (l:=[(62,afd),(63,kS)]) ⟨ai1,yG,aa⟩ Tryz.func16 ?_
 rintro⟨⟨(aj:List ByteArray),(ak:List Int),(an:List Int),(ao:Int),(ah:List Pt),(aq:Int),(ai:List Pt),(ar:Bool)⟩,⟨(t1:Int),(t2:Int),(t3:Int),(t4:Int),(t5:Int),(t6:Int),(t7:Int)⟩⟩ _ (hp:amr (aj,ak,an,ao,ah,aq,ai,ar) (t1,t2,t3,t4,t5,t6,t7))
 show vc _ _ _ _ (entry [.a [.vz ab aj,.vz ag ak,.vz ag an,.int ao,.vz ae ah,.int aq,.vz ae ai,.q ar],.a [.int t1,.int t2,.int t3,.int t4,.int t5,.int t6,.int t7]] []) _
 obtain⟨hg,hd⟩:=hp
 have hk:(!(iJ (aj,ak,an,ao,ah,aq,ai,ar)&&qM (aj,ak,an,ao,ah,aq,ai,ar) (t1,t2,t3,t4,t5,t6,t7)))=false→KI (aj,ak,an,ao,ah,aq,ai,ar)∧qM (aj,ak,an,ao,ah,aq,ai,ar) (t1,t2,t3,t4,t5,t6,t7)=true:=fun h=>⟨QK.1 (Bool.and_eq_true_iff.1 (cM h)).1,(Bool.and_eq_true_iff.1 (cM h)).2⟩
 refine⟨⟨⟨⟨aa,aa,aa,aa,aa,aa,aa,aa,aa⟩,⟨aa,aa,aa,aa,aa,aa,aa,aa⟩,aa⟩,?_,?_⟩,fun x1 w2=>⟨fun w3=>⟨aa,?_⟩,fun w4=>⟨⟨⟨⟨aa,aa,aa,aa,aa,aa,aa,aa,aa⟩,⟨aa,aa,aa,aa,aa,aa,aa,aa⟩,aa⟩,?_,?_⟩,fun x5 w6=>⟨aa,⟨?_,?_,?_⟩,⟨⟨?_,?_⟩,?_⟩,?_⟩⟩⟩⟩
 all_goals first|refine aw ?_|refine ax ?_|exact a8|(dsimp only [afd,G7,kS,lP];omega)|exact a7|exact hg|exact hd|exact (hk w4).1.rd|exact (ahq (hk w4).2).dep|exact (amW (hk w4).2).1.1|(show t7≤((bB (aj,ak,an,ao,ah,aq,ai,ar) (t1,t2,t3,t4,t5,t6,t7)).1.length:Int);have h:0≤t7:=(amW (hk w4).2).1.1;have h2:t7.toNat≤(bB (aj,ak,an,ao,ah,aq,ai,ar) (t1,t2,t3,t4,t5,t6,t7)).1.length:=(amW (hk w4).2).2;omega)|(show 0+(List.take t7.toNat (bB (aj,ak,an,ao,ah,aq,ai,ar) (t1,t2,t3,t4,t5,t6,t7)).1).length≤1048576;rw [ZC0];have h:t7≤16:=(amW (hk w4).2).1.2;omega)|(show 0+0+t7.toNat≤(bB (aj,ak,an,ao,ah,aq,ai,ar) (t1,t2,t3,t4,t5,t6,t7)).1.length;have h2:t7.toNat≤(bB (aj,ak,an,ao,ah,aq,ai,ar) (t1,t2,t3,t4,t5,t6,t7)).1.length:=(amW (hk w4).2).2;omega)|skip
 ·refine⟨[],[],_,_,_,rfl,cg,(),aa,?_,?_,rfl⟩
  ·(show _=amp (aj,ak,an,ao,ah,aq,ai,ar) (t1,t2,t3,t4,t5,t6,t7));unfold amp;first|(rw [amY (s:=(aj,ak,an,ao,ah,aq,ai,ar)) (t:=(t1,t2,t3,t4,t5,t6,t7)) (xq w3)];rfl)|rfl
  ·rfl
 ·have e:=anf (s:=(aj,ak,an,ao,ah,aq,ai,ar)) (t:=(t1,t2,t3,t4,t5,t6,t7)) (cM w4)
  refine⟨[],[],_,_,_,rfl,cg,(),aa,?_,?_,rfl⟩
  ·(show _=amp (aj,ak,an,ao,ah,aq,ai,ar) (t1,t2,t3,t4,t5,t6,t7));unfold amp;first|(rw [e];exact congrArg (fun l=>AV.t [.s (.vw ae l),.s (.q true)]) (ZD1 (ZA8 (ZA6 _).symm)))|rfl
  ·rfl
end
end GL
namespace GL
theorem KI.wf {s:ay}(h:KI s):s.wf:=
 ⟨⟨h.len,(QO h.sp).1,(QO h.sp).2⟩,h.rd.2⟩
theorem KI.wg {s:ay}{n:Nat}(h:KI s) (hg:s.gone.length≤n) (hd:s.dead.length≤n):s.wg n:=
 ⟨h.wf,hg,hd,by have:=h.cj;omega⟩
theorem anB {s:ay}{t:bf}(h:qM s t=true):t.ok:=by
 have hb:=Y5 h
 unfold lZ at hb
 have h4:=cD.1 (cM (ZE1.1 hb).1)
 exact⟨ahq h,h4.1,h4.2⟩
end GL
namespace GL
def ant (s:ay):Prop:=(∀p∈s.gone,aZ p=true)∧1≤s.cj
theorem aoa {s:ay}{p:Pt}(h:ant s) (hp:aZ p=true):ant (cN s p):=by
 refine⟨?_,by rw [wY];exact h.2⟩
 replace h:=h.1
 unfold cN
 cases au p with
 |true=>exact h
 |false=>
  cases decide (p.2.1≤s.ca) with
  |true=>exact h
  |false=>
   cases decide (p.2.1<s.cj) with
   |true=>
    intro q hq
    rcases ZB4.1 (show q∈s.gone++[p] from hq) with hq |hq
    ·exact h q hq
    ·rw [ZC7.1 hq];exact hp
   |false=>exact h
theorem aog:∀{l:List Pt}{s:ay},ant s→(∀p∈l,aZ p=true)→ant (dx l s)
 |[],_,h,_=>h
 |p::l,s,h,hl=>aog (l:=l) (aoa h (hl p (List.mem_cons_self ..))) fun q hq=>hl q (List.mem_cons_of_mem _ hq)
theorem aoh {sy:List Pt}:∀{l:List Pt}{s:ay},ant s→(∀p∈l,aZ p=true)→ant (dY l sy s)
 |[],_,h,_=>h
 |p::l,s,h,hl=>by
  refine aoh (l:=l) ?_ fun q hq=>hl q (List.mem_cons_of_mem _ hq)
  cases gY sy p with
  |true=>exact h
  |false=>exact aoa h (hl p (List.mem_cons_self ..))
theorem uq.anw {s u:ay}(h:uq s u) (hs:ant s):ant u:=⟨fun p hp=>hs.1 p (by rw [←h.gone];exact hp),by rw [h.cj];exact hs.2⟩
theorem aon {s:ay}{t:bf}{l:List Pt}{many:Int}(h:s.wf) (ht:t.rd) (hg:ant s):ant (bR s t l many).1:=by
 unfold bR
 have h1:=wP (f:=3) (t:=t) (d:=bj many) (lv:=1) (l:=l.take many.toNat) (sy:=[]) h
 cases hf:mr 3 s t (bj many) 1 (l.take many.toNat) [] with
 |mk s' r=>
  rw [hf] at h1
  cases r with
  |none=>exact h1.anw hg
  |some q=>obtain⟨x,y⟩:=q;exact aoh (h1.anw hg) (MJ ht)
theorem aoi {s:ay}{t:bf}{l:List Pt}{k:Nat}{p old:Pt}{many:Int}(h:s.wf) (ht:t.rd) (ho:aZ old=true) (hg:ant s):ant (pU s t l k p many old).1:=by
 have h1:=aon (l:=l.set k p) (many:=many) h ht hg
 unfold pU
 cases !(bR s t (l.set k p) many).2.2 with
 |true=>exact h1
 |false=>
  cases !(ptrEq p old) with
  |true=>exact aoa h1 ho
  |false=>exact h1
theorem aos {s:ay}{t:bf}{k:Int}{text:ByteArray}(h:s.wf) (ht:t.rd) (hg:ant s):ant (aY s t k text).1:=by
 have hold:aZ (dW s t k)=true:=oE (lD ht) _
 unfold aY
 cases decide (gV s t k=text)&&decide (bO t k=t.many) with
 |true=>exact hg
 |false=>
  cases decide (gV s t k≠text) with
  |true=>
   cases decide (text≠⟨#[]⟩) with
   |true=>
    have hw:=DM (text:=text) (lv:=0) h
    cases !(bd s text 0).2.2 with
    |true=>exact hg
    |false=>exact aoi hw.wf ht hold (hw.anw hg)
   |false=>exact aoi h ht hold hg
  |false=>exact aoi h ht hold hg
theorem aok:∀{l:List ByteArray}{i:Nat}{s:ay}{t:bf}{n:Nat},s.wg n→t.ok→i+l.length≤16→ant s→ant (iY l i s t).1
 |[],_,_,_,_,_,_,_,h=>h
 |x::l,i,s,t,n,hs,ht,hi,h=>by
  rw [ZA1] at hi
  have h1:=nt (k:=(i:Int)) (text:=x) hs ht (by omega) (by omega)
  have h2:=aos (k:=(i:Int)) (text:=x) hs.wf ht.rd h
  cases hz:(aY s t i x).2.2 with
  |false=>rw [N9 hz];exact h2
  |true=>rw [N8 hz];exact aok (l:=l) (i:=i+1) h1.1 h1.2.1 (by omega) h2
theorem aou {s:ay}{t:bf}{many:Int}(h:s.wf) (ht:t.rd) (hg:ant s):ant (cG s t many).1:=by
 have h1:=aon (l:=aB s t) (many:=many) h ht hg
 unfold cG
 cases decide (many=t.many) with
 |true=>exact hg
 |false=>
  show ant (UB s t many).1
  unfold UB
  cases !(bR s t (aB s t) many).2.2 with
  |true=>exact h1
  |false=>exact aog h1 fun p hp=>lD (s:=s) ht p (ZF2 hp)
theorem aor {s:ay}{t:bf}{text:ByteArray}{n:Nat}(hs:s.wg n) (ht:t.ok) (h:ant s):ant (dH s t text).1:=by
 unfold dH
 cases hd:decide (((kE text).length:Int)>16) with
 |true=>exact h
 |false=>
  have hl:=aA hd
  have h1:=RI (l:=kE text) (i:=0) hs ht (by omega)
  have h2:=aok (l:=kE text) (i:=0) hs ht (by omega) h
  show ant (J9 (iY (kE text) 0 s t) (kE text).length).1
  unfold J9
  cases !(iY (kE text) 0 s t).2.2 with
  |true=>exact h2
  |false=>exact aou h1.1.wf h1.2.rd h2
theorem ant.gk {s:ay}{n:Nat}(h:ant s) (hw:s.wg n) (hn:n≤900000):s.gk:=
 ⟨hw.wf.n,ZB0 hw.g (by omega),fun p hp=>nW (h.1 p hp),by have:=hw.t;have:=h.2;omega⟩
theorem KI.anw {s:ay}(h:KI s):ant s:=⟨fun p hp=>(h.gone p hp).1,h.cj.1⟩
theorem KI.gk {s:ay}{n:Nat}(h:KI s) (hg:s.gone.length≤n) (hd:s.dead.length≤n) (hn:n≤900000):s.gk:=
 h.anw.gk (h.wg hg hd) hn
theorem aoq {s:ay}(h:s.wf) (k:Nat):(gf s k).wf:=by
 have h1:=qt (p:=((k:Int),max (s.ca+1) s.cj,1,0,0)) h
 rw [yS (by unfold au;simp) (decide_eq_false (by show¬max (s.ca+1) s.cj≤s.ca;omega)) (decide_eq_false (by show¬max (s.ca+1) s.cj<s.cj;omega))] at h1
 exact h1
theorem an8:∀{l:List Pt}{s:ay},s.wf→(ka l s).wf∧(ka l s).cj=s.cj
 |[],_,h=>⟨h,rfl⟩
 |p::l,s,h=>an8 (l:=l) (aoq h p.1.toNat)
theorem aoo {s:ay}{n:Nat}(h:s.wg n):(ij s).wg (n+1):=by
 have h1:=an8 (l:=s.gone) h.wf
 refine⟨⟨h1.1.n,h1.1.sz⟩,ZA7 _,?_,?_⟩
 ·show (ka s.gone s).dead.length≤_;rw [HS];have:=h.d;omega
 ·show (ka s.gone s).cj+1≤_;rw [h1.2];have:=h.t;omega
abbrev aof (s:ay):ay:=(s.rows,s.refs,s.last,s.cj,s.gone,s.cj-1,s.dead,s.same)
theorem aop {s:ay}{n:Nat}(h:s.wg n):(aof s).wg n:=⟨⟨h.wf.n,h.wf.sz⟩,h.g,h.d,h.t⟩
theorem aol {s:ay}{n:Nat}(h:s.wg n) (hg:ant s):2≤(ij s).cj∧(ij s).cj≤((1001+n:Nat):Int):=by
 have h1:(ij s).cj=(ka s.gone s).cj+1:=rfl
 rw [h1,(an8 (l:=s.gone) h.wf).2]
 have:=h.t;have:=hg.2;omega
abbrev anz (s:ay) (o:Nat):ay:=((s.rows.drop o).take (s.rows.length-o),(s.refs.drop 0).take s.refs.length,(s.last.drop 0).take s.last.length,s.cj,(s.gone.drop 0).take s.gone.length,s.ca,(s.dead.drop 0).take s.dead.length,s.same)
theorem an1 (s:ay) (o:Nat):(anz s o).gone.length≤s.gone.length∧(anz s o).dead.length≤s.dead.length:=⟨by show ((s.gone.drop 0).take s.gone.length).length≤_;rw [ZC0];exact Nat.min_le_left _ _,by show ((s.dead.drop 0).take s.dead.length).length≤_;rw [ZC0];exact Nat.min_le_left _ _⟩
theorem ay.wg.small {s:ay}{n:Nat}(h:s.wg n) (hn:n≤1000000):s.small:=⟨by rw [h.wf.n.1];decide,by rw [h.wf.n.2.1];decide,by rw [h.wf.n.2.2];decide,ZB0 h.g hn,ZB0 h.d hn⟩
structure DBS (b:ay×bf×Bool):Prop where
 gk:b.1.gk
 tx:(-9223372036854775808:Int)≤(ij b.1).cj-1∧(ij b.1).cj-1≤9223372036854775807
 wg:(aof (ij b.1)).wg 20119
 ok:b.2.1.ok
theorem aoy {s:ay}{o:Nat}(h:s.gone.length≤20001∧s.dead.length≤20001) (hk:iJ (anz s o)=true):(anz s o).wg 20001:=(QK.1 hk).wg (ZB0 (an1 s o).1 h.1) (ZB0 (an1 s o).2 h.2)
theorem dbs {s:ay}{o:Nat}{t:bf}{y:ByteArray}(h:s.gone.length≤20001∧s.dead.length≤20001) (hk:iJ (anz s o)=true) (ho:qM (anz s o) t=true):DBS (dH (anz s o) t y):=by
 have h1:=UF (text:=y) (aoy h hk) (anB ho)
 have h2:=aor (text:=y) (aoy h hk) (anB ho) (QK.1 hk).anw
 exact⟨h2.gk h1.1 (by decide),by have:=aol h1.1 h2;omega,aop (aoo h1.1),h1.2⟩
theorem DBS.big {b:ay×bf×Bool}(h:DBS b) (y:ByteArray):(dH (aof (ij b.1)) b.2.1 y).1.gone.length≤1000000∧(dH (aof (ij b.1)) b.2.1 y).1.dead.length≤1000000:=by
 have:=(UF (text:=y) h.wg h.ok).1
 exact⟨ZB0 this.g (by decide),ZB0 this.d (by decide)⟩
theorem DBS.lit {b:ay×bf×Bool}(h:DBS b):(aof (ij b.1)).gone.length≤1000000∧(aof (ij b.1)).dead.length≤1000000:=⟨ZB0 h.wg.g (by decide),ZB0 h.wg.d (by decide)⟩
abbrev dbC (b:ay×bf×Bool) (y:ByteArray):ay×bf×Bool:=dH (aof (ij b.1)) b.2.1 y
abbrev dbZ (b:ay×bf×Bool) (y:ByteArray):ay×Nat×bf×bf:=((dbC b y).1,0,b.2.1,(dbC b y).2.1)
theorem aot (n:Int):∃z:ByteArray,z.size=(⟨#[97,98]⟩:ByteArray).size*n.toNat:=⟨⟨⟨List.replicate (2*n.toNat) 0⟩⟩,ZG0 ..⟩
end GL
namespace GL
attribute [local irreducible] dH iJ qM
def anL (c:List Int):Prop:=aj5 c
def anZ (c:List Int) (z:ay×Nat×bf×bf):Prop:=(z.1.gone.length≤1000000∧z.1.dead.length≤1000000)∧z.2.1≤z.1.rows.length
def anY (c:List Int) (z:ay×Nat×bf×bf):AV:=.t [.a [.xs 0 1 z.2.1 (z.1.rows.length-z.2.1),.xs 1 1 0 z.1.refs.length,.xs 2 1 0 z.1.last.length,.int z.1.cj,.xs 3 5 0 z.1.gone.length,.int z.1.ca,.xs 4 5 0 z.1.dead.length,.q z.1.same],trA z.2.2.1,trA z.2.2.2]
def an6 (c:List Int) (z:ay×Nat×bf×bf):List AV:=[.rs ab z.1.rows,.rs ag z.1.refs,.rs ag z.1.last,.rs ae z.1.gone,.rs ae z.1.dead]
def anQ:ct where
 A:=[.s (.vw mj)]
 B:=[]
 pre:=fun x b=>anL x
 α:=fun _ _=>ay×Nat×bf×bf
 φ:=fun x b z=>anZ x z
 r:=fun x b z=>anY x z
 o:=fun x b z=>an6 x z
 nf:=5
theorem an9:Has Tryz.prog 29 anQ:=by
 refine Has.fu zT zF (fun d=>d==21||d==25||d==29) (l:=[(57,afc),(58,ab5),(70,ba),(71,sP),(72,JV),(74,jF),(79,mf),(78,PT),(73,ia)]) ⟨ai0,air,dh,MG,adN,IG,adQ,afQ,sE,aa⟩ Tryz.func29 ?_
 rintro (c:List Int) _ (hp:anL c)
 show vc _ _ _ _ (entry [.s (.vw mj c)] []) _
 have hb:aj5 c:=hp
 have dG:∀{b:List Int} {p:Int},Rdr (b,0) 0→0≤p→p≤50000→Rdr (b,p) 1000000:=fun h h0 h1=>h.at h0 (ZE0 h1 (by decide))
 have hpk:∀{p:Int} {x:Int×Int},((x.1=0∨(0≤x.1∧x.1<150))∧x.2=p+1)→0≤x.1∧x.1<150:=fun h=>pk (n:=150) (by decide) h
 have hp3:∀{p:Int} {x:Int×Int},((x.1=0∨(0≤x.1∧x.1<150))∧x.2=p+1)→x.1≤1000:=fun h=>by have:=hpk h;omega
 have hp1:∀{p:Int} {x:Int×Int} {C:Prop},0≤p→C∧x.2=p+1→0≤x.2:=fun h h2=>by have:=h2.2;omega
 have hp2:∀{p n:Int} {x:Int×Int} {C:Prop},p≤n→C∧x.2=p+1→x.2≤n+1:=fun h h2=>by have:=h2.2;omega
 have hts:∀{p:Int} {x:Int×Int} {y:ByteArray},((x.1=0∨(0≤x.1∧x.1<150))∧x.2=p+1)→y.size=(⟨#[97,98]⟩:ByteArray).size*x.1.toNat→y.size≤1000000:=fun h h2=>by
  rw [h2,show (⟨#[97,98]⟩:ByteArray).size=2 from rfl];have:=hpk h;omega
 refine⟨⟨⟨aa,aa⟩,?_⟩,fun x1 w2=>⟨⟨⟨aa,aa⟩,?_⟩,fun x3 w4=>⟨⟨⟨⟨?_,?_,?_,aa,?_,aa,?_,aa,aa⟩,aa⟩,?_,?_⟩,fun x5 w6=>⟨aa,fun w7=>⟨⟨⟨⟨?_,?_,?_,aa,?_,aa,?_,aa,aa⟩,⟨aa,aa,aa,aa,aa,aa,aa,aa⟩,aa⟩,?_⟩,fun x8 w9=>⟨fun dy=>⟨[.s 6,.b 1006],Sq28,rfl,[.s 28,.b 170000,.b 170001,.b 170002,.b 170003,.b 170004,.b 300004,.b 300003,.b 300002,.b 300001,.b 300000],[.s 29,.b 300000,.b 300001,.b 300002,.b 300003,.b 300004],rfl,⟨⟨⟨?_,?_,?_,aa,?_,aa,?_,aa,aa⟩,aa⟩,?_,?_,?_,?_,?_⟩,?_,fun kB dK=>⟨[.s 7,.b 1007],Sq30,rfl,Sq5,Sq31,rfl,[.s 31,.b 140000],[.s 32,.b 140000],rfl,⟨⟨aa,aa,aa⟩,?_,?_⟩,?_,fun rZ gP=>⟨Sq32,Sq33,rfl,⟨⟨aa,aa,aa⟩,?_,?_,?_⟩,?_,fun kA ki=>⟨[.s 29,.s 30,.s 33,.b 300000,.b 300001,.b 300002,.b 300003,.b 300004,.b 1000350001,.b 1000350000],[.s 34,.b 300000,.b 300001,.b 300002,.b 300003,.b 300004,.b 1000350000,.b 1000350001],rfl,⟨⟨⟨aa,aa,aa,aa,aa,aa,aa,aa,aa⟩,⟨aa,aa,aa,aa,aa,aa,aa,aa⟩,aa,aa⟩,⟨?_,?_,?_,?_,?_⟩,?_,?_,?_⟩,?_,fun x17 rV=>⟨Sq34,Sq27,rfl,Sq27,Sq35,rfl,Sq27,Sq36,rfl,Sq27,Sq37,rfl,[.b 1009],[.s 9,.b 1009],rfl,[.b 1010],[.s 10,.b 1010],rfl,[.s 9,.s 35,.b 1009],[.b 1009],rfl,[.s 10,.s 36,.b 1010],[.b 1010],rfl,Sq37,Sq11,rfl,fun oN=>⟨⟨⟨⟨aa,aa,aa,aa,aa,aa,aa,aa,aa⟩,aa⟩,⟨?_,?_,?_,?_,?_⟩,?_⟩,fun x20 A4=>⟨⟨?_,?_⟩,[.s 6,.b 1006],Sq48,rfl,[.s 48,.b 300000,.b 300001,.b 300002,.b 430000,.b 1000350001,.b 500004,.b 500003,.b 500002,.b 500001,.b 500000],[.s 49,.b 500000,.b 500001,.b 500002,.b 500003,.b 500004],rfl,⟨⟨⟨⟨?_,?_⟩,⟨?_,?_⟩,⟨?_,?_⟩,aa,⟨?_,?_⟩,aa,⟨?_,?_⟩,aa,aa⟩,aa⟩,?_,?_,?_,?_,?_⟩,?_,fun x22 xM=>⟨[.s 7,.b 1007],Sq50,rfl,Sq5,Sq51,rfl,[.s 51,.b 140000],[.s 52,.b 140000],rfl,⟨⟨aa,aa,aa⟩,?_,?_⟩,?_,fun x24 w25=>⟨Sq52,Sq53,rfl,⟨⟨aa,aa,aa⟩,?_,?_,?_⟩,?_,fun x26 w27=>⟨[.s 49,.s 50,.s 53,.b 500000,.b 500001,.b 500002,.b 500003,.b 500004,.b 1000550001,.b 1000550000],[.s 54,.b 500000,.b 500001,.b 500002,.b 500003,.b 500004,.b 1000550000,.b 1000550001],rfl,⟨⟨⟨aa,aa,aa,aa,aa,aa,aa,aa,aa⟩,⟨aa,aa,aa,aa,aa,aa,aa,aa⟩,aa,aa⟩,⟨?_,?_,?_,?_,?_⟩,?_,?_,?_⟩,?_,fun x28 w29=>⟨Sq54,Sq47,rfl,Sq47,Sq55,rfl,Sq47,Sq56,rfl,Sq47,Sq57,rfl,[.s 9,.s 55,.b 1009],[.b 1009],rfl,[.s 10,.s 56,.b 1010],[.b 1010],rfl,Sq57,Sq11,rfl,aa,fun w30=>⟨⟨⟨aa,aa,aa⟩,?_,?_⟩,fun x31 w32=>⟨fun w33=>⟨[.s 9,.b 1009],Sq64,rfl,[.s 7,.b 1007],Sq65,rfl,[.s 10,.b 1010],Sq66,rfl,[.s 2,.s 64,.b 1002],[.b 1002],rfl,[.s 3,.s 65,.b 1003],[.b 1003],rfl,[.s 4,.s 66,.b 1004],[.b 1004],rfl,?_⟩,fun w34=>⟨[.s 6,.b 1006],Sq67,rfl,[.s 7,.b 1007],Sq68,rfl,[.s 8,.b 1008],Sq69,rfl,[.s 2,.s 67,.b 1002],[.b 1002],rfl,[.s 3,.s 68,.b 1003],[.b 1003],rfl,[.s 4,.s 69,.b 1004],[.b 1004],rfl,?_⟩⟩⟩,fun w35=>⟨[.s 6,.b 1006],Sq67,rfl,[.s 7,.b 1007],Sq68,rfl,[.s 8,.b 1008],Sq69,rfl,[.s 2,.s 67,.b 1002],[.b 1002],rfl,[.s 3,.s 68,.b 1003],[.b 1003],rfl,[.s 4,.s 69,.b 1004],[.b 1004],rfl,?_⟩⟩⟩⟩⟩⟩⟩,fun w36=>⟨[.s 6,.b 1006],Sq67,rfl,[.s 7,.b 1007],Sq68,rfl,[.s 8,.b 1008],Sq69,rfl,[.s 2,.s 67,.b 1002],[.b 1002],rfl,[.s 3,.s 68,.b 1003],[.b 1003],rfl,[.s 4,.s 69,.b 1004],[.b 1004],rfl,?_⟩⟩⟩⟩⟩⟩,fun w37=>⟨[.s 6,.b 1006],Sq67,rfl,[.s 7,.b 1007],Sq68,rfl,[.s 8,.b 1008],Sq69,rfl,[.s 2,.s 67,.b 1002],[.b 1002],rfl,[.s 3,.s 68,.b 1003],[.b 1003],rfl,[.s 4,.s 69,.b 1004],[.b 1004],rfl,?_⟩⟩⟩,fun w38=>⟨[.s 6,.b 1006],Sq67,rfl,[.s 7,.b 1007],Sq68,rfl,[.s 8,.b 1008],Sq69,rfl,[.s 2,.s 67,.b 1002],[.b 1002],rfl,[.s 3,.s 68,.b 1003],[.b 1003],rfl,[.s 4,.s 69,.b 1004],[.b 1004],rfl,?_⟩⟩⟩⟩⟩
 all_goals first|refine aw ?_|refine ax ?_|exact a8|(dsimp only [afc,G6,ab5,DU,ba,cm,sP,rh,JV,zu,jF,pZ,mf,yh,PT,B1,ia,jm,gQ];omega)|exact a7|exact hb|exact Rdr.at (show Rdr (x1,0) 0 from w2) (ZC1 _) (by decide)|(show x3.2.2.1+(x3.1.rows.length-x3.2.2.1)≤x3.1.rows.length;have h:x3.2.2.1≤x3.1.rows.length:=w4.2.2;omega)|exact ZB0 (an1 x3.1 x3.2.2.1).1 (ZB0 w4.1.1 (by decide))|exact ZB0 (an1 x3.1 x3.2.2.1).2 (ZB0 w4.1.2 (by decide))|exact (QK.1 (show iJ (anz x3.1 x3.2.2.1)=true from w7)).rd|exact aot _|(obtain⟨a,b,c,d,e⟩:=(aoy w4.1 w7).small (by decide);first|exact a|exact b|exact c)|(have a1:(0:Int)≤x3.2.2.2:=w4.2.1.1;have a2:x3.2.2.2≤0+40000:=w4.2.1.2;exact (show Rdr (x1,x3.2.2.2) 1000000 from dG w2 a1 (ZE0 a2 (by decide))))|exact⟨(0,_),.inl rfl,rfl⟩|exact (hpk gP).1|exact hp3 gP|(show 2≤1000;decide)|exact (aoy w4.1 w7).mono (by decide)|exact anB (show qM (anz x3.1 x3.2.2.1) x3.2.1=true from dy)|exact hts gP ki|exact (dbs (y:=kA) w4.1 w7 dy).gk|exact (dbs (y:=kA) w4.1 w7 dy).tx.1|exact (dbs (y:=kA) w4.1 w7 dy).tx.2|(obtain⟨a,b,c,d,e⟩:=(dbs (y:=kA) w4.1 w7 dy).wg.small (by decide);first|exact a|exact b|exact c|exact d|exact e)|(have a1:(0:Int)≤x3.2.2.2:=w4.2.1.1;have a2:x3.2.2.2≤0+40000:=w4.2.1.2;exact (show Rdr (x1,rZ.2) 1000000 from dG w2 (hp1 a1 gP) (ZE0 (hp2 a2 gP) (by decide))))|exact (hpk w25).1|exact hp3 w25|exact (dbs (y:=kA) w4.1 w7 dy).wg.mono (by decide)|exact (dbs (y:=kA) w4.1 w7 dy).ok|exact hts w25 w27|(have a1:(0:Int)≤x3.2.2.2:=w4.2.1.1;have a2:x3.2.2.2≤0+40000:=w4.2.1.2;exact (show Rdr (x1,x24.2) 1000000 from dG w2 (hp1 (hp1 a1 gP) w25) (ZE0 (hp2 (hp2 a2 gP) w25) (by decide))))|skip
 ·refine⟨[500000,500001,500002,1000550000,1000550001],[],_,_,_,rfl,cg,dbZ (dH (anz x3.1 x3.2.2.1) x3.2.1 kA) x26,⟨(dbs (y:=kA) w4.1 w7 dy).big _,ZA7 _⟩,rfl,rfl,rfl⟩
 iterate 2 · refine⟨[300000,300001,300002,430000,1000350001],[],_,_,_,rfl,cg,((aof (ij (dH (anz x3.1 x3.2.2.1) x3.2.1 kA).1)),0,(dH (anz x3.1 x3.2.2.1) x3.2.1 kA).2.1,x3.2.1),⟨(dbs (y:=kA) w4.1 w7 dy).lit,ZA7 _⟩,rfl,rfl,rfl⟩
 all_goals refine⟨[170000,170001,170002,170003,170004],[],_,_,_,rfl,cg,(x3.1,x3.2.2.1,x3.2.1,x3.2.1),⟨⟨ZB0 w4.1.1 (by decide),ZB0 w4.1.2 (by decide)⟩,w4.2.2⟩,rfl,rfl,rfl⟩
end GL
namespace GL
noncomputable section
def anx:List Pt→List Pt→Nat
 |p::x,q::y=>(bif ptrEq p q&& !(au p) then 1 else 0)+anx x y
 |_,_=>0
def anP (x:List Pt):Nat:=x.countP fun p=>au p
theorem an2:∀x y:List Pt,anx x y=anx y x
 |[],[]=>rfl
 |[],_::_=>rfl
 |_::_,[]=>rfl
 |p::x,q::y=>by
  unfold anx
  rw [an2 x y]
  cases h:ptrEq p q with
  |true=>have:=se.1 h;subst this;rw [show ptrEq p p=true from h]
  |false=>
   have h2:ptrEq q p=false:=by
    cases h2:ptrEq q p with
    |false=>rfl
    |true=>have:=se.1 h2;subst this;rw [show ptrEq q q=true from se.2 rfl] at h;cases h
   rw [h2];rfl
theorem an3:∀x:List Pt,anx x x+anP x=x.length
 |[]=>rfl
 |p::x=>by
  have h:=an3 x
  unfold anP at h ⊢
  unfold anx
  rw [show ptrEq p p=true from se.2 rfl,List.countP_cons,ZA1]
  cases hp:au p with
  |true=>simp;omega
  |false=>simp;omega
theorem anK:∀x y:List Pt,anx x y≤x.length∧anx x y≤y.length
 |[],y=>⟨ZA7 _,ZA7 _⟩
 |_::_,[]=>⟨ZA7 _,ZA7 _⟩
 |p::x,q::y=>by
  have h:=anK x y
  unfold anx
  rw [ZA1,ZA1]
  cases ptrEq p q&& !(au p)<;>simp<;>omega
def anA (s:ay) (a b:bf):Int×Bool:=bif (pA s a).2&&(pA s b).2 then (((anx (pA s a).1 (pA s b).1:Nat):Int),true) else (0,false)
theorem anJ {s:ay}{a b:bf}(h:(pA s a).2=false∨(pA s b).2=false):anA s a b=(0,false):=by
 unfold anA
 rcases h with h |h
 ·rw [h];rfl
 ·rw [h,ZD7];rfl
theorem anN {s:ay}{a b:bf}(h:(pA s a).2=true) (h2:(pA s b).2=true):anA s a b=(((anx (pA s a).1 (pA s b).1:Nat):Int),true):=by unfold anA;rw [h,h2];rfl
theorem anX:∀x:List Pt,anx x []=0
 |[]=>rfl
 |_::_=>rfl
theorem aoe {x y:List Pt}{i:Nat}(hx:i<x.length) (hy:i<y.length):anx (x.drop i) (y.drop i)=(bif ptrEq (nth ae x i) (nth ae y i)&& !(au (nth ae x i)) then 1 else 0)+anx (x.drop (i+1)) (y.drop (i+1)):=by
 rw [bX (ek:=ae) hx,bX (ek:=ae) hy];rfl
theorem anT {x y:List Pt}{i:Nat}(h:¬(i<x.length∧i<y.length)):anx (x.drop i) (y.drop i)=0:=by
 by_cases hx:i<x.length
 ·rw [show y.drop i=[] from ZB3 (by omega)];exact anX _
 ·rw [show x.drop i=[] from ZB3 (by omega)];rfl
structure aov (X Y:List Pt) (i:Nat) (n:Int):Prop where
 n:n=(anx X Y:Int)-anx (X.drop i) (Y.drop i)
 x:i≤X.length
 y:i≤Y.length
theorem aov.z (X Y:List Pt):aov X Y 0 0:=⟨by simp,ZA7 _,ZA7 _⟩
theorem aov.st {X Y:List Pt}{i:Nat}{n:Int}(h:aov X Y i n) (h1:i<X.length) (h2:i<Y.length) (c:Bool) (hc:(ptrEq (nth ae X i) (nth ae Y i)&& !(au (nth ae X i)))=c):aov X Y (i+1) (n+bif c then 1 else 0):=by
 have e:=aoe h1 h2
 rw [hc] at e
 refine⟨?_,h1,h2⟩
 have:=h.n
 cases c with
 |true=>simp only [cond_true] at e ⊢;omega
 |false=>simp only [cond_false] at e ⊢;omega
theorem aov.hit {X Y:List Pt}{i:Nat}{n:Int}(h:aov X Y i n) (h1:i<X.length) (h2:i<Y.length) (hq:ptrEq (nth ae X i) (nth ae Y i)=true) (hh:(!(au (nth ae X i)))=true):aov X Y (i+1) (n+1):=h.st h1 h2 true (by rw [hq,hh];rfl)
theorem aov.mi {X Y:List Pt}{i:Nat}{n:Int}(h:aov X Y i n) (h1:i<X.length) (h2:i<Y.length) (hq:ptrEq (nth ae X i) (nth ae Y i)=false∨(!(au (nth ae X i)))=false):aov X Y (i+1) n:=by
 have e:=h.st h1 h2 false (by rcases hq with hq |hq<;>rw [hq];exact Bool.false_and _;exact ZD7 _)
 rw [cond_false,Int.add_zero] at e;exact e
theorem aov.aow {X Y:List Pt}{i:Nat}{n:Int}(h:aov X Y i n) (hx:X.length≤16): -16≤n∧n≤16:=by
 have h1:=(anK X Y).1
 have h2:=(anK (X.drop i) (Y.drop i)).1
 rw [ZD0] at h2
 have:=h.n;omega
theorem aov.e {X Y:List Pt}{i:Nat}{n:Int}(h:aov X Y i n) (he:¬(i<X.length∧i<Y.length)):n=(anx X Y:Int):=by
 have:=anT he;have:=h.n;omega
theorem aox {i n:Nat}(h:decide ((i:Int)<(n:Int))=true):i<n:=by have:=aJ h;omega
theorem aoz {i n:Nat}(h:decide ((i:Int)<(n:Int))=false):¬i<n:=by have:=aA h;omega
theorem lt_min {i n m:Nat}(h:decide ((i:Int)<min (n:Int) (m:Int))=true):i<n∧i<m:=by have:=aJ h;omega
theorem aoA {i n m:Nat}(h:decide ((i:Int)<min (n:Int) (m:Int))=false):¬(i<n∧i<m):=by have:=aA h;omega
def anM (S:ay) (a:bf) (b:bf):Prop:=S.gone.length≤1000000∧S.dead.length≤1000000
def anC (S:ay) (a:bf) (b:bf):AV:=.t [.s (.int (anA S a b).1),.s (.q (anA S a b).2)]
def aoj (S:ay) (a:bf) (b:bf):List AV:=[]
def anO:ct where
 A:=[.a xy,.a [.int,.int,.int,.int,.int,.int,.int],.a [.int,.int,.int,.int,.int,.int,.int]]
 B:=[]
 pre:=fun x b=>anM (x.1) (x.2.1) (x.2.2)
 r:=fun x b _=>anC (x.1) (x.2.1) (x.2.2)
 o:=fun x b _=>aoj (x.1) (x.2.1) (x.2.2)
theorem an4:Has Tryz.prog 35 anO:=by
 refine Has.fu zT zF zF (l:=[(16,amt),(83,bl)]) ⟨amM,cz,aa⟩ Tryz.func35 ?_
 rintro⟨⟨(aj:List ByteArray),(ak:List Int),(an:List Int),(ao:Int),(ah:List Pt),(aq:Int),(ai:List Pt),(ar:Bool)⟩,⟨(a1:Int),(a2:Int),(a3:Int),(a4:Int),(a5:Int),(anu:Int),(anv:Int)⟩,⟨(b1:Int),(b2:Int),(b3:Int),(b4:Int),(b5:Int),(b6:Int),(b7:Int)⟩⟩ _ (hp:anM (aj,ak,an,ao,ah,aq,ai,ar) (a1,a2,a3,a4,a5,anu,anv) (b1,b2,b3,b4,b5,b6,b7))
 show vc _ _ _ _ (entry [.a [.vz ab aj,.vz ag ak,.vz ag an,.int ao,.vz ae ah,.int aq,.vz ae ai,.q ar],.a [.int a1,.int a2,.int a3,.int a4,.int a5,.int anu,.int anv],.a [.int b1,.int b2,.int b3,.int b4,.int b5,.int b6,.int b7]] []) _
 obtain⟨hg,hd⟩:=hp
 refine⟨⟨⟨⟨aa,aa,aa,aa,aa,aa,aa,aa,aa⟩,⟨aa,aa,aa,aa,aa,aa,aa,aa⟩,aa⟩,?_,?_⟩,fun x1 w2=>⟨⟨⟨⟨aa,aa,aa,aa,aa,aa,aa,aa,aa⟩,⟨aa,aa,aa,aa,aa,aa,aa,aa⟩,aa⟩,?_,?_⟩,fun x3 w4=>⟨aa,fun w5=>?_,fun w6=>⟨fun w7=>?_,fun w8=>?_⟩⟩⟩⟩
 all_goals first|refine aw ?_|refine ax ?_|exact a8|(dsimp only [amt,amr];omega)|exact a7|exact hg|exact hd|skip
 ·have e:=anJ (s:=(aj,ak,an,ao,ah,aq,ai,ar)) (a:=(a1,a2,a3,a4,a5,anu,anv)) (b:=(b1,b2,b3,b4,b5,b6,b7)) (.inl (ux w5))
  refine⟨[],[],_,_,_,rfl,az,(),aa,?_,?_,rfl⟩
  ·(show _=anC (aj,ak,an,ao,ah,aq,ai,ar) (a1,a2,a3,a4,a5,anu,anv) (b1,b2,b3,b4,b5,b6,b7));unfold anC;first|(rw [e];rfl)|rfl
  ·rfl
 ·have e:=anJ (s:=(aj,ak,an,ao,ah,aq,ai,ar)) (a:=(a1,a2,a3,a4,a5,anu,anv)) (b:=(b1,b2,b3,b4,b5,b6,b7)) (.inr (ux w7))
  refine⟨[],[],_,_,_,rfl,az,(),aa,?_,?_,rfl⟩
  ·(show _=anC (aj,ak,an,ao,ah,aq,ai,ar) (a1,a2,a3,a4,a5,anu,anv) (b1,b2,b3,b4,b5,b6,b7));unfold anC;first|(rw [e];rfl)|rfl
  ·rfl
 ·have ha:=amE (cM w6)
  have hb:=amE (cM w8)
  have e:=anN (s:=(aj,ak,an,ao,ah,aq,ai,ar)) (a:=(a1,a2,a3,a4,a5,anu,anv)) (b:=(b1,b2,b3,b4,b5,b6,b7)) (cM w6) (cM w8)
  refine cO (l:=[(16,amt),(83,bl)]) (ex:=zT) (wr:=zF) (pt:=zF) ⟨amM,cz,aa⟩ [.s 3,.s 4,.s 5,.b 1003,.b 1004,.b 1005,.s 8,.s 10] (fun y:Nat×Int=>[(.s 13,.int y.1),(.s 12,.int y.2)]) (fun y=>aov (pA (aj,ak,an,ao,ah,aq,ai,ar) (a1,a2,a3,a4,a5,anu,anv)).1 (pA (aj,ak,an,ao,ah,aq,ai,ar) (b1,b2,b3,b4,b5,b6,b7)).1 y.1 y.2) (fun y=>(pA (aj,ak,an,ao,ah,aq,ai,ar) (a1,a2,a3,a4,a5,anu,anv)).1.length-y.1) (0,0) [] (aov.z _ _) dN ?_
  rintro⟨i,n⟩ (hI:aov (pA (aj,ak,an,ao,ah,aq,ai,ar) (a1,a2,a3,a4,a5,anu,anv)).1 (pA (aj,ak,an,ao,ah,aq,ai,ar) (b1,b2,b3,b4,b5,b6,b7)).1 i n)
  have hbd:=hI.aow ha
  have hi:=hI.x
  refine⟨aa,fun w1=>⟨fun w2=>⟨Sq8,Sq44,rfl,Sq13,Sq45,rfl,[.s 44,.s 45],Sq46,rfl,⟨?_,?_⟩,Sq46,Sq47,rfl,Sq10,Sq48,rfl,Sq13,Sq49,rfl,[.s 48,.s 49],Sq50,rfl,⟨?_,?_⟩,Sq50,Sq51,rfl,[.s 47,.s 51],Sq52,rfl,Sq52,Sq53,rfl,aa,fun w3=>⟨[.s 53,.s 8],Sq54,rfl,[.s 53,.s 13],Sq55,rfl,[.s 53,.s 54,.s 55],Sq56,rfl,⟨?_,?_⟩,[.s 53,.s 56],Sq57,rfl,[.s 53,.s 57],Sq58,rfl,⟨⟨⟨aa,aa,aa,aa,aa,aa⟩,aa⟩,aa⟩,?_,fun x4 w5=>⟨[.s 53,.s 58],Sq59,rfl,[.s 53,.s 59],Sq60,rfl,fun w6=>⟨⟨?_,?_⟩,⟨?_,?_⟩,?_⟩,fun w7=>⟨⟨?_,?_⟩,?_⟩⟩⟩,fun w8=>⟨Sq53,Sq54,rfl,Sq53,Sq55,rfl,Sq53,Sq56,rfl,Sq53,Sq57,rfl,Sq53,Sq58,rfl,Sq53,Sq59,rfl,[.s 53,.s 59],Sq60,rfl,⟨?_,?_⟩,?_⟩⟩,fun w9=>?_⟩,fun dy=>?_⟩
  all_goals first|refine aw ?_|refine ax ?_|exact a8|(dsimp only [amt,amr];omega)|exact a7|(unfold gL;omega)|(unfold imax;omega)|exact Int.ofNat_lt.2 (aox w1)|exact Int.ofNat_lt.2 (aox w2)|skip
  ·refine⟨(i+1,n+1),[],?_,?_,?_⟩
   rotate_right
   ·exact bW
   ·exact hI.hit (aox w1) (aox w2) w3 w6
   ·exact Nat.sub_succ_lt_self _ _ (aox w1)
  ·refine⟨(i+1,n),[],?_,?_,?_⟩
   rotate_right
   ·exact bW
   ·exact hI.mi (aox w1) (aox w2) (.inr w7)
   ·exact Nat.sub_succ_lt_self _ _ (aox w1)
  ·refine⟨(i+1,n),[],?_,?_,?_⟩
   rotate_right
   ·exact bW
   ·exact hI.mi (aox w1) (aox w2) (.inl w8)
   ·exact Nat.sub_succ_lt_self _ _ (aox w1)
  ·obtain rfl:=hI.e fun h=>aoz w9 h.2
   refine⟨[],[],_,_,_,rfl,az,(),aa,?_,?_,rfl⟩
   ·(show _=anC (aj,ak,an,ao,ah,aq,ai,ar) (a1,a2,a3,a4,a5,anu,anv) (b1,b2,b3,b4,b5,b6,b7));unfold anC;first|(rw [e];rfl)|rfl
   ·rfl
  ·obtain rfl:=hI.e fun h=>aoz dy h.1
   refine⟨[],[],_,_,_,rfl,az,(),aa,?_,?_,rfl⟩
   ·(show _=anC (aj,ak,an,ao,ah,aq,ai,ar) (a1,a2,a3,a4,a5,anu,anv) (b1,b2,b3,b4,b5,b6,b7));unfold anC;first|(rw [e];rfl)|rfl
   ·rfl
def anH (S:ay) (a:bf) (b:bf):Prop:=S.gone.length≤1000000∧S.dead.length≤1000000
def anE (S:ay) (a:bf) (b:bf):AV:=.t [.s (.int (anA S a b).1),.s (.q (anA S a b).2)]
def aob (S:ay) (a:bf) (b:bf):List AV:=[]
def anI:ct where
 A:=[.a xy,.a [.int,.int,.int,.int,.int,.int,.int],.a [.int,.int,.int,.int,.int,.int,.int]]
 B:=[]
 pre:=fun x b=>anH (x.1) (x.2.1) (x.2.2)
 r:=fun x b _=>anE (x.1) (x.2.1) (x.2.2)
 o:=fun x b _=>aob (x.1) (x.2.1) (x.2.2)
theorem anW:Has Tryz.prog 34 anI:=by
 refine Has.zC zT zF zF (l:=[(15,amI),(23,bH)]) ⟨am6,eP,aa⟩ Tryz.func34 ?_
 rintro⟨⟨(aj:List ByteArray),(ak:List Int),(an:List Int),(ao:Int),(ah:List Pt),(aq:Int),(ai:List Pt),(ar:Bool)⟩,⟨(a1:Int),(a2:Int),(a3:Int),(a4:Int),(a5:Int),(anu:Int),(anv:Int)⟩,⟨(b1:Int),(b2:Int),(b3:Int),(b4:Int),(b5:Int),(b6:Int),(b7:Int)⟩⟩ _ (hp:anH (aj,ak,an,ao,ah,aq,ai,ar) (a1,a2,a3,a4,a5,anu,anv) (b1,b2,b3,b4,b5,b6,b7))
 show vc _ _ _ _ (entry [.a [.vz ab aj,.vz ag ak,.vz ag an,.int ao,.vz ae ah,.int aq,.vz ae ai,.q ar],.a [.int a1,.int a2,.int a3,.int a4,.int a5,.int anu,.int anv],.a [.int b1,.int b2,.int b3,.int b4,.int b5,.int b6,.int b7]] []) _
 obtain⟨hg,hd⟩:=hp
 refine⟨⟨⟨⟨aa,aa,aa,aa,aa,aa,aa,aa,aa⟩,⟨aa,aa,aa,aa,aa,aa,aa,aa⟩,aa⟩,?_,?_⟩,fun x1 w2=>⟨⟨⟨⟨aa,aa,aa,aa,aa,aa,aa,aa,aa⟩,⟨aa,aa,aa,aa,aa,aa,aa,aa⟩,aa⟩,?_,?_⟩,fun x3 w4=>⟨aa,fun w5=>?_,fun w6=>⟨fun w7=>?_,fun w8=>?_⟩⟩⟩⟩
 all_goals first|refine aw ?_|refine ax ?_|exact a8|(dsimp only [amI,amC,bH,cc];omega)|exact a7|exact hg|exact hd|skip
 ·have e:=anJ (s:=(aj,ak,an,ao,ah,aq,ai,ar)) (a:=(a1,a2,a3,a4,a5,anu,anv)) (b:=(b1,b2,b3,b4,b5,b6,b7)) (.inl (ux w5))
  refine⟨[],[],_,_,_,rfl,az,(),aa,?_,?_,rfl⟩
  ·(show _=anE (aj,ak,an,ao,ah,aq,ai,ar) (a1,a2,a3,a4,a5,anu,anv) (b1,b2,b3,b4,b5,b6,b7));unfold anE;first|(rw [e];rfl)|rfl
  ·rfl
 ·have e:=anJ (s:=(aj,ak,an,ao,ah,aq,ai,ar)) (a:=(a1,a2,a3,a4,a5,anu,anv)) (b:=(b1,b2,b3,b4,b5,b6,b7)) (.inr (ux w7))
  refine⟨[],[],_,_,_,rfl,az,(),aa,?_,?_,rfl⟩
  ·(show _=anE (aj,ak,an,ao,ah,aq,ai,ar) (a1,a2,a3,a4,a5,anu,anv) (b1,b2,b3,b4,b5,b6,b7));unfold anE;first|(rw [e];rfl)|rfl
  ·rfl
 ·have ha:=amE (cM w6)
  have hb:=amE (cM w8)
  have e:=anN (s:=(aj,ak,an,ao,ah,aq,ai,ar)) (a:=(a1,a2,a3,a4,a5,anu,anv)) (b:=(b1,b2,b3,b4,b5,b6,b7)) (cM w6) (cM w8)
  refine l4 (l:=[(15,amI),(23,bH)]) (ex:=zT) (wr:=zF) (pt:=zF) ⟨am6,eP,aa⟩ [.s 3,.s 4,.s 5,.b 1003,.b 1004,.b 1005,.s 8,.s 10,.s 36] (fun y:Nat×Int=>[(.s 37,.int y.1),(.s 12,.int y.2)]) (fun y=>aov (pA (aj,ak,an,ao,ah,aq,ai,ar) (a1,a2,a3,a4,a5,anu,anv)).1 (pA (aj,ak,an,ao,ah,aq,ai,ar) (b1,b2,b3,b4,b5,b6,b7)).1 y.1 y.2) (fun y=>(pA (aj,ak,an,ao,ah,aq,ai,ar) (a1,a2,a3,a4,a5,anu,anv)).1.length-y.1) (0,0) [] (aov.z _ _) dN ?_
  rintro⟨i,n⟩ (hI:aov (pA (aj,ak,an,ao,ah,aq,ai,ar) (a1,a2,a3,a4,a5,anu,anv)).1 (pA (aj,ak,an,ao,ah,aq,ai,ar) (b1,b2,b3,b4,b5,b6,b7)).1 i n)
  have hbd:=hI.aow ha
  have hi:=hI.x
  refine⟨fun w1=>⟨Sq8,Sq40,rfl,Sq13,Sq41,rfl,[.s 40,.s 41],Sq42,rfl,⟨?_,?_⟩,Sq42,Sq43,rfl,Sq10,Sq44,rfl,Sq13,Sq45,rfl,[.s 44,.s 45],Sq46,rfl,⟨?_,?_⟩,Sq46,Sq47,rfl,[.s 43,.s 47],Sq48,rfl,Sq48,Sq49,rfl,aa,fun w2=>⟨[.s 49,.s 8],Sq50,rfl,[.s 49,.s 13],Sq51,rfl,[.s 49,.s 50,.s 51],Sq52,rfl,⟨?_,?_⟩,[.s 49,.s 52],Sq53,rfl,[.s 49,.s 53],Sq54,rfl,⟨⟨⟨aa,aa,aa,aa,aa,aa⟩,aa⟩,aa⟩,?_,fun x3 w4=>⟨[.s 49,.s 54],Sq55,rfl,[.s 49,.s 55],Sq56,rfl,fun w5=>⟨⟨?_,?_⟩,⟨?_,?_⟩,?_⟩,fun w6=>⟨⟨?_,?_⟩,?_⟩⟩⟩,fun w7=>⟨Sq49,Sq50,rfl,Sq49,Sq51,rfl,Sq49,Sq52,rfl,Sq49,Sq53,rfl,Sq49,Sq54,rfl,Sq49,Sq55,rfl,[.s 49,.s 55],Sq56,rfl,⟨?_,?_⟩,?_⟩⟩,fun w8=>?_⟩
  all_goals first|refine aw ?_|refine ax ?_|exact a8|(dsimp only [amI,amC,bH,cc];omega)|exact a7|(unfold gL;omega)|(unfold imax;omega)|exact Int.ofNat_lt.2 (lt_min w1).1|exact Int.ofNat_lt.2 (lt_min w1).2|skip
  ·refine⟨(i+1,n+1),[],?_,?_,?_⟩
   rotate_right
   ·exact bW
   ·exact hI.hit (lt_min w1).1 (lt_min w1).2 w2 w5
   ·exact Nat.sub_succ_lt_self _ _ (lt_min w1).1
  ·refine⟨(i+1,n),[],?_,?_,?_⟩
   rotate_right
   ·exact bW
   ·exact hI.mi (lt_min w1).1 (lt_min w1).2 (.inr w6)
   ·exact Nat.sub_succ_lt_self _ _ (lt_min w1).1
  ·refine⟨(i+1,n),[],?_,?_,?_⟩
   rotate_right
   ·exact bW
   ·exact hI.mi (lt_min w1).1 (lt_min w1).2 (.inl w7)
   ·exact Nat.sub_succ_lt_self _ _ (lt_min w1).1
  ·obtain rfl:=hI.e (aoA w8)
   refine⟨[],[],_,_,_,rfl,az,(),aa,?_,?_,rfl⟩
   ·(show _=anE (aj,ak,an,ao,ah,aq,ai,ar) (a1,a2,a3,a4,a5,anu,anv) (b1,b2,b3,b4,b5,b6,b7));unfold anE;first|(rw [e];rfl)|rfl
   ·rfl
end
end GL
end Go.Proofs.YtkgpljpmdkflmaaGreatDoor
