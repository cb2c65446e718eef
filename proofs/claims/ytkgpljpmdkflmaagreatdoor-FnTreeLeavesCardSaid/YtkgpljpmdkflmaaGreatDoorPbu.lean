/- A drawn law returns true for every code (its row lists package variables, tied by the card): part 47. -/
import Derived.Test.YtkgpljpmdkflmaaGreatDoorPbg
import Derived.Test.YtkgpljpmdkflmaaGreatDoorPbn
import Derived.Test.YtkgpljpmdkflmaaGreatDoorPbr
import Derived.Test.YtkgpljpmdkflmaaGreatDoorPbs
import Derived.Test.YtkgpljpmdkflmaaGreatDoorPbt
set_option maxHeartbeats 20000000
set_option maxRecDepth 100000
set_option linter.all false
namespace Go.Proofs.YtkgpljpmdkflmaaGreatDoor
namespace GL
noncomputable section
def amv (s:ay) (p:Pt):ByteArray×Bool:=bif iJ s&&aZ p then bG s p else (⟨#[]⟩,false)
theorem am5 {s:ay}{p:Pt}(h:iJ s=false):amv s p=(⟨#[]⟩,false):=by unfold amv;rw [h];rfl
theorem am4 {s:ay}{p:Pt}(h:aZ p=false):amv s p=(⟨#[]⟩,false):=by unfold amv;rw [h,ZD7];rfl
theorem amP {s:ay}{p:Pt}(h:iJ s=true) (h2:aZ p=true):amv s p=bG s p:=by unfold amv;rw [h,h2];rfl
def amB (s:ay) (t:bf) (k:Int):ByteArray×Bool:=bif (pA s t).2&&iB k 0 ((pA s t).1.length-1) then bG s (nth ae (pA s t).1 k.toNat) else (⟨#[]⟩,false)
theorem ana {s:ay}{t:bf}{k:Int}(h:(pA s t).2=false):amB s t k=(⟨#[]⟩,false):=by unfold amB;rw [h];rfl
theorem am9 {s:ay}{t:bf}{k:Int}(h:iB k 0 ((pA s t).1.length-1)=false):amB s t k=(⟨#[]⟩,false):=by unfold amB;rw [h,ZD7];rfl
theorem amV {s:ay}{t:bf}{k:Int}(h:(pA s t).2=true) (h2:iB k 0 ((pA s t).1.length-1)=true):amB s t k=bG s (nth ae (pA s t).1 k.toNat):=by unfold amB;rw [h,h2];rfl
theorem amK {s:ay}{many:Int}:∀{l:List Pt}{i:Int},kb s many i l=true→∀p∈l,au p=false→(bG s p).2=true∧p.2.2.2.2=0
 |q::l,i,h,p,hp,hh=>by
  unfold kb at h
  cases hq:au q with
  |true=>
   rw [hq,cond_true] at h
   rcases ZB8.1 hp with rfl |hp
   ·rw [hq] at hh;cases hh
   ·exact amK h p hp hh
  |false=>
   rw [hq,cond_false] at h
   cases hb:rl s many i q with
   |true=>rw [hb] at h;cases h
   |false=>
    rw [hb,cond_false] at h
    rcases ZB8.1 hp with rfl |hp
    ·unfold rl at hb
     simp only [ZE1,decide_eq_false_iff_not,ZE9,Bool.not_eq_false'] at hb
     exact⟨hb.1,hb.2.1⟩
    ·exact amK h p hp hh
theorem amA {s:ay}{t:bf}(h:(pA s t).2=true):(iJ s=true∧((pA s t).1.length:Int)=t.many)∧∀p∈(pA s t).1,(aZ p=true∧p.2.2.2.2=0)∧(bG s p).2=true:=by
 rw [YG] at h
 obtain⟨h1,h2⟩:=Bool.and_eq_true_iff.1 h
 have hb:=Y5 h2
 have hl:(!(bB s t).2)=false:=by
  cases hl: !(bB s t).2 with
  |false=>rfl
  |true=>rw [Y7 hb hl] at h2;cases h2
 have hf:=(Y6 hb hl).symm.trans h2
 have hm:0≤t.many:=by
  have hb':=hb
  unfold lZ at hb'
  exact (cD.1 (cM (ZE1.1 hb').1)).1
 have hk:=adp h2
 rw [K7 h1 h2]
 refine⟨⟨h1,?_⟩,fun p hp=>?_⟩
 ·show ((List.take _ _).length:Int)=_
  rw [ZC0];omega
 ·have hp':p∈(bB s t).1:=ZE6 hp
  have cH:aZ p=true:=H8 (ahq h2) p hp'
  cases hh:au p with
  |false=>exact⟨⟨cH,(amK hf p hp' hh).2⟩,(amK hf p hp' hh).1⟩
  |true=>
   exact⟨⟨cH,XC hh⟩,by rw [fT hh]⟩
theorem amY {s:ay}{t:bf}(h:(iJ s&&qM s t)=false):pA s t=([],false):=by unfold pA;rw [h];rfl
theorem anf {s:ay}{t:bf}(h:(iJ s&&qM s t)=true):pA s t=((bB s t).1.take t.many.toNat,true):=by unfold pA;rw [h];rfl
def amC (S:ay) (t:bf):Prop:=S.gone.length≤1000000∧S.dead.length≤1000000
def amo (S:ay) (t:bf):AV:=.t [.s (.vw ae (pA S t).1),.s (.q (pA S t).2)]
def anh (S:ay) (t:bf):List AV:=[]
def amI:ct where
 A:=[.a xy,.a [.int,.int,.int,.int,.int,.int,.int]]
 B:=[]
 pre:=fun x b=>amC (x.1) (x.2)
 r:=fun x b _=>amo (x.1) (x.2)
 o:=fun x b _=>anh (x.1) (x.2)
theorem am6:Has Tryz.prog 15 amI:=by
 refine Has.al3 zT zF (fun d=>d==17) (l:=[(59,yZ),(60,DG),(61,J4)]) ⟨W4,abJ,adY,aa⟩ Tryz.func15 ?_
 rintro⟨⟨(aj:List ByteArray),(ak:List Int),(an:List Int),(ao:Int),(ah:List Pt),(aq:Int),(ai:List Pt),(ar:Bool)⟩,⟨(t1:Int),(t2:Int),(t3:Int),(t4:Int),(t5:Int),(t6:Int),(t7:Int)⟩⟩ _ (hp:amC (aj,ak,an,ao,ah,aq,ai,ar) (t1,t2,t3,t4,t5,t6,t7))
 show vc _ _ _ _ (entry [.a [.vz ab aj,.vz ag ak,.vz ag an,.int ao,.vz ae ah,.int aq,.vz ae ai,.q ar],.a [.int t1,.int t2,.int t3,.int t4,.int t5,.int t6,.int t7]] []) _
 obtain⟨hg,hd⟩:=hp
 have hk:(!(iJ (aj,ak,an,ao,ah,aq,ai,ar)))=false→KI (aj,ak,an,ao,ah,aq,ai,ar):=fun h=>QK.1 (cM h)
 have dG:(!(iJ (aj,ak,an,ao,ah,aq,ai,ar)))=false→ay.rd (aj,ak,an,ao,ah,aq,ai,ar):=fun h=>(hk h).rd
 have hlen:∀b:Bool,b=qM (aj,ak,an,ao,ah,aq,ai,ar) (t1,t2,t3,t4,t5,t6,t7)→b=true→(bB (aj,ak,an,ao,ah,aq,ai,ar) (t1,t2,t3,t4,t5,t6,t7)).1.length≤16:=fun b h h2=>rk (ahq (h ▸ h2))
 refine⟨⟨⟨⟨aa,aa,aa,aa,aa,aa,aa,aa,aa⟩,aa⟩,?_,?_⟩,fun x1 w2=>⟨fun w3=>?_,fun w4=>⟨⟨⟨aa,⟨aa,aa,aa,aa,aa,aa,aa,aa⟩,aa⟩,?_,?_⟩,fun |false=>fun w5=>⟨⟨⟨aa,aa⟩,?_⟩,fun |false=>fun w6=>?_ |true=>fun w7=>?_⟩ |true=>fun w8=>⟨⟨⟨?_,aa⟩,?_⟩,fun |false=>fun w9=>?_ |true=>fun dy=>?_⟩⟩⟩⟩
 all_goals first|refine aw ?_|refine ax ?_|exact a8|(dsimp only [yZ,tn,DG,vk,J4,yn];omega)|exact a7|exact hg|exact hd|exact dG w4|(show 0≤ao;have h:1≤ao∧ao≤900:=(hk w4).cj;omega)|exact ZA7 _|(show 0+t7.toNat≤_;rw [ZA6];exact adp (s:=(aj,ak,an,ao,ah,aq,ai,ar)) (t:=(t1,t2,t3,t4,t5,t6,t7)) (show true=qM (aj,ak,an,ao,ah,aq,ai,ar) (t1,t2,t3,t4,t5,t6,t7) from w8).symm)|(show (List.take _ _).length≤1000000;have:=hlen true w8 rfl;rw [ZC0];exact ZB0 (Nat.min_le_right _ _) (ZB0 this (by decide)))|skip
 ·have e:=aaC (s:=(aj,ak,an,ao,ah,aq,ai,ar)) (t:=(t1,t2,t3,t4,t5,t6,t7)) (ux w3)
  refine⟨[],[],_,_,_,rfl,cg,(),0,trivial,by show Wk (amo (aj,ak,an,ao,ah,aq,ai,ar) (t1,t2,t3,t4,t5,t6,t7)) _;unfold amo;rw [e];exact Wk.tup ⟨Wk.nil _,Wk.refl _,trivial⟩,rfl,rfl⟩
 ·have e:=K8 (s:=(aj,ak,an,ao,ah,aq,ai,ar)) (t:=(t1,t2,t3,t4,t5,t6,t7)) (show false=qM (aj,ak,an,ao,ah,aq,ai,ar) (t1,t2,t3,t4,t5,t6,t7) from w5).symm
  refine⟨[],[],_,_,_,rfl,cg,(),0,trivial,by show Wk (amo (aj,ak,an,ao,ah,aq,ai,ar) (t1,t2,t3,t4,t5,t6,t7)) _;unfold amo;rw [e];exact Wk.refl _,rfl,rfl⟩
 ·have e:=K8 (s:=(aj,ak,an,ao,ah,aq,ai,ar)) (t:=(t1,t2,t3,t4,t5,t6,t7)) (show false=qM (aj,ak,an,ao,ah,aq,ai,ar) (t1,t2,t3,t4,t5,t6,t7) from w5).symm
  refine⟨[],[],_,_,_,rfl,cg,(),0,trivial,by show Wk (amo (aj,ak,an,ao,ah,aq,ai,ar) (t1,t2,t3,t4,t5,t6,t7)) _;unfold amo;rw [e];exact Wk.tup ⟨Wk.nil _,Wk.refl _,trivial⟩,rfl,rfl⟩
 ·have e:=K7 (s:=(aj,ak,an,ao,ah,aq,ai,ar)) (t:=(t1,t2,t3,t4,t5,t6,t7)) (cM w4) (show true=qM (aj,ak,an,ao,ah,aq,ai,ar) (t1,t2,t3,t4,t5,t6,t7) from w8).symm
  refine⟨[],[],_,_,_,rfl,cg,(),0,trivial,by show Wk (amo (aj,ak,an,ao,ah,aq,ai,ar) (t1,t2,t3,t4,t5,t6,t7)) _;unfold amo;rw [e];exact Wk.of_eq (congrArg (fun l=>AV.t [.s (.vw ae l),.s (.q true)]) (ZD1 (ZB5 _)).symm),rfl,rfl⟩
 ·have e:=K7 (s:=(aj,ak,an,ao,ah,aq,ai,ar)) (t:=(t1,t2,t3,t4,t5,t6,t7)) (cM w4) (show true=qM (aj,ak,an,ao,ah,aq,ai,ar) (t1,t2,t3,t4,t5,t6,t7) from w8).symm
  have e2:(pA (aj,ak,an,ao,ah,aq,ai,ar) (t1,t2,t3,t4,t5,t6,t7)).1=[]:=by rw [e];exact dy rfl
  have e3:(pA (aj,ak,an,ao,ah,aq,ai,ar) (t1,t2,t3,t4,t5,t6,t7)).2=true:=by rw [e]
  refine⟨[],[],_,_,_,rfl,cg,(),0,trivial,by show Wk (amo (aj,ak,an,ao,ah,aq,ai,ar) (t1,t2,t3,t4,t5,t6,t7)) _;unfold amo;rw [e2,e3];exact Wk.tup ⟨Wk.nil _,Wk.refl _,trivial⟩,rfl,rfl⟩
theorem amW {s:ay}{t:bf}(h:qM s t=true):(0≤t.many∧t.many≤16)∧t.many.toNat≤(bB s t).1.length:=by
 have hb:=Y5 h
 unfold lZ at hb
 exact⟨cD.1 (cM (ZE1.1 hb).1),adp h⟩
theorem amE {s:ay}{t:bf}(h:(pA s t).2=true):(pA s t).1.length≤16:=by
 have h1:=(amA h).1.2
 rw [YG] at h
 have h2:=(amW (Bool.and_eq_true_iff.1 h).2).1.2
 omega
def amr (S:ay) (t:bf):Prop:=S.gone.length≤1000000∧S.dead.length≤1000000
def amp (S:ay) (t:bf):AV:=.t [.s (.vw ae (pA S t).1),.s (.q (pA S t).2)]
def amU (S:ay) (t:bf):List AV:=[]
def amt:ct where
 A:=[.a xy,.a [.int,.int,.int,.int,.int,.int,.int]]
 B:=[]
 pre:=fun x b=>amr (x.1) (x.2)
 r:=fun x b _=>amp (x.1) (x.2)
 o:=fun x b _=>amU (x.1) (x.2)
theorem amM:Has Tryz.prog 16 amt:=by
 refine Has.fu zT zF (fun d=>d==24) (l:=[(62,afd),(63,kS)]) ⟨ai1,yG,aa⟩ Tryz.func16 ?_
 rintro⟨⟨(aj:List ByteArray),(ak:List Int),(an:List Int),(ao:Int),(ah:List Pt),(aq:Int),(ai:List Pt),(ar:Bool)⟩,⟨(t1:Int),(t2:Int),(t3:Int),(t4:Int),(t5:Int),(t6:Int),(t7:Int)⟩⟩ _ (hp:amr (aj,ak,an,ao,ah,aq,ai,ar) (t1,t2,t3,t4,t5,t6,t7))
 show vc _ _ _ _ (entry [.a [.vz ab aj,.vz ag ak,.vz ag an,.int ao,.vz ae ah,.int aq,.vz ae ai,.q ar],.a [.int t1,.int t2,.int t3,.int t4,.int t5,.int t6,.int t7]] []) _
 obtain⟨hg,hd⟩:=hp
 have hk:(!(iJ (aj,ak,an,ao,ah,aq,ai,ar)&&qM (aj,ak,an,ao,ah,aq,ai,ar) (t1,t2,t3,t4,t5,t6,t7)))=false→KI (aj,ak,an,ao,ah,aq,ai,ar)∧qM (aj,ak,an,ao,ah,aq,ai,ar) (t1,t2,t3,t4,t5,t6,t7)=true:=fun h=>⟨QK.1 (Bool.and_eq_true_iff.1 (cM h)).1,(Bool.and_eq_true_iff.1 (cM h)).2⟩
 refine⟨⟨⟨⟨aa,aa,aa,aa,aa,aa,aa,aa,aa⟩,⟨aa,aa,aa,aa,aa,aa,aa,aa⟩,aa⟩,?_,?_⟩,fun x1 w2=>⟨fun w3=>⟨aa,?_⟩,fun w4=>⟨⟨⟨⟨aa,aa,aa,aa,aa,aa,aa,aa,aa⟩,⟨aa,aa,aa,aa,aa,aa,aa,aa⟩,aa⟩,?_,?_⟩,fun x5 w6=>⟨aa,⟨?_,?_,?_⟩,⟨⟨?_,?_⟩,?_⟩,?_⟩⟩⟩⟩
 all_goals first|refine aw ?_|refine ax ?_|exact a8|(dsimp only [afd,G7,kS,lP];omega)|exact a7|exact hg|exact hd|exact (hk w4).1.rd|exact (ahq (hk w4).2).dep|exact (amW (hk w4).2).1.1|(show t7≤((bB (aj,ak,an,ao,ah,aq,ai,ar) (t1,t2,t3,t4,t5,t6,t7)).1.length:Int);have h:0≤t7:=(amW (hk w4).2).1.1;have h2:t7.toNat≤(bB (aj,ak,an,ao,ah,aq,ai,ar) (t1,t2,t3,t4,t5,t6,t7)).1.length:=(amW (hk w4).2).2;omega)|(show 0+(List.take t7.toNat (bB (aj,ak,an,ao,ah,aq,ai,ar) (t1,t2,t3,t4,t5,t6,t7)).1).length≤1048576;rw [ZC0];have h:t7≤16:=(amW (hk w4).2).1.2;omega)|(show 0+0+t7.toNat≤(bB (aj,ak,an,ao,ah,aq,ai,ar) (t1,t2,t3,t4,t5,t6,t7)).1.length;have h2:t7.toNat≤(bB (aj,ak,an,ao,ah,aq,ai,ar) (t1,t2,t3,t4,t5,t6,t7)).1.length:=(amW (hk w4).2).2;omega)|skip
 ·refine⟨[],[],_,_,_,rfl,cg,(),aa,?_,?_,rfl⟩
  ·(show _=amp (aj,ak,an,ao,ah,aq,ai,ar) (t1,t2,t3,t4,t5,t6,t7));unfold amp;first|(rw [amY (s:=(aj,ak,an,ao,ah,aq,ai,ar)) (t:=(t1,t2,t3,t4,t5,t6,t7)) (xq w3)];rfl)|rfl
  ·rfl
 ·have e:=anf (s:=(aj,ak,an,ao,ah,aq,ai,ar)) (t:=(t1,t2,t3,t4,t5,t6,t7)) (cM w4)
  refine⟨[],[],_,_,_,rfl,cg,(),aa,?_,?_,rfl⟩
  ·(show _=amp (aj,ak,an,ao,ah,aq,ai,ar) (t1,t2,t3,t4,t5,t6,t7));unfold amp;first|(rw [e];exact congrArg (fun l=>AV.t [.s (.vw ae l),.s (.q true)]) (ZD1 (ZA8 (ZA6 _).symm)))|rfl
  ·rfl
def amq (S:ay) (p:Pt):Prop:=S.gone.length≤1000000∧S.dead.length≤1000000
def amk (S:ay) (p:Pt):AV:=.t [.s (.str (amv S p).1),.s (.q (amv S p).2)]
def amT (S:ay) (p:Pt):List AV:=[]
def ams:ct where
 A:=[.a xy,.a [.int,.int,.int,.int,.int]]
 B:=[]
 pre:=fun x b=>amq (x.1) (x.2)
 r:=fun x b _=>amk (x.1) (x.2)
 o:=fun x b _=>amT (x.1) (x.2)
theorem amL:Has Tryz.prog 18 ams:=by
 refine Has.zC zT zF zF (l:=[(59,yZ),(64,cC),(65,kH)]) ⟨W4,jv,zK,aa⟩ Tryz.func18 ?_
 rintro⟨⟨(aj:List ByteArray),(ak:List Int),(an:List Int),(ao:Int),(ah:List Pt),(aq:Int),(ai:List Pt),(ar:Bool)⟩,⟨(p1:Int),(p2:Int),(p3:Int),(p4:Int),(p5:Int)⟩⟩ _ (hp:amq (aj,ak,an,ao,ah,aq,ai,ar) (p1,p2,p3,p4,p5))
 show vc _ _ _ _ (entry [.a [.vz ab aj,.vz ag ak,.vz ag an,.int ao,.vz ae ah,.int aq,.vz ae ai,.q ar],.a [.int p1,.int p2,.int p3,.int p4,.int p5]] []) _
 obtain⟨hg,hd⟩:=hp
 have hk:(!(iJ (aj,ak,an,ao,ah,aq,ai,ar)))=false→KI (aj,ak,an,ao,ah,aq,ai,ar):=fun h=>QK.1 (cM h)
 refine⟨⟨⟨⟨aa,aa,aa,aa,aa,aa,aa,aa,aa⟩,aa⟩,?_,?_⟩,fun x1 w2=>⟨aa,fun w3=>?_,fun w4=>⟨⟨⟨⟨aa,aa,aa,aa,aa,aa⟩,aa⟩,aa⟩,fun x5 w6=>⟨fun w7=>?_,fun w8=>⟨⟨⟨aa,⟨aa,aa,aa,aa,aa,aa⟩,aa⟩,fun x9 dy=>?_,?_,?_⟩,fun kB dK=>?_⟩⟩⟩⟩⟩
 all_goals first|refine aw ?_|refine ax ?_|exact a8|(dsimp only [yZ,tn,cC,cS,kH,lg];omega)|exact a7|exact hg|exact hd|exact (hk w4).rd.sz _ dy|exact (hk w4).len|exact cM w8|skip
 ·have e:=am5 (s:=(aj,ak,an,ao,ah,aq,ai,ar)) (p:=(p1,p2,p3,p4,p5)) (ux w3)
  refine⟨[],[],_,_,_,rfl,az,(),aa,?_,?_,rfl⟩
  ·(show _=amk (aj,ak,an,ao,ah,aq,ai,ar) (p1,p2,p3,p4,p5));unfold amk;first|(rw [e];rfl)|rfl
  ·rfl
 ·have e:=am4 (s:=(aj,ak,an,ao,ah,aq,ai,ar)) (p:=(p1,p2,p3,p4,p5)) (ux w7)
  refine⟨[],[],_,_,_,rfl,az,(),aa,?_,?_,rfl⟩
  ·(show _=amk (aj,ak,an,ao,ah,aq,ai,ar) (p1,p2,p3,p4,p5));unfold amk;first|(rw [e];rfl)|rfl
  ·rfl
 ·have e:=amP (s:=(aj,ak,an,ao,ah,aq,ai,ar)) (p:=(p1,p2,p3,p4,p5)) (cM w4) (cM w8)
  refine⟨[],[],_,_,_,rfl,az,(),aa,?_,?_,rfl⟩
  ·(show _=amk (aj,ak,an,ao,ah,aq,ai,ar) (p1,p2,p3,p4,p5));unfold amk;first|(rw [e];rfl)|rfl
  ·rfl
def amu (S:ay) (t:bf) (k:Int):Prop:=S.gone.length≤1000000∧S.dead.length≤1000000
def amm (S:ay) (t:bf) (k:Int):AV:=.t [.s (.str (amB S t k).1),.s (.q (amB S t k).2)]
def am0 (S:ay) (t:bf) (k:Int):List AV:=[]
def amw:ct where
 A:=[.a xy,.a [.int,.int,.int,.int,.int,.int,.int],.s .int]
 B:=[]
 pre:=fun x b=>amu (x.1) (x.2.1) (x.2.2)
 r:=fun x b _=>amm (x.1) (x.2.1) (x.2.2)
 o:=fun x b _=>am0 (x.1) (x.2.1) (x.2.2)
theorem amQ:Has Tryz.prog 19 amw:=by
 refine Has.zC zT zF zF (l:=[(15,amI),(66,cB),(65,kH)]) ⟨am6,gn,zK,aa⟩ Tryz.func19 ?_
 rintro⟨⟨(aj:List ByteArray),(ak:List Int),(an:List Int),(ao:Int),(ah:List Pt),(aq:Int),(ai:List Pt),(ar:Bool)⟩,⟨(t1:Int),(t2:Int),(t3:Int),(t4:Int),(t5:Int),(t6:Int),(t7:Int)⟩,(k:Int)⟩ _ (hp:amu (aj,ak,an,ao,ah,aq,ai,ar) (t1,t2,t3,t4,t5,t6,t7) k)
 show vc _ _ _ _ (entry [.a [.vz ab aj,.vz ag ak,.vz ag an,.int ao,.vz ae ah,.int aq,.vz ae ai,.q ar],.a [.int t1,.int t2,.int t3,.int t4,.int t5,.int t6,.int t7],.int k] []) _
 obtain⟨hg,hd⟩:=hp
 have hk:(!((pA (aj,ak,an,ao,ah,aq,ai,ar) (t1,t2,t3,t4,t5,t6,t7)).2))=false→KI (aj,ak,an,ao,ah,aq,ai,ar):=fun h=>QK.1 (amA (cM h)).1.1
 have hi:(!(iB k 0 (((pA (aj,ak,an,ao,ah,aq,ai,ar) (t1,t2,t3,t4,t5,t6,t7)).1.length:Int)-1)))=false→0≤k∧k<((pA (aj,ak,an,ao,ah,aq,ai,ar) (t1,t2,t3,t4,t5,t6,t7)).1.length:Int):=fun h=>by have:=cD.1 (cM h);omega
 have hn:(!((pA (aj,ak,an,ao,ah,aq,ai,ar) (t1,t2,t3,t4,t5,t6,t7)).2))=false→(!(iB k 0 (((pA (aj,ak,an,ao,ah,aq,ai,ar) (t1,t2,t3,t4,t5,t6,t7)).1.length:Int)-1)))=false→aZ (nth ae (pA (aj,ak,an,ao,ah,aq,ai,ar) (t1,t2,t3,t4,t5,t6,t7)).1 k.toNat)=true:=fun h1 h2=>((amA (cM h1)).2 _ (bS (ek:=ae) (show k.toNat<(pA (aj,ak,an,ao,ah,aq,ai,ar) (t1,t2,t3,t4,t5,t6,t7)).1.length by have:=hi h2;omega))).1.1
 refine⟨⟨⟨⟨aa,aa,aa,aa,aa,aa,aa,aa,aa⟩,⟨aa,aa,aa,aa,aa,aa,aa,aa⟩,aa⟩,?_,?_⟩,fun x1 w2=>⟨aa,fun w3=>?_,fun w4=>⟨⟨?_,?_⟩,⟨⟨aa,aa,aa,aa⟩,aa⟩,fun x5 w6=>⟨fun w7=>?_,fun w8=>⟨⟨?_,?_⟩,⟨⟨aa,⟨aa,aa,aa,aa,aa,aa⟩,aa⟩,fun x9 dy=>?_,?_,?_⟩,fun kB dK=>?_⟩⟩⟩⟩⟩
 all_goals first|refine aw ?_|refine ax ?_|exact a8|(dsimp only [amI,amC,cB,dq,kH,lg];omega)|exact a7|exact hg|exact hd|(have h:=amE (cM w4);simp only [gL,imax];omega)|(have h:=amE (s:=(aj,ak,an,ao,ah,aq,ai,ar)) (t:=(t1,t2,t3,t4,t5,t6,t7)) (cM w4);show -9223372036854775808≤(((pA (aj,ak,an,ao,ah,aq,ai,ar) (t1,t2,t3,t4,t5,t6,t7)).1.length:Int)-1);omega)|(have h:=amE (s:=(aj,ak,an,ao,ah,aq,ai,ar)) (t:=(t1,t2,t3,t4,t5,t6,t7)) (cM w4);show (((pA (aj,ak,an,ao,ah,aq,ai,ar) (t1,t2,t3,t4,t5,t6,t7)).1.length:Int)-1)≤9223372036854775807;omega)|exact (hi w8).1|exact (hi w8).2|exact (hk w4).rd.sz _ dy|exact (hk w4).len|exact hn w4 w8|skip
 ·have e:=ana (s:=(aj,ak,an,ao,ah,aq,ai,ar)) (t:=(t1,t2,t3,t4,t5,t6,t7)) (k:=k) (ux w3)
  refine⟨[],[],_,_,_,rfl,az,(),aa,?_,?_,rfl⟩
  ·(show _=amm (aj,ak,an,ao,ah,aq,ai,ar) (t1,t2,t3,t4,t5,t6,t7) k);unfold amm;first|(rw [e];rfl)|rfl
  ·rfl
 ·have e:=am9 (s:=(aj,ak,an,ao,ah,aq,ai,ar)) (t:=(t1,t2,t3,t4,t5,t6,t7)) (k:=k) (ux w7)
  refine⟨[],[],_,_,_,rfl,az,(),aa,?_,?_,rfl⟩
  ·(show _=amm (aj,ak,an,ao,ah,aq,ai,ar) (t1,t2,t3,t4,t5,t6,t7) k);unfold amm;first|(rw [e];rfl)|rfl
  ·rfl
 ·have e:=amV (s:=(aj,ak,an,ao,ah,aq,ai,ar)) (t:=(t1,t2,t3,t4,t5,t6,t7)) (k:=k) (cM w4) (cM w8)
  refine⟨[],[],_,_,_,rfl,az,(),aa,?_,?_,rfl⟩
  ·(show _=amm (aj,ak,an,ao,ah,aq,ai,ar) (t1,t2,t3,t4,t5,t6,t7) k);unfold amm;first|(rw [e];rfl)|rfl
  ·rfl
def amz (a:List Pt) (b:List Pt):Prop:=a=b∧a.length≤1000000
def amF (a:List Pt) (b:List Pt):AV:=.s (.q true)
def anb (a:List Pt) (b:List Pt):List AV:=[]
def amD:ct where
 A:=[.s (.vz ae),.s (.vz ae)]
 B:=[]
 pre:=fun x b=>amz (x.1) (x.2)
 r:=fun x b _=>amF (x.1) (x.2)
 o:=fun x b _=>anb (x.1) (x.2)
theorem am1:Has Tryz.prog 17 amD:=by
 refine Has.fu zT zF zF (l:=[]) trivial Tryz.func17 ?_
 rintro⟨(a:List Pt),(b:List Pt)⟩ _ (hp:amz a b)
 show vc _ _ _ _ (entry [.s (.vz ae a),.s (.vz ae b)] []) _
 obtain⟨(he:a=b),(hl:a.length≤1000000)⟩:=hp
 have hll:a.length=b.length:=congrArg List.length he
 refine⟨fun w1=>?_,fun w2=>?_⟩
 all_goals first|refine aw ?_|refine ax ?_|exact a8|exact a7|skip
 ·exact absurd (congrArg (Nat.cast:Nat→Int) hll) (aJ w1)
 ·refine cO (l:=[]) (ex:=zT) (wr:=zF) (pt:=zF) trivial [.s 0,.s 1] (fun i:Nat=>[(.s 5,.int i)]) (fun i=>i≤a.length) (fun i=>a.length-i) 0 [] (ZA7 _) dN ?_
  rintro i (hi:i≤a.length)
  have cq:decide ((i:Int)<(a.length:Int))=true→i<a.length:=fun h=>by have:=aJ h;omega
  refine⟨fun w1=>⟨Sq0,Sq17,rfl,Sq5,Sq18,rfl,[.s 17,.s 18],Sq19,rfl,⟨?_,?_⟩,Sq19,Sq20,rfl,Sq1,Sq21,rfl,Sq5,Sq22,rfl,[.s 21,.s 22],Sq23,rfl,⟨?_,?_⟩,Sq23,Sq24,rfl,[.s 20,.s 24],Sq25,rfl,fun w2=>?_,fun w3=>⟨⟨?_,?_⟩,?_⟩⟩,fun w4=>?_⟩
  all_goals first|refine aw ?_|refine ax ?_|exact a8|exact a7|exact cq w1|(have h:=cq w1;show ((i:Int))<(b.length:Int);omega)|skip
  ·subst he;simp at w2
  ·refine⟨(i+1),[],?_,?_,?_⟩
   rotate_right
   ·exact bW
   ·show i+1≤a.length;have:=cq w1;omega
   ·show a.length-(i+1)<a.length-i;have:=cq w1;omega
  ·refine⟨[],[],_,_,_,rfl,az,(),aa,?_,?_,rfl⟩
   ·(show _=amF a b);unfold amF;first|rfl
   ·rfl
end
end GL
namespace GL
noncomputable section
structure anp (l:List Int):Prop where
 jL:∀b∈l,0≤b∧b≤255
def amn (c:List Int):Prop:=aj5 c
def amH (c:List Int) (z:ay×bf):Prop:=z.1.gone.length≤20001∧z.1.dead.length≤20001
def amG (c:List Int) (z:ay×bf):AV:=.t [.a [.vw ab z.1.rows,.vw ag z.1.refs,.vw ag z.1.last,.int z.1.cj,.vw ae z.1.gone,.int z.1.ca,.vw ae z.1.dead,.q z.1.same],trA z.2]
def amJ (c:List Int) (z:ay×bf):List AV:=[]
def aml:ct where
 A:=[.s (.vw mj)]
 B:=[]
 pre:=fun x b=>amn x
 α:=fun _ _=>ay×bf
 φ:=fun x b z=>amH x z
 r:=fun x b z=>amG x z
 o:=fun x b z=>amJ x z
theorem amy:Has Tryz.prog 14 aml:=by
 refine Has.fu zT zF zF (l:=[(57,afc),(58,ab5)]) ⟨ai0,air,aa⟩ Tryz.func14 ?_
 rintro (c:List Int) _ (hp:amn c)
 show vc _ _ _ _ (entry [.s (.vw mj c)] []) _
 have hb:aj5 c:=hp
 refine⟨⟨⟨aa,aa⟩,?_⟩,fun x1 w2=>⟨⟨⟨aa,aa⟩,?_⟩,fun x3 w4=>⟨[.s 5,.b 1005],Sq14,rfl,[.s 6,.b 1006],Sq15,rfl,[.s 2,.s 14,.b 1002],[.b 1002],rfl,[.s 3,.s 15,.b 1003],[.b 1003],rfl,?_⟩⟩⟩
 all_goals first|refine aw ?_|refine ax ?_|exact a8|(dsimp only [afc,G6,ab5,DU];omega)|exact a7|exact hb|exact Rdr.at (show Rdr (x1,0) 0 from w2) (ZC1 _) (by decide)|(show x3.2.2.1+(x3.1.rows.length-x3.2.2.1)≤x3.1.rows.length;have h:x3.2.2.1≤x3.1.rows.length:=w4.2.2;omega)|skip
 ·have hg:x3.1.gone.length≤20001:=w4.1.1
  have hd:x3.1.dead.length≤20001:=w4.1.2
  have ho:x3.2.2.1+(x3.1.rows.length-x3.2.2.1)≤x3.1.rows.length:=by have h:x3.2.2.1≤x3.1.rows.length:=w4.2.2;omega
  refine⟨[],[],_,_,_,rfl,(by repeat' (first|exact trivial|apply And.intro|exact ZA8 (ZA6 _)|assumption|(simp only [ZA2,ZA3,dC,lA,ZA0,ZA1,ZA4];omega))),(((List.drop x3.2.2.1 x3.1.rows).take (x3.1.rows.length-x3.2.2.1),(List.drop 0 x3.1.refs).take (List.length x3.1.refs),(List.drop 0 x3.1.last).take (List.length x3.1.last),x3.1.cj,(List.drop 0 x3.1.gone).take (List.length x3.1.gone),x3.1.ca,(List.drop 0 x3.1.dead).take (List.length x3.1.dead),x3.1.same),x3.2.1),⟨by show (((List.drop 0 x3.1.gone).take (List.length x3.1.gone)).length)≤20001;rw [ZC0];exact ZB0 (Nat.min_le_left _ _) hg,by show (((List.drop 0 x3.1.dead).take (List.length x3.1.dead)).length)≤20001;rw [ZC0];exact ZB0 (Nat.min_le_left _ _) hd⟩,rfl,rfl,rfl⟩
theorem am3 {s:ay}{t:bf}(h:(pA s t).2=true) {k:Nat}(hk:k<(pA s t).1.length):amv s (nth ae (pA s t).1 k)=bG s (nth ae (pA s t).1 k)∧(bG s (nth ae (pA s t).1 k)).2=true∧(nth ae (pA s t).1 k).2.2.2.2=0:=by
 have h1:=amA h
 have h2:=h1.2 _ (bS (ek:=ae) hk)
 exact⟨amP h1.1.1 h2.1.1,h2.2,h2.1.2⟩
theorem am8 {s:ay}{t:bf}(h:(pA s t).2=true) {k:Nat}(hk:k<(pA s t).1.length):amB s t (k:Int)=bG s (nth ae (pA s t).1 k):=
 amV h (cD.2 (by omega))
theorem amZ (s:ay) (t:bf):(pA s t).1.length≤1000000:=by
 cases h:(pA s t).2 with
 |true=>exact ZB0 (amE h) (by decide)
 |false=>
  rw [YG] at h
  rw [amY h];exact ZA7 _
def amx (c:List Int):Prop:=anp c
def amj (c:List Int):AV:=.s (.q true)
def amO (c:List Int):List AV:=[]
def amS:ct where
 A:=[.s (.vw mj)]
 B:=[]
 pre:=fun x b=>amx x
 r:=fun x b _=>amj x
 o:=fun x b _=>amO x
theorem amR:Has Tryz.prog 3 amS:=by
 refine Has.zC zT zF zF (l:=[(14,aml),(15,amI),(16,amt),(17,amD),(18,ams),(19,amw)]) ⟨amy,am6,amM,am1,amL,amQ,aa⟩ Tryz.func3 ?_
 rintro (c:List Int) _ (hp:amx c)
 show vc _ _ _ _ (entry [.s (.vw mj c)] []) _
 have hb:anp c:=hp
 refine⟨fun w1=>?_,fun w2=>⟨⟨⟨aa,aa⟩,?_⟩,fun x3 w4=>⟨⟨⟨⟨aa,aa,aa,aa,aa,aa,aa,aa,aa⟩,⟨aa,aa,aa,aa,aa,aa,aa,aa⟩,aa⟩,?_,?_⟩,fun x5 w6=>⟨⟨⟨⟨aa,aa,aa,aa,aa,aa,aa,aa,aa⟩,⟨aa,aa,aa,aa,aa,aa,aa,aa⟩,aa⟩,?_,?_⟩,fun x7 w8=>⟨⟨⟨aa,aa,aa⟩,?_,?_⟩,fun x9 dy=>⟨aa,fun kC=>⟨aa,fun dK=>?_,fun iV=>⟨fun gP=>?_,fun qN=>?_⟩⟩,fun ki=>⟨aa,fun xk=>?_,fun rV=>⟨fun oN=>?_,fun uL=>?_⟩⟩⟩⟩⟩⟩⟩⟩
 all_goals first|refine aw ?_|refine ax ?_|exact a8|(dsimp only [aml,amn,amI,amC,amt,amr,amD,amz,ams,amq,amw,amu];omega)|exact a7|exact ZB0 (show x3.1.gone.length≤20001 from w4.1) (by decide)|exact ZB0 (show x3.1.dead.length≤20001 from w4.2) (by decide)|skip
 ·refine⟨[],[],_,_,_,rfl,az,(),aa,?_,?_,rfl⟩
  ·(show _=amj c);unfold amj;first|rfl
  ·rfl
 ·have h:=aA (p:=(c.length:Int)>1048576) w2
  exact (aj5.mk (l:=c) (by omega) hb.jL)
 ·exact amZ x3.1 x3.2
 ·exact absurd (show (!((pA x3.1 x3.2).2==(pA x3.1 x3.2).2))=true from dK) (by simp)
 ·refine⟨[],[],_,_,_,rfl,az,(),aa,?_,?_,rfl⟩
  ·show AV.q _=amj c;unfold amj;refine congrArg AV.q ?_;simp
  ·rfl
 ·have cH:(pA x3.1 x3.2).2=true:=cM qN
  refine l4 (l:=[(14,aml),(15,amI),(16,amt),(17,amD),(18,ams),(19,amw)]) (ex:=zT) (wr:=zF) (pt:=zF) ⟨amy,am6,amM,am1,amL,amQ,aa⟩ [.s 3,.s 4,.b 1003,.b 1004,.s 5] (fun k:Nat=>[(.s 10,.int k)]) (fun k=>k≤(pA x3.1 x3.2).1.length) (fun k=>(pA x3.1 x3.2).1.length-k) 0 [] (ZA7 _) dN ?_
  rintro k (hk:k≤(pA x3.1 x3.2).1.length)
  have cq:decide ((k:Int)<((pA x3.1 x3.2).1.length:Int))=true→k<(pA x3.1 x3.2).1.length:=fun h=>by have:=aJ h;omega
  have hs:=fun h:k<(pA x3.1 x3.2).1.length=>am3 cH h
  have hgt:=fun h:k<(pA x3.1 x3.2).1.length=>am8 cH h
  refine⟨fun w1=>⟨[.s 3,.b 1003],Sq57,rfl,Sq5,Sq58,rfl,Sq10,Sq59,rfl,[.s 58,.s 59],Sq60,rfl,⟨?_,?_⟩,Sq60,Sq61,rfl,[.s 57,.s 61],Sq62,rfl,⟨⟨⟨aa,aa,aa,aa,aa,aa,aa,aa,aa⟩,⟨aa,aa,aa,aa,aa,aa⟩,aa⟩,?_,?_⟩,?_,fun x2 w3=>⟨Sq62,Sq56,rfl,Sq56,Sq63,rfl,Sq56,Sq64,rfl,Sq63,Sq11,rfl,Sq64,Sq12,rfl,⟨⟨⟨aa,aa,aa,aa,aa,aa,aa,aa,aa⟩,⟨aa,aa,aa,aa,aa,aa,aa,aa⟩,aa,aa⟩,?_,?_⟩,fun x4 w5=>⟨aa,fun w6=>?_,fun w7=>⟨aa,fun w8=>?_,fun w9=>⟨aa,fun dy=>?_,fun kC=>⟨⟨?_,?_⟩,fun dK=>?_,fun iV=>⟨⟨?_,?_⟩,?_⟩⟩⟩⟩⟩⟩⟩,fun gP=>?_⟩
  all_goals first|refine aw ?_|refine ax ?_|exact a8|(dsimp only [aml,amn,amI,amC,amt,amr,amD,amz,ams,amq,amw,amu];omega)|exact a7|(unfold imax;have h:=cq w1;have h2:=amZ x3.1 x3.2;omega)|exact ZB0 (show x3.1.gone.length≤20001 from w4.1) (by decide)|exact ZB0 (show x3.1.dead.length≤20001 from w4.2) (by decide)|(show (k:Int)<((pA x3.1 x3.2).1.length:Int);have:=cq w1;omega)|skip
  ·exact absurd (show (!(amv x3.1 (nth ae (pA x3.1 x3.2).1 k)).2)=true from w6) (by rw [(hs (cq w1)).1,(hs (cq w1)).2.1];decide)
  ·exact absurd (show (!(amB x3.1 x3.2 (k:Int)).2)=true from w8) (by rw [hgt (cq w1),(hs (cq w1)).2.1];decide)
  ·exact absurd (show decide ((amv x3.1 (nth ae (pA x3.1 x3.2).1 k)).1≠(amB x3.1 x3.2 (k:Int)).1)=true from dy) (by rw [(hs (cq w1)).1,hgt (cq w1)];simp)
  ·exact absurd (show decide ((nth ae (pA x3.1 x3.2).1 k).2.2.2.2≠0)=true from dK) (by rw [(hs (cq w1)).2.2];decide)
  ·refine⟨(k+1),[],?_,?_,?_⟩
   rotate_right
   ·exact bW
   ·show k+1≤(pA x3.1 x3.2).1.length;have:=cq w1;omega
   ·show (pA x3.1 x3.2).1.length-(k+1)<(pA x3.1 x3.2).1.length-k;have:=cq w1;omega
  ·refine⟨[],[],_,_,_,rfl,az,(),aa,?_,?_,rfl⟩
   ·show AV.q _=amj c;unfold amj;refine congrArg AV.q ?_;exact decide_eq_true (amA cH).1.2
   ·rfl
 ·exact absurd ki (by decide)
 ·exact absurd ki (by decide)
 ·exact absurd ki (by decide)
end
end GL
end Go.Proofs.YtkgpljpmdkflmaaGreatDoor
