/- A drawn law returns true for every code (its row lists package variables, tied by the card): part 47. -/
import Derived.Test.YtclcgjhhehbdeaaGreatDoorPaw
import Derived.Test.YtclcgjhhehbdeaaGreatDoorPbc
import Derived.Test.YtclcgjhhehbdeaaGreatDoorPbi
import Derived.Test.YtclcgjhhehbdeaaGreatDoorPbn
import Derived.Test.YtclcgjhhehbdeaaGreatDoorPbr
import Derived.Test.YtclcgjhhehbdeaaGreatDoorPbs
set_option maxHeartbeats 20000000
set_option maxRecDepth 100000
set_option linter.all false
namespace Go.Proofs.YtclcgjhhehbdeaaGreatDoor
namespace GL
noncomputable section
def am6 (s:ay) (p:Pt):ByteArray×Bool:=bif iG s&&aZ p then bF s p else (⟨#[]⟩,false)
theorem aok {s:ay}{p:Pt}(h:iG s=false):am6 s p=(⟨#[]⟩,false):=by unfold am6;rw [h];rfl
theorem aoj {s:ay}{p:Pt}(h:aZ p=false):am6 s p=(⟨#[]⟩,false):=by unfold am6;rw [h,ZD7];rfl
theorem aoi {s:ay}{p:Pt}(h:iG s=true) (h2:aZ p=true):am6 s p=bF s p:=by unfold am6;rw [h,h2];rfl
def amU (s:ay) (t:bf) (k:Int):ByteArray×Bool:=bif (pq s t).2&&ig k 0 ((pq s t).1.length-1) then bF s (nth ae (pq s t).1 k.toNat) else (⟨#[]⟩,false)
theorem anY {s:ay}{t:bf}{k:Int}(h:(pq s t).2=false):amU s t k=(⟨#[]⟩,false):=by unfold amU;rw [h];rfl
theorem ans {s:ay}{t:bf}{k:Int}(h:ig k 0 ((pq s t).1.length-1)=false):amU s t k=(⟨#[]⟩,false):=by unfold amU;rw [h,ZD7];rfl
theorem anr {s:ay}{t:bf}{k:Int}(h:(pq s t).2=true) (h2:ig k 0 ((pq s t).1.length-1)=true):amU s t k=bF s (nth ae (pq s t).1 k.toNat):=by unfold amU;rw [h,h2];rfl
theorem am4 {s:ay}{many:Int}:∀{l:List Pt}{i:Int},j6 s many i l=true→∀p∈l,au p=false→(bF s p).2=true∧p.2.2.2.2=0
 |q::l,i,h,p,hp,hh=>by
  unfold j6 at h
  cases hq:au q with
  |true=>
   rw [hq,cond_true] at h
   rcases ZB8.1 hp with rfl |hp
   ·rw [hq] at hh;cases hh
   ·exact am4 h p hp hh
  |false=>
   rw [hq,cond_false] at h
   cases hb:q9 s many i q with
   |true=>rw [hb] at h;cases h
   |false=>
    rw [hb,cond_false] at h
    rcases ZB8.1 hp with rfl |hp
    ·unfold q9 at hb
     simp only [ZE1,decide_eq_false_iff_not,ZE9,Bool.not_eq_false'] at hb
     exact⟨hb.1,hb.2.1⟩
    ·exact am4 h p hp hh
theorem anG {s:ay}{t:bf}(h:(pq s t).2=true):(iG s=true∧((pq s t).1.length:Int)=t.many)∧∀p∈(pq s t).1,(aZ p=true∧p.2.2.2.2=0)∧(bF s p).2=true:=by
 rw [YC] at h
 obtain⟨h1,h2⟩:=Bool.and_eq_true_iff.1 h
 have hb:=Y1 h2
 have hl:(!(bA s t).2)=false:=by
  cases hl: !(bA s t).2 with
  |false=>rfl
  |true=>rw [Y3 hb hl] at h2;cases h2
 have hf:=(Y2 hb hl).symm.trans h2
 have hm:0≤t.many:=by
  have hb':=hb
  unfold lS at hb'
  exact (cC.1 (cL (ZE1.1 hb').1)).1
 have hk:=adl h2
 rw [K3 h1 h2]
 refine⟨⟨h1,?_⟩,fun p hp=>?_⟩
 ·show ((List.take _ _).length:Int)=_
  rw [ZC0];omega
 ·have hp':p∈(bA s t).1:=ZE6 hp
  have cG:aZ p=true:=H3 (aho h2) p hp'
  cases hh:au p with
  |false=>exact⟨⟨cG,(am4 hf p hp' hh).2⟩,(am4 hf p hp' hh).1⟩
  |true=>
   exact⟨⟨cG,W9 hh⟩,by rw [fS hh]⟩
theorem an2 {s:ay}{t:bf}(h:(iG s&&qF s t)=false):pq s t=([],false):=by unfold pq;rw [h];rfl
theorem an3 {s:ay}{t:bf}(h:(iG s&&qF s t)=true):pq s t=((bA s t).1.take t.many.toNat,true):=by unfold pq;rw [h];rfl
theorem anP {x:List Pt×Bool}{b:Bool}(e:x=([],b)):Wk (.t [.s (.vw ae x.1),.s (.q x.2)]) (.t [.s (.v (.slice none 0 0)),.s (.q b)]):=by
 subst e;exact Wk.tup ⟨Wk.nil _,Wk.refl _,trivial⟩
theorem aof {x:List Pt×Bool}{l:List Pt}{b:Bool}(e:x=(l,b)):Wk (.t [.s (.vw ae x.1),.s (.q x.2)]) (.t [.s (.vw ae (List.take l.length l)),.s (.q b)]):=by
 subst e;rw [ZD1 (ZB5 _)];exact Wk.refl _
def amS (S:ay) (t:bf):Prop:=S.gone.length≤1000000∧S.dead.length≤1000000
def an5 (S:ay) (t:bf):AV:=.t [.s (.vw ae (pq S t).1),.s (.q (pq S t).2)]
def aob (S:ay) (t:bf):List AV:=[]
def amY:cn where
 A:=[.a xq,.a [.int,.int,.int,.int,.int,.int,.int]]
 B:=[]
 pre:=fun x b=>amS (x.1) (x.2)
 r:=fun x b _=>an5 (x.1) (x.2)
 o:=fun x b _=>aob (x.1) (x.2)
theorem anT:Has Tryz.prog 28 amY:=by
 refine Has.al0 zT zF (fun d=>d==17) (l:=[(64,yS),(65,DB),(66,JZ)]) ⟨W1,abF,adU,aa⟩ Tryz.func28 ?_
 rintro⟨⟨(aj:List ByteArray),(ak:List Int),(an:List Int),(ao:Int),(ah:List Pt),(aq:Int),(ai:List Pt),(ar:Bool)⟩,⟨(t1:Int),(t2:Int),(t3:Int),(t4:Int),(t5:Int),(t6:Int),(t7:Int)⟩⟩ _ (hp:amS (aj,ak,an,ao,ah,aq,ai,ar) (t1,t2,t3,t4,t5,t6,t7))
 show vc _ _ _ _ (entry [.a [.vz ab aj,.vz ag ak,.vz ag an,.int ao,.vz ae ah,.int aq,.vz ae ai,.q ar],.a [.int t1,.int t2,.int t3,.int t4,.int t5,.int t6,.int t7]] []) _
 let g':=(aj,ak,an,ao,ah,aq,ai,ar)
 let A':=(t1,t2,t3,t4,t5,t6,t7)
 obtain⟨hg,hd⟩:=hp
 have hk:(!(iG g'))=false→KE g':=fun h=>QG.1 (cL h)
 have dE:(!(iG g'))=false→ay.rd g':=fun h=>(hk h).rd
 have hlen:∀b:Bool,b=qF g' A'→b=true→(bA g' A').1.length≤16:=fun b h h2=>q8 (aho (h ▸ h2))
 refine⟨⟨⟨tv9,aa⟩,?_,?_⟩,fun x1 w2=>⟨fun w3=>?_,fun w4=>⟨⟨⟨aa,tv8,aa⟩,?_,?_⟩,fun |false=>fun w5=>⟨⟨tv2,?_⟩,fun |false=>fun w6=>?_ |true=>fun w7=>?_⟩ |true=>fun w8=>⟨⟨⟨?_,aa⟩,?_⟩,fun |false=>fun w9=>?_ |true=>fun dx=>?_⟩⟩⟩⟩
 all_goals first|refine aw ?_|refine ax ?_|exact a8|(dsimp only [yS,th,DB,vd,JZ,yg];omega)|exact a7|exact hg|exact hd|exact dE w4|(show 0≤ao;have h:1≤ao∧ao≤900:=(hk w4).cg;omega)|exact ZA7 _|(show 0+t7.toNat≤_;rw [ZA6];exact adl (s:=g') (t:=A') (show true=qF g' A' from w8).symm)|(show (List.take _ _).length≤1000000;have:=hlen true w8 rfl;rw [ZC0];exact ZB0 (Nat.min_le_right _ _) (ZB0 this (by decide)))|skip
 ·refine⟨[],[],_,_,_,rfl,cf,(),0,aa,anP (aay (uo w3)),rfl,rfl⟩
 ·refine⟨[],[],_,_,_,rfl,cf,(),0,aa,aof (K4 (show qF g' A'=false from (show false=qF g' A' from w5).symm)),rfl,rfl⟩
 ·refine⟨[],[],_,_,_,rfl,cf,(),0,aa,anP (K4 (show qF g' A'=false from (show false=qF g' A' from w5).symm)),rfl,rfl⟩
 ·refine⟨[],[],_,_,_,rfl,cf,(),0,aa,aof (K3 (cL w4) (show qF g' A'=true from (show true=qF g' A' from w8).symm)),rfl,rfl⟩
 ·refine⟨[],[],_,_,_,rfl,cf,(),0,aa,anP ((K3 (cL w4) (show qF g' A'=true from (show true=qF g' A' from w8).symm)).trans (congrArg (fun l=>(l,true)) (dx rfl))),rfl,rfl⟩
theorem ant {s:ay}{t:bf}(h:qF s t=true):(0≤t.many∧t.many≤16)∧t.many.toNat≤(bA s t).1.length:=by
 have hb:=Y1 h
 unfold lS at hb
 exact⟨cC.1 (cL (ZE1.1 hb).1),adl h⟩
theorem anR {s:ay}{t:bf}(h:(pq s t).2=true):((pq s t).1.length:Int)=t.many∧(pq s t).1.length≤16:=by
 rw [YC] at h
 obtain⟨h1,h2⟩:=Bool.and_eq_true_iff.1 h
 have h3:=ant h2
 rw [K3 h1 h2]
 show ((List.take _ _).length:Int)=_∧(List.take _ _).length≤_
 rw [ZC0];omega
theorem amF {s:ay}{t:bf}(h:(pq s t).2=true):(pq s t).1.length≤16:=(anR h).2
def amD (S:ay) (t:bf):Prop:=S.gone.length≤1000000∧S.dead.length≤1000000
def amx (S:ay) (t:bf):AV:=.t [.s (.vw ae (pq S t).1),.s (.q (pq S t).2)]
def anp (S:ay) (t:bf):List AV:=[]
def amE:cn where
 A:=[.a xq,.a [.int,.int,.int,.int,.int,.int,.int]]
 B:=[]
 pre:=fun x b=>amD (x.1) (x.2)
 r:=fun x b _=>amx (x.1) (x.2)
 o:=fun x b _=>anp (x.1) (x.2)
theorem am5:Has Tryz.prog 30 amE:=by
 refine Has.fl zT zF (fun d=>d==24) (l:=[(39,ae9),(56,kN)]) ⟨aiY,yz,aa⟩ Tryz.func30 ?_
 rintro⟨⟨(aj:List ByteArray),(ak:List Int),(an:List Int),(ao:Int),(ah:List Pt),(aq:Int),(ai:List Pt),(ar:Bool)⟩,⟨(t1:Int),(t2:Int),(t3:Int),(t4:Int),(t5:Int),(t6:Int),(t7:Int)⟩⟩ _ (hp:amD (aj,ak,an,ao,ah,aq,ai,ar) (t1,t2,t3,t4,t5,t6,t7))
 show vc _ _ _ _ (entry [.a [.vz ab aj,.vz ag ak,.vz ag an,.int ao,.vz ae ah,.int aq,.vz ae ai,.q ar],.a [.int t1,.int t2,.int t3,.int t4,.int t5,.int t6,.int t7]] []) _
 let g':=(aj,ak,an,ao,ah,aq,ai,ar)
 let A':=(t1,t2,t3,t4,t5,t6,t7)
 obtain⟨hg,hd⟩:=hp
 have hk:(!(iG g'&&qF g' A'))=false→KE g'∧qF g' A'=true:=fun h=>⟨QG.1 (Bool.and_eq_true_iff.1 (cL h)).1,(Bool.and_eq_true_iff.1 (cL h)).2⟩
 refine⟨⟨⟨tv9,tv8,aa⟩,?_,?_⟩,fun x1 w2=>⟨fun w3=>⟨aa,?_⟩,fun w4=>⟨⟨⟨tv9,tv8,aa⟩,?_,?_⟩,fun x5 w6=>⟨aa,⟨?_,?_,?_⟩,⟨⟨?_,?_⟩,?_⟩,?_⟩⟩⟩⟩
 all_goals first|refine aw ?_|refine ax ?_|exact a8|(dsimp only [ae9,G3,kN,lJ];omega)|exact a7|exact hg|exact hd|exact (hk w4).1.rd|exact (aho (hk w4).2).dep|exact (ant (hk w4).2).1.1|(show t7≤((bA g' A').1.length:Int);have h:0≤t7:=(ant (hk w4).2).1.1;have h2:t7.toNat≤(bA g' A').1.length:=(ant (hk w4).2).2;omega)|(show 0+(List.take t7.toNat (bA g' A').1).length≤1048576;rw [ZC0];have h:t7≤16:=(ant (hk w4).2).1.2;omega)|(show 0+0+t7.toNat≤(bA g' A').1.length;have h2:t7.toNat≤(bA g' A').1.length:=(ant (hk w4).2).2;omega)|skip
 ·refine⟨[],[],_,_,_,rfl,cf,(),aa,?_,?_,rfl⟩
  ·(show _=amx g' A');unfold amx;first|(rw [an2 (s:=g') (t:=A') (xi w3)];rfl)|rfl
  ·rfl
 ·have e:=an3 (s:=g') (t:=A') (cL w4)
  refine⟨[],[],_,_,_,rfl,cf,(),aa,?_,?_,rfl⟩
  ·(show _=amx g' A');unfold amx;first|(rw [e];exact congrArg (fun l=>AV.t [.s (.vw ae l),.s (.q true)]) (ZD1 (ZA8 (ZA6 _).symm)))|rfl
  ·rfl
def amJ (S:ay) (t:bf) (k:Int):Prop:=S.gone.length≤1000000∧S.dead.length≤1000000
def amu (S:ay) (t:bf) (k:Int):AV:=.t [.s (.str (amU S t k).1),.s (.q (amU S t k).2)]
def anK (S:ay) (t:bf) (k:Int):List AV:=[]
def amN:cn where
 A:=[.a xq,.a [.int,.int,.int,.int,.int,.int,.int],.s .int]
 B:=[]
 pre:=fun x b=>amJ (x.1) (x.2.1) (x.2.2)
 r:=fun x b _=>amu (x.1) (x.2.1) (x.2.2)
 o:=fun x b _=>anK (x.1) (x.2.1) (x.2.2)
theorem anl:Has Tryz.prog 10 amN:=by
 refine Has.zv zT zF zF (l:=[(28,amY),(31,cr),(32,kC)]) ⟨anT,fL,zD,aa⟩ Tryz.func10 ?_
 rintro⟨⟨(aj:List ByteArray),(ak:List Int),(an:List Int),(ao:Int),(ah:List Pt),(aq:Int),(ai:List Pt),(ar:Bool)⟩,⟨(t1:Int),(t2:Int),(t3:Int),(t4:Int),(t5:Int),(t6:Int),(t7:Int)⟩,(k:Int)⟩ _ (hp:amJ (aj,ak,an,ao,ah,aq,ai,ar) (t1,t2,t3,t4,t5,t6,t7) k)
 show vc _ _ _ _ (entry [.a [.vz ab aj,.vz ag ak,.vz ag an,.int ao,.vz ae ah,.int aq,.vz ae ai,.q ar],.a [.int t1,.int t2,.int t3,.int t4,.int t5,.int t6,.int t7],.int k] []) _
 let g':=(aj,ak,an,ao,ah,aq,ai,ar)
 let A':=(t1,t2,t3,t4,t5,t6,t7)
 obtain⟨hg,hd⟩:=hp
 have hk:(!((pq g' A').2))=false→KE g':=fun h=>QG.1 (anG (cL h)).1.1
 have hi:(!(ig k 0 (((pq g' A').1.length:Int)-1)))=false→0≤k∧k<((pq g' A').1.length:Int):=fun h=>by have:=cC.1 (cL h);omega
 have hn:(!((pq g' A').2))=false→(!(ig k 0 (((pq g' A').1.length:Int)-1)))=false→aZ (nth ae (pq g' A').1 k.toNat)=true:=fun h1 h2=>((anG (cL h1)).2 _ (bR (ek:=ae) (show k.toNat<(pq g' A').1.length by have:=hi h2;omega))).1.1
 refine⟨⟨⟨tv9,tv8,aa⟩,?_,?_⟩,fun x1 w2=>⟨aa,fun w3=>?_,fun w4=>⟨⟨?_,?_⟩,⟨tv4,aa⟩,fun x5 w6=>⟨fun w7=>?_,fun w8=>⟨⟨?_,?_⟩,⟨⟨aa,tv6,aa⟩,fun x9 dx=>?_,?_,?_⟩,fun ku dI=>?_⟩⟩⟩⟩⟩
 all_goals first|refine aw ?_|refine ax ?_|exact a8|(dsimp only [amY,amS,cr,df,kC,k6];omega)|exact a7|exact hg|exact hd|(have h:=amF (cL w4);simp only [gJ,imax];omega)|(have h:=amF (s:=g') (t:=A') (cL w4);show -9223372036854775808≤(((pq g' A').1.length:Int)-1);omega)|(have h:=amF (s:=g') (t:=A') (cL w4);show (((pq g' A').1.length:Int)-1)≤9223372036854775807;omega)|exact (hi w8).1|exact (hi w8).2|exact (hk w4).rd.sz _ dx|exact (hk w4).len|exact hn w4 w8|skip
 ·have e:=anY (s:=g') (t:=A') (k:=k) (uo w3)
  refine⟨[],[],_,_,_,rfl,az,(),aa,?_,?_,rfl⟩
  ·(show _=amu g' A' k);unfold amu;first|(rw [e];rfl)|rfl
  ·rfl
 ·have e:=ans (s:=g') (t:=A') (k:=k) (uo w7)
  refine⟨[],[],_,_,_,rfl,az,(),aa,?_,?_,rfl⟩
  ·(show _=amu g' A' k);unfold amu;first|(rw [e];rfl)|rfl
  ·rfl
 ·have e:=anr (s:=g') (t:=A') (k:=k) (cL w4) (cL w8)
  refine⟨[],[],_,_,_,rfl,az,(),aa,?_,?_,rfl⟩
  ·(show _=amu g' A' k);unfold amu;first|(rw [e];rfl)|rfl
  ·rfl
def ani (a:List Pt) (b:List Pt):Prop:=a=b∧a.length≤1000000
def am1 (a:List Pt) (b:List Pt):AV:=.s (.q true)
def anZ (a:List Pt) (b:List Pt):List AV:=[]
def an8:cn where
 A:=[.s (.vz ae),.s (.vz ae)]
 B:=[]
 pre:=fun x b=>ani (x.1) (x.2)
 r:=fun x b _=>am1 (x.1) (x.2)
 o:=fun x b _=>anZ (x.1) (x.2)
theorem aoo:Has Tryz.prog 47 an8:=by
 refine Has.fl zT zF zF (l:=[]) trivial Tryz.func47 ?_
 rintro⟨(a:List Pt),(b:List Pt)⟩ _ (hp:ani a b)
 show vc _ _ _ _ (entry [.s (.vz ae a),.s (.vz ae b)] []) _
 obtain⟨(he:a=b),(hl:a.length≤1000000)⟩:=hp
 have hll:a.length=b.length:=congrArg List.length he
 refine⟨fun w1=>?_,fun w2=>?_⟩
 all_goals first|refine aw ?_|refine ax ?_|exact a8|exact a7|skip
 ·exact absurd (congrArg (Nat.cast:Nat→Int) hll) (aJ w1)
 ·refine cN (l:=[]) (ex:=zT) (wr:=zF) (pt:=zF) trivial [.s 0,.s 1] (fun i:Nat=>[(.s 5,.int i)]) (fun i=>i≤a.length) (fun i=>a.length-i) 0 [] (ZA7 _) dL ?_
  rintro i (hi:i≤a.length)
  have cm:decide ((i:Int)<(a.length:Int))=true→i<a.length:=fun h=>by have:=aJ h;omega
  refine⟨fun w1=>⟨Sq0,Sq17,rfl,Sq5,Sq18,rfl,[.s 17,.s 18],Sq19,rfl,⟨?_,?_⟩,Sq19,Sq20,rfl,Sq1,Sq21,rfl,Sq5,Sq22,rfl,[.s 21,.s 22],Sq23,rfl,⟨?_,?_⟩,Sq23,Sq24,rfl,[.s 20,.s 24],Sq25,rfl,fun w2=>?_,fun w3=>⟨⟨?_,?_⟩,?_⟩⟩,fun w4=>?_⟩
  all_goals first|refine aw ?_|refine ax ?_|exact a8|exact a7|exact cm w1|(have h:=cm w1;show ((i:Int))<(b.length:Int);omega)|skip
  ·subst he;simp at w2
  ·refine⟨(i+1),[],?_,?_,?_⟩
   rotate_right
   ·exact bV
   ·show i+1≤a.length;have:=cm w1;omega
   ·show a.length-(i+1)<a.length-i;have:=cm w1;omega
  ·refine⟨[],[],_,_,_,rfl,az,(),aa,?_,?_,rfl⟩
   ·(show _=am1 a b);unfold am1;first|rfl
   ·rfl
end
end GL
namespace GL
noncomputable section
def amQ:Nat→Nat→List Pt→List Pt→List Int→List Int
 |0,_,_,_,out=>out
 |f+1,i,x,y,out=>amQ f (i+1) x y (bif ptrEq (nth ae x i) (nth ae y i) then out else out++[(i:Int)])
def amM (x y:List Pt):List Int:=amQ 16 0 x y []
theorem am0 {f i:Nat}{x y:List Pt}{out:List Int}(h:ptrEq (nth ae x i) (nth ae y i)=true):amQ (f+1) i x y out=amQ f (i+1) x y out:=by rw [amQ,h];rfl
theorem anh {f i:Nat}{x y:List Pt}{out:List Int}(h:ptrEq (nth ae x i) (nth ae y i)=false):amQ (f+1) i x y out=amQ f (i+1) x y (out++[(i:Int)]):=by rw [amQ,h];rfl
theorem anx {x y:List Pt}:∀{f i:Nat}{out:List Int},x.length≤i→y.length≤i→amQ f i x y out=out
 |0,_,_,_,_=>rfl
 |f+1,i,out,h1,h2=>by
  rw [am0 (by rw [tn (ek:=ae) h1,tn (ek:=ae) h2];exact r7.2 rfl)]
  exact anx (by omega) (by omega)
theorem ano {x:List Pt}:∀{f i:Nat}{out:List Int},amQ f i x x out=out
 |0,_,_=>rfl
 |f+1,i,out=>by rw [am0 (r7.2 rfl)];exact ano
theorem anz {x y:List Pt}{z:Int}:∀{f i:Nat}{out:List Int},z∈amQ f i x y out↔z∈out∨∃k:Nat,i≤k∧k<i+f∧z=(k:Int)∧ptrEq (nth ae x k) (nth ae y k)=false
 |0,i,out=>⟨.inl,fun h=>h.elim id fun⟨k,h1,h2,_⟩=>by omega⟩
 |f+1,i,out=>by
  cases h:ptrEq (nth ae x i) (nth ae y i) with
  |true=>
   rw [am0 h,anz]
   refine or_congr Iff.rfl ⟨fun⟨k,h1,h2,h3⟩=>⟨k,by omega,by omega,h3⟩,fun⟨k,h1,h2,h3,h4⟩=>⟨k,?_,by omega,h3,h4⟩⟩
   by_cases e:k=i
   ·subst e;rw [h] at h4;cases h4
   ·omega
  |false=>
   rw [anh h,anz,ZB4,ZC7,or_assoc]
   refine or_congr Iff.rfl ⟨fun h5=>?_,fun⟨k,h1,h2,h3,h4⟩=>?_⟩
   ·rcases h5 with h5 |⟨k,h1,h2,h3⟩
    ·exact⟨i,ZB5 _,by omega,h5,h⟩
    ·exact⟨k,by omega,by omega,h3⟩
   ·by_cases e:k=i
    ·exact .inl (by rw [h3,e])
    ·exact .inr ⟨k,by omega,by omega,h3,h4⟩
theorem amZ {x y:List Pt}:∀{f i:Nat}{out:List Int},∃r,amQ f i x y out=out++r∧∀z∈r,(i:Int)≤z
 |0,i,out=>⟨[],by rw [ZE5];rfl,fun z hz=>by cases hz⟩
 |f+1,i,out=>by
  cases h:ptrEq (nth ae x i) (nth ae y i) with
  |true=>
   obtain⟨r,h1,h2⟩:=amZ (x:=x) (y:=y) (f:=f) (i:=i+1) (out:=out)
   exact⟨r,by rw [am0 h];exact h1,fun z hz=>by have:=h2 z hz;omega⟩
  |false=>
   obtain⟨r,h1,h2⟩:=amZ (x:=x) (y:=y) (f:=f) (i:=i+1) (out:=out++[(i:Int)])
   exact⟨(i:Int)::r,by rw [anh h,h1,ZD2];rfl,fun z hz=>by
    rcases ZB8.1 hz with rfl |hz
    ·exact ZC1 _
    ·have:=h2 z hz;omega⟩
def amt (s:ay) (a b:bf):List Int×Bool:=bif (pq s a).2&&(pq s b).2 then (amM (pq s a).1 (pq s b).1,true) else ([],false)
theorem amA {s:ay}{a b:bf}(h:(pq s a).2=false∨(pq s b).2=false):amt s a b=([],false):=by
 unfold amt
 rcases h with h |h
 ·rw [h];rfl
 ·rw [h,ZD7];rfl
theorem amL {s:ay}{a b:bf}(h:(pq s a).2=true) (h2:(pq s b).2=true):amt s a b=(amM (pq s a).1 (pq s b).1,true):=by unfold amt;rw [h,h2];rfl
structure ame (X Y:List Pt) (i:Nat) (out:List Int):Prop where
 le:i≤16
 len:out.length≤i
 f:amQ (16-i) i X Y out=amM X Y
theorem ame.z (X Y:List Pt):ame X Y 0 []:=⟨ZA7 _,ZA7 _,rfl⟩
theorem ame.eq {X Y:List Pt}{i:Nat}{out:List Int}(h:ame X Y i out) (hi:i<16) (hq:(!(ptrEq (nth ae X i) (nth ae Y i)))=false):ame X Y (i+1) out:=by
 have h1:=h.f
 rw [show 16-i=(16-(i+1))+1 by omega,am0 (cL hq)] at h1
 exact⟨hi,Nat.le_succ_of_le h.len,h1⟩
theorem ame.ne {X Y:List Pt}{i:Nat}{out:List Int}(h:ame X Y i out) (hi:i<16) (hq:(!(ptrEq (nth ae X i) (nth ae Y i)))=true):ame X Y (i+1) (out++[(i:Int)]):=by
 have h1:=h.f
 rw [show 16-i=(16-(i+1))+1 by omega,anh (xi hq)] at h1
 exact⟨hi,by rw [ZA0,List.length_singleton];have:=h.len;omega,h1⟩
theorem ame.e {X Y:List Pt}{i:Nat}{out:List Int}(h:ame X Y i out) (h1:X.length≤i) (h2:Y.length≤i):out=amM X Y:=by
 rw [←h.f,anx h1 h2]
theorem amp {P Q P' Q':Pt}{c:Bool}(h1:P=P') (h2:Q=Q') (h:(!(ptrEq P' Q'))=c):(!(ptrEq P Q))=c:=by subst h1 h2;exact h
theorem amP {i:Nat}(h:decide ((i:Int)<16)=true):i<16:=by have:=aJ h;omega
theorem amo {l:List Pt}{i:Nat}(h:decide ((i:Int)<(l.length:Int))=false):nth ae l i=(0,0,0,0,0):=tn (ek:=ae) (by have:=aA h;omega)
theorem anb {i n m:Nat}(h:decide ((i:Int)<max (n:Int) (m:Int))=true) (hn:n≤16) (hm:m≤16):i<16:=by have:=aJ h;omega
theorem anC {i n m:Nat}(h:decide ((i:Int)<max (n:Int) (m:Int))=false):n≤i∧m≤i:=by have:=aA h;omega
theorem vwI {l:List Int}:AV.t [.s (.vw ag (List.take l.length l)),.s (.q true)]=AV.t [.s (.vw ag l),.s (.q true)]:=by rw [ZD1 (ZB5 _)]
def amT (a:List Int) (b:List Int):Prop:=a=b∧a.length≤1000000
def am2 (a:List Int) (b:List Int):AV:=.s (.q true)
def an0 (a:List Int) (b:List Int):List AV:=[]
def amX:cn where
 A:=[.s (.vz ag),.s (.vz ag)]
 B:=[]
 pre:=fun x b=>amT (x.1) (x.2)
 r:=fun x b _=>am2 (x.1) (x.2)
 o:=fun x b _=>an0 (x.1) (x.2)
theorem anO:Has Tryz.prog 9 amX:=by
 refine Has.fl zT zF zF (l:=[]) trivial Tryz.func9 ?_
 rintro⟨(a:List Int),(b:List Int)⟩ _ (hp:amT a b)
 show vc _ _ _ _ (entry [.s (.vz ag a),.s (.vz ag b)] []) _
 obtain⟨(he:a=b),(hl:a.length≤1000000)⟩:=hp
 have hll:a.length=b.length:=congrArg List.length he
 refine⟨fun w1=>?_,fun w2=>?_⟩
 all_goals first|refine aw ?_|refine ax ?_|exact a8|exact a7|skip
 ·exact absurd (congrArg (Nat.cast:Nat→Int) hll) (aJ w1)
 ·refine cN (l:=[]) (ex:=zT) (wr:=zF) (pt:=zF) trivial [.s 0,.s 1] (fun i:Nat=>[(.s 5,.int i)]) (fun i=>i≤a.length) (fun i=>a.length-i) 0 [] (ZA7 _) dL ?_
  rintro i (hi:i≤a.length)
  have cm:decide ((i:Int)<(a.length:Int))=true→i<a.length:=fun h=>by have:=aJ h;omega
  refine⟨fun w1=>⟨Sq0,Sq17,rfl,Sq5,Sq18,rfl,[.s 17,.s 18],Sq19,rfl,⟨?_,?_⟩,Sq19,Sq20,rfl,Sq1,Sq21,rfl,Sq5,Sq22,rfl,[.s 21,.s 22],Sq23,rfl,⟨?_,?_⟩,Sq23,Sq24,rfl,[.s 20,.s 24],Sq25,rfl,fun w2=>?_,fun w3=>⟨⟨?_,?_⟩,?_⟩⟩,fun w4=>?_⟩
  all_goals first|refine aw ?_|refine ax ?_|exact a8|exact a7|exact cm w1|(have h:=cm w1;show ((i:Int))<(b.length:Int);omega)|skip
  ·subst he;simp at w2
  ·refine⟨(i+1),[],?_,?_,?_⟩
   rotate_right
   ·exact bV
   ·show i+1≤a.length;have:=cm w1;omega
   ·show a.length-(i+1)<a.length-i;have:=cm w1;omega
  ·refine⟨[],[],_,_,_,rfl,az,(),aa,?_,?_,rfl⟩
   ·(show _=am2 a b);unfold am2;first|rfl
   ·rfl
def amC (l:List Pt) (k:Int):Prop:=0≤k
def amB (l:List Pt) (k:Int):AV:=.o (ptA (nth ae l k.toNat))
def anJ (l:List Pt) (k:Int):List AV:=[]
def amG:cn where
 A:=[.s (.vz ae),.s .int]
 B:=[]
 pre:=fun x b=>amC (x.1) (x.2)
 r:=fun x b _=>amB (x.1) (x.2)
 o:=fun x b _=>anJ (x.1) (x.2)
theorem ank:Has Tryz.prog 29 amG:=by
 refine Has.fl zT zF zF (l:=[]) trivial Tryz.func29 ?_
 rintro⟨(l:List Pt),(k:Int)⟩ _ (hp:amC l k)
 show vc _ _ _ _ (entry [.s (.vz ae l),.int k] []) _
 have hk0:0≤k:=hp
 have cm:decide (k<(l.length:Int))=true→k.toNat<l.length:=fun h=>by have:=aJ h;omega
 refine⟨fun w1=>⟨⟨?_,?_⟩,?_⟩,fun w2=>?_⟩
 all_goals first|refine aw ?_|refine ax ?_|exact a8|exact a7|exact cm w1|skip
 ·refine⟨[],[],_,_,_,rfl,az,(),aa,?_,?_,rfl⟩
  ·(show _=amB l k);unfold amB;first|rfl
  ·rfl
 ·have e:nth ae l k.toNat=EK.zero ae:=tn (ek:=ae) (by have h:¬k<(l.length:Int):=aA w2;omega)
  refine⟨[],[],_,_,_,rfl,az,(),aa,?_,?_,rfl⟩
  ·(show _=amB l k);unfold amB;first|(rw [e];rfl)|rfl
  ·rfl
def amK (S:ay) (a:bf) (b:bf):Prop:=S.gone.length≤1000000∧S.dead.length≤1000000
def amv (S:ay) (a:bf) (b:bf):AV:=.t [.s (.vw ag (amt S a b).1),.s (.q (amt S a b).2)]
def anL (S:ay) (a:bf) (b:bf):List AV:=[]
def amO:cn where
 A:=[.a xq,.a [.int,.int,.int,.int,.int,.int,.int],.a [.int,.int,.int,.int,.int,.int,.int]]
 B:=[]
 pre:=fun x b=>amK (x.1) (x.2.1) (x.2.2)
 r:=fun x b _=>amv (x.1) (x.2.1) (x.2.2)
 o:=fun x b _=>anL (x.1) (x.2.1) (x.2.2)
theorem anm:Has Tryz.prog 8 amO:=by
 refine Has.fl zT zF zF (l:=[(30,amE)]) ⟨am5,aa⟩ Tryz.func8 ?_
 rintro⟨⟨(aj:List ByteArray),(ak:List Int),(an:List Int),(ao:Int),(ah:List Pt),(aq:Int),(ai:List Pt),(ar:Bool)⟩,⟨(a1:Int),(a2:Int),(a3:Int),(a4:Int),(a5:Int),(ami:Int),(amj:Int)⟩,⟨(b1:Int),(b2:Int),(b3:Int),(b4:Int),(b5:Int),(b6:Int),(b7:Int)⟩⟩ _ (hp:amK (aj,ak,an,ao,ah,aq,ai,ar) (a1,a2,a3,a4,a5,ami,amj) (b1,b2,b3,b4,b5,b6,b7))
 show vc _ _ _ _ (entry [.a [.vz ab aj,.vz ag ak,.vz ag an,.int ao,.vz ae ah,.int aq,.vz ae ai,.q ar],.a [.int a1,.int a2,.int a3,.int a4,.int a5,.int ami,.int amj],.a [.int b1,.int b2,.int b3,.int b4,.int b5,.int b6,.int b7]] []) _
 let g':=(aj,ak,an,ao,ah,aq,ai,ar)
 let A':=(a1,a2,a3,a4,a5,ami,amj)
 let B':=(b1,b2,b3,b4,b5,b6,b7)
 obtain⟨hg,hd⟩:=hp
 refine⟨aa,⟨⟨tv9,tv8,aa⟩,?_,?_⟩,fun x1 w2=>⟨⟨⟨tv9,tv8,aa⟩,?_,?_⟩,fun x3 w4=>⟨aa,fun w5=>?_,fun w6=>⟨fun w7=>?_,fun w8=>?_⟩⟩⟩⟩
 all_goals first|refine aw ?_|refine ax ?_|exact a8|(dsimp only [amE,amD];omega)|exact a7|exact hg|exact hd|skip
 ·have e:=amA (s:=g') (a:=A') (b:=B') (.inl (uo w5))
  refine⟨[],[],_,_,_,rfl,cf,(),aa,?_,?_,rfl⟩
  ·(show _=amv g' A' B');unfold amv;first|(rw [e];rfl)|rfl
  ·rfl
 ·have e:=amA (s:=g') (a:=A') (b:=B') (.inr (uo w7))
  refine⟨[],[],_,_,_,rfl,cf,(),aa,?_,?_,rfl⟩
  ·(show _=amv g' A' B');unfold amv;first|(rw [e];rfl)|rfl
  ·rfl
 ·have ha:=amF (s:=g') (t:=A') (cL w6)
  have hb:=amF (s:=g') (t:=B') (cL w8)
  have e:=amL (s:=g') (a:=A') (b:=B') (cL w6) (cL w8)
  refine cN (l:=[(30,amE)]) (ex:=zT) (wr:=zF) (pt:=zF) ⟨am5,aa⟩ [.s 3,.s 4,.s 5,.b 1003,.b 1004,.b 1005,.s 9,.s 11] (fun y:Nat×List Int=>[(.s 13,.int y.1),(.s 8,.s (.xs 1017 1 0 y.2.length)),(.b 1017,.rs ag y.2)]) (fun y=>ame (pq g' A').1 (pq g' B').1 y.1 y.2) (fun y=>16-y.1) (0,[]) [(1017,1016)] (ame.z _ _) dL ?_
  rintro⟨i,out⟩ (hI:ame (pq g' A').1 (pq g' B').1 i out)
  have hle:=hI.le
  have hlen:=hI.len
  refine⟨fun w1=>⟨fun w2=>⟨⟨?_,?_⟩,fun w3=>⟨⟨?_,?_⟩,fun w4=>⟨aa,⟨⟨?_,?_⟩,?_,?_⟩,⟨?_,?_⟩,?_⟩,fun w5=>⟨⟨?_,?_⟩,?_⟩⟩,fun w6=>⟨fun w7=>⟨aa,⟨⟨?_,?_⟩,?_,?_⟩,⟨?_,?_⟩,?_⟩,fun w8=>⟨⟨?_,?_⟩,?_⟩⟩⟩,fun w9=>⟨fun dx=>⟨⟨?_,?_⟩,fun kx=>⟨aa,⟨⟨?_,?_⟩,?_,?_⟩,⟨?_,?_⟩,?_⟩,fun dI=>⟨⟨?_,?_⟩,?_⟩⟩,fun iS=>⟨fun gN=>⟨aa,⟨⟨?_,?_⟩,?_,?_⟩,⟨?_,?_⟩,?_⟩,fun qG=>⟨⟨?_,?_⟩,?_⟩⟩⟩⟩,fun kc=>?_⟩
  all_goals first|refine aw ?_|refine ax ?_|exact a8|(dsimp only [amE,amD];omega)|exact a7|exact aJ w2|exact aJ w3|exact aJ dx|skip
  ·refine⟨(i+1,out++[(i:Int)]),[(1017,1064)],?_,?_,?_⟩
   rotate_right
   ·exact bV
   ·exact hI.ne (amP w1) w4
   ·exact Nat.sub_succ_lt_self _ _ (amP w1)
  ·refine⟨(i+1,out),[],?_,?_,?_⟩
   rotate_right
   ·exact bV
   ·exact hI.eq (amP w1) w5
   ·exact Nat.sub_succ_lt_self _ _ (amP w1)
  ·refine⟨(i+1,out++[(i:Int)]),[(1017,1064)],?_,?_,?_⟩
   rotate_right
   ·exact bV
   ·exact hI.ne (amP w1) (amp rfl (amo w6) w7)
   ·exact Nat.sub_succ_lt_self _ _ (amP w1)
  ·refine⟨(i+1,out),[],?_,?_,?_⟩
   rotate_right
   ·exact bV
   ·exact hI.eq (amP w1) (amp rfl (amo w6) w8)
   ·exact Nat.sub_succ_lt_self _ _ (amP w1)
  ·refine⟨(i+1,out++[(i:Int)]),[(1017,1064)],?_,?_,?_⟩
   rotate_right
   ·exact bV
   ·exact hI.ne (amP w1) (amp (amo w9) rfl kx)
   ·exact Nat.sub_succ_lt_self _ _ (amP w1)
  ·refine⟨(i+1,out),[],?_,?_,?_⟩
   rotate_right
   ·exact bV
   ·exact hI.eq (amP w1) (amp (amo w9) rfl dI)
   ·exact Nat.sub_succ_lt_self _ _ (amP w1)
  ·exact absurd gN (by decide)
  ·refine⟨(i+1,out),[],?_,?_,?_⟩
   rotate_right
   ·exact bV
   ·exact hI.eq (amP w1) (amp (amo w9) (amo iS) qG)
   ·exact Nat.sub_succ_lt_self _ _ (amP w1)
  ·have h16:¬(i:Int)<16:=aA kc
   obtain rfl:=hI.e (by omega) (by omega)
   refine⟨[],[],_,_,_,rfl,cf,(),aa,?_,?_,rfl⟩
   ·(show _=amv g' A' B');unfold amv;first|(rw [e];exact vwI)|rfl
   ·rfl
def amH (S:ay) (a:bf) (b:bf):Prop:=S.gone.length≤1000000∧S.dead.length≤1000000
def amr (S:ay) (a:bf) (b:bf):AV:=.t [.s (.vw ag (amt S a b).1),.s (.q (amt S a b).2)]
def anB (S:ay) (a:bf) (b:bf):List AV:=[]
def amI:cn where
 A:=[.a xq,.a [.int,.int,.int,.int,.int,.int,.int],.a [.int,.int,.int,.int,.int,.int,.int]]
 B:=[]
 pre:=fun x b=>amH (x.1) (x.2.1) (x.2.2)
 r:=fun x b _=>amr (x.1) (x.2.1) (x.2.2)
 o:=fun x b _=>anB (x.1) (x.2.1) (x.2.2)
theorem anf:Has Tryz.prog 7 amI:=by
 refine Has.al0 zT zF zF (l:=[(28,amY),(29,amG)]) ⟨anT,ank,aa⟩ Tryz.func7 ?_
 rintro⟨⟨(aj:List ByteArray),(ak:List Int),(an:List Int),(ao:Int),(ah:List Pt),(aq:Int),(ai:List Pt),(ar:Bool)⟩,⟨(a1:Int),(a2:Int),(a3:Int),(a4:Int),(a5:Int),(ami:Int),(amj:Int)⟩,⟨(b1:Int),(b2:Int),(b3:Int),(b4:Int),(b5:Int),(b6:Int),(b7:Int)⟩⟩ _ (hp:amH (aj,ak,an,ao,ah,aq,ai,ar) (a1,a2,a3,a4,a5,ami,amj) (b1,b2,b3,b4,b5,b6,b7))
 show vc _ _ _ _ (entry [.a [.vz ab aj,.vz ag ak,.vz ag an,.int ao,.vz ae ah,.int aq,.vz ae ai,.q ar],.a [.int a1,.int a2,.int a3,.int a4,.int a5,.int ami,.int amj],.a [.int b1,.int b2,.int b3,.int b4,.int b5,.int b6,.int b7]] []) _
 let g':=(aj,ak,an,ao,ah,aq,ai,ar)
 let A':=(a1,a2,a3,a4,a5,ami,amj)
 let B':=(b1,b2,b3,b4,b5,b6,b7)
 obtain⟨hg,hd⟩:=hp
 refine⟨⟨⟨tv9,tv8,aa⟩,?_,?_⟩,fun x1 w2=>⟨⟨⟨tv9,tv8,aa⟩,?_,?_⟩,fun x3 w4=>⟨aa,fun w5=>?_,fun w6=>⟨fun w7=>?_,fun w8=>?_⟩⟩⟩⟩
 all_goals first|refine aw ?_|refine ax ?_|exact a8|(dsimp only [amY,amS,amG,amC];omega)|exact a7|exact hg|exact hd|skip
 ·refine⟨[],[],_,_,_,rfl,cf,(),0,trivial,by show Wk (amr g' A' B') _;unfold amr;rw [amA (s:=g') (a:=A') (b:=B') (.inl (uo w5))];exact Wk.tup ⟨Wk.nil _,Wk.refl _,trivial⟩,rfl,rfl⟩
 ·refine⟨[],[],_,_,_,rfl,cf,(),0,trivial,by show Wk (amr g' A' B') _;unfold amr;rw [amA (s:=g') (a:=A') (b:=B') (.inr (uo w7))];exact Wk.tup ⟨Wk.nil _,Wk.refl _,trivial⟩,rfl,rfl⟩
 ·have ha:=amF (s:=g') (t:=A') (cL w6)
  have hb:=amF (s:=g') (t:=B') (cL w8)
  have e:=amL (s:=g') (a:=A') (b:=B') (cL w6) (cL w8)
  refine lT (l:=[(28,amY),(29,amG)]) (ex:=zT) (wr:=zF) (pt:=zF) ⟨anT,ank,aa⟩ [.s 3,.s 4,.s 5,.b 1003,.b 1004,.b 1005,.s 8,.s 10,.s 36] (fun y:Nat×List Int=>match y.2 with |[]=>[(.s 37,.int y.1),(.s 12,.s (.v (.slice none 0 0)))] |z::l=>[(.s 37,.int y.1),(.s 12,.s (.xs 1013 1 0 (l.length+1))),(.b 1013,.rs ag (z::l))]) (fun y=>ame (pq g' A').1 (pq g' B').1 y.1 y.2) (fun y=>16-y.1) (0,[]) [] (ame.z _ _) dL ?_
  rintro⟨i,out⟩ (hI:ame (pq g' A').1 (pq g' B').1 i out)
  have hle:=hI.le
  have hlen:=hI.len
  cases out with
  |nil=>
   refine⟨fun w1=>⟨⟨tv3,?_⟩,fun x2 w3=>⟨⟨tv3,?_⟩,fun x4 w5=>⟨fun w6=>⟨aa,⟨⟨?_,?_⟩,?_,?_⟩,⟨?_,?_⟩,?_⟩,fun w7=>⟨⟨?_,?_⟩,?_⟩⟩⟩⟩,fun w8=>?_⟩
   all_goals first|refine aw ?_|refine ax ?_|exact a8|(dsimp only [amY,amS,amG,amC];omega)|exact a7|skip
   ·refine⟨(i+1,[(i:Int)]),[(1013,1050)],?_,?_,?_⟩
    rotate_right
    ·exact bV
    ·exact hI.ne (anb w1 ha hb) w6
    ·exact Nat.sub_succ_lt_self _ _ (anb w1 ha hb)
   ·refine⟨(i+1,[]),[],?_,?_,?_⟩
    rotate_right
    ·exact bV
    ·exact hI.eq (anb w1 ha hb) w7
    ·exact Nat.sub_succ_lt_self _ _ (anb w1 ha hb)
   ·have e2:=hI.e (anC w8).1 (anC w8).2
    refine⟨[],[],_,_,_,rfl,cf,(),0,trivial,by show Wk (amr g' A' B') _;unfold amr;rw [e,←e2];exact Wk.tup ⟨Wk.nil _,Wk.refl _,trivial⟩,rfl,rfl⟩
  |cons z l=>
   refine⟨fun w1=>⟨⟨tv3,?_⟩,fun x2 w3=>⟨⟨tv3,?_⟩,fun x4 w5=>⟨fun w6=>⟨aa,⟨⟨?_,?_⟩,?_,?_⟩,⟨?_,?_⟩,?_⟩,fun w7=>⟨⟨?_,?_⟩,?_⟩⟩⟩⟩,fun w8=>?_⟩
   all_goals first|refine aw ?_|refine ax ?_|exact a8|(dsimp only [amY,amS,amG,amC];omega)|exact a7|skip
   ·refine⟨(i+1,z::(l++[(i:Int)])),[(1013,1050)],?_,?_,?_⟩
    rotate_right
    ·exact bV
    ·exact hI.ne (anb w1 ha hb) w6
    ·exact Nat.sub_succ_lt_self _ _ (anb w1 ha hb)
   ·refine⟨(i+1,z::l),[],?_,?_,?_⟩
    rotate_right
    ·exact bV
    ·exact hI.eq (anb w1 ha hb) w7
    ·exact Nat.sub_succ_lt_self _ _ (anb w1 ha hb)
   ·have e2:=hI.e (anC w8).1 (anC w8).2
    refine⟨[],[],_,_,_,rfl,cf,(),0,trivial,by show Wk (amr g' A' B') _;unfold amr;rw [e,←e2];exact Wk.of_eq vwI.symm,rfl,rfl⟩
end
end GL
namespace GL
theorem KE.wf {s:ay}(h:KE s):s.wf:=
 ⟨⟨h.len,(QK h.sp).1,(QK h.sp).2⟩,h.rd.2⟩
theorem KE.wg {s:ay}{n:Nat}(h:KE s) (hg:s.gone.length≤n) (hd:s.dead.length≤n):s.wg n:=
 ⟨h.wf,hg,hd,by have:=h.cg;omega⟩
theorem am3 {s:ay}{t:bf}(h:qF s t=true):t.ok:=by
 have hb:=Y1 h
 unfold lS at hb
 have h4:=cC.1 (cL (ZE1.1 hb).1)
 exact⟨aho h,h4.1,h4.2⟩
end GL
namespace GL
def amg (s:ay):Prop:=(∀p∈s.gone,aZ p=true)∧1≤s.cg
theorem ann {s:ay}{p:Pt}(h:amg s) (hp:aZ p=true):amg (cM s p):=by
 refine⟨?_,by rw [wR];exact h.2⟩
 replace h:=h.1
 unfold cM
 cases au p with
 |true=>exact h
 |false=>
  cases decide (p.2.1≤s.bZ) with
  |true=>exact h
  |false=>
   cases decide (p.2.1<s.cg) with
   |true=>
    intro q hq
    rcases ZB4.1 (show q∈s.gone++[p] from hq) with hq |hq
    ·exact h q hq
    ·rw [ZC7.1 hq];exact hp
   |false=>exact h
theorem anv:∀{l:List Pt}{s:ay},amg s→(∀p∈l,aZ p=true)→amg (dw l s)
 |[],_,h,_=>h
 |p::l,s,h,hl=>anv (l:=l) (ann h (hl p (List.mem_cons_self ..))) fun q hq=>hl q (List.mem_cons_of_mem _ hq)
theorem anw {sy:List Pt}:∀{l:List Pt}{s:ay},amg s→(∀p∈l,aZ p=true)→amg (dW l sy s)
 |[],_,h,_=>h
 |p::l,s,h,hl=>by
  refine anw (l:=l) ?_ fun q hq=>hl q (List.mem_cons_of_mem _ hq)
  cases gV sy p with
  |true=>exact h
  |false=>exact ann h (hl p (List.mem_cons_self ..))
theorem uh.amk {s u:ay}(h:uh s u) (hs:amg s):amg u:=⟨fun p hp=>hs.1 p (by rw [←h.gone];exact hp),by rw [h.cg];exact hs.2⟩
theorem anV {s:ay}{t:bf}{l:List Pt}{many:Int}(h:s.wf) (ht:t.rd) (hg:amg s):amg (bQ s t l many).1:=by
 unfold bQ
 have h1:=wI (f:=3) (t:=t) (d:=bj many) (lv:=1) (l:=l.take many.toNat) (sy:=[]) h
 cases hf:mg 3 s t (bj many) 1 (l.take many.toNat) [] with
 |mk s' r=>
  rw [hf] at h1
  cases r with
  |none=>exact h1.amk hg
  |some q=>obtain⟨x,y⟩:=q;exact anw (h1.amk hg) (MF ht)
theorem anA {s:ay}{t:bf}{l:List Pt}{k:Nat}{p old:Pt}{many:Int}(h:s.wf) (ht:t.rd) (ho:aZ old=true) (hg:amg s):amg (pN s t l k p many old).1:=by
 have h1:=anV (l:=l.set k p) (many:=many) h ht hg
 unfold pN
 cases !(bQ s t (l.set k p) many).2.2 with
 |true=>exact h1
 |false=>
  cases !(ptrEq p old) with
  |true=>exact ann h1 ho
  |false=>exact h1
theorem aoa {s:ay}{t:bf}{k:Int}{text:ByteArray}(h:s.wf) (ht:t.rd) (hg:amg s):amg (aY s t k text).1:=by
 have hold:aZ (dU s t k)=true:=oy (lx ht) _
 unfold aY
 cases decide (gT s t k=text)&&decide (bN t k=t.many) with
 |true=>exact hg
 |false=>
  cases decide (gT s t k≠text) with
  |true=>
   cases decide (text≠⟨#[]⟩) with
   |true=>
    have hw:=DH (text:=text) (lv:=0) h
    cases !(bd s text 0).2.2 with
    |true=>exact hg
    |false=>exact anA hw.wf ht hold (hw.amk hg)
   |false=>exact anA h ht hold hg
  |false=>exact anA h ht hold hg
theorem anI:∀{l:List ByteArray}{i:Nat}{s:ay}{t:bf}{n:Nat},s.wg n→t.ok→i+l.length≤16→amg s→amg (iU l i s t).1
 |[],_,_,_,_,_,_,_,h=>h
 |x::l,i,s,t,n,hs,ht,hi,h=>by
  rw [ZA1] at hi
  have h1:=ni (k:=(i:Int)) (text:=x) hs ht (by omega) (by omega)
  have h2:=aoa (k:=(i:Int)) (text:=x) hs.wf ht.rd h
  cases hz:(aY s t i x).2.2 with
  |false=>rw [N5 hz];exact h2
  |true=>rw [N4 hz];exact anI (l:=l) (i:=i+1) h1.1 h1.2.1 (by omega) h2
theorem aoc {s:ay}{t:bf}{many:Int}(h:s.wf) (ht:t.rd) (hg:amg s):amg (cF s t many).1:=by
 have h1:=anV (l:=aB s t) (many:=many) h ht hg
 unfold cF
 cases decide (many=t.many) with
 |true=>exact hg
 |false=>
  show amg (T8 s t many).1
  unfold T8
  cases !(bQ s t (aB s t) many).2.2 with
  |true=>exact h1
  |false=>exact anv h1 fun p hp=>lx (s:=s) ht p (ZF2 hp)
theorem an9 {s:ay}{t:bf}{text:ByteArray}{n:Nat}(hs:s.wg n) (ht:t.ok) (h:amg s):amg (dF s t text).1:=by
 unfold dF
 cases hd:decide (((kz text).length:Int)>16) with
 |true=>exact h
 |false=>
  have hl:=aA hd
  have h1:=RE (l:=kz text) (i:=0) hs ht (by omega)
  have h2:=anI (l:=kz text) (i:=0) hs ht (by omega) h
  show amg (J5 (iU (kz text) 0 s t) (kz text).length).1
  unfold J5
  cases !(iU (kz text) 0 s t).2.2 with
  |true=>exact h2
  |false=>exact aoc h1.1.wf h1.2.rd h2
theorem amg.gk {s:ay}{n:Nat}(h:amg s) (hw:s.wg n) (hn:n≤900000):s.gk:=
 ⟨hw.wf.n,ZB0 hw.g (by omega),fun p hp=>nP (h.1 p hp),by have:=hw.t;have:=h.2;omega⟩
theorem KE.amk {s:ay}(h:KE s):amg s:=⟨fun p hp=>(h.gone p hp).1,h.cg.1⟩
theorem KE.gk {s:ay}{n:Nat}(h:KE s) (hg:s.gone.length≤n) (hd:s.dead.length≤n) (hn:n≤900000):s.gk:=
 h.amk.gk (h.wg hg hd) hn
theorem an7 {s:ay}(h:s.wf) (k:Nat):(gd s k).wf:=by
 have h1:=ql (p:=((k:Int),max (s.bZ+1) s.cg,1,0,0)) h
 rw [yL (by unfold au;simp) (decide_eq_false (by show¬max (s.bZ+1) s.cg≤s.bZ;omega)) (decide_eq_false (by show¬max (s.bZ+1) s.cg<s.cg;omega))] at h1
 exact h1
theorem anj:∀{l:List Pt}{s:ay},s.wf→(j5 l s).wf∧(j5 l s).cg=s.cg
 |[],_,h=>⟨h,rfl⟩
 |p::l,s,h=>anj (l:=l) (an7 h p.1.toNat)
theorem anu {s:ay}{n:Nat}(h:s.wg n):(ie s).wg (n+1):=by
 have h1:=anj (l:=s.gone) h.wf
 refine⟨⟨h1.1.n,h1.1.sz⟩,ZA7 _,?_,?_⟩
 ·show (j5 s.gone s).dead.length≤_;rw [HN];have:=h.d;omega
 ·show (j5 s.gone s).cg+1≤_;rw [h1.2];have:=h.t;omega
abbrev ane (s:ay):ay:=(s.rows,s.refs,s.last,s.cg,s.gone,s.cg-1,s.dead,s.same)
theorem anN {s:ay}{n:Nat}(h:s.wg n):(ane s).wg n:=⟨⟨h.wf.n,h.wf.sz⟩,h.g,h.d,h.t⟩
theorem anM {s:ay}{n:Nat}(h:s.wg n) (hg:amg s):2≤(ie s).cg∧(ie s).cg≤((1001+n:Nat):Int):=by
 have h1:(ie s).cg=(j5 s.gone s).cg+1:=rfl
 rw [h1,(anj (l:=s.gone) h.wf).2]
 have:=h.t;have:=hg.2;omega
abbrev amw (s:ay) (o:Nat):ay:=((s.rows.drop o).take (s.rows.length-o),(s.refs.drop 0).take s.refs.length,(s.last.drop 0).take s.last.length,s.cg,(s.gone.drop 0).take s.gone.length,s.bZ,(s.dead.drop 0).take s.dead.length,s.same)
theorem amR (s:ay) (o:Nat):(amw s o).gone.length≤s.gone.length∧(amw s o).dead.length≤s.dead.length:=⟨by show ((s.gone.drop 0).take s.gone.length).length≤_;rw [ZC0];exact Nat.min_le_left _ _,by show ((s.dead.drop 0).take s.dead.length).length≤_;rw [ZC0];exact Nat.min_le_left _ _⟩
theorem ay.wg.small {s:ay}{n:Nat}(h:s.wg n) (hn:n≤1000000):s.small:=⟨by rw [h.wf.n.1];decide,by rw [h.wf.n.2.1];decide,by rw [h.wf.n.2.2];decide,ZB0 h.g hn,ZB0 h.d hn⟩
structure DBS (b:ay×bf×Bool):Prop where
 gk:b.1.gk
 tx:(-9223372036854775808:Int)≤(ie b.1).cg-1∧(ie b.1).cg-1≤9223372036854775807
 wg:(ane (ie b.1)).wg 20119
 ok:b.2.1.ok
theorem anX {s:ay}{o:Nat}(h:s.gone.length≤20001∧s.dead.length≤20001) (hk:iG (amw s o)=true):(amw s o).wg 20001:=(QG.1 hk).wg (ZB0 (amR s o).1 h.1) (ZB0 (amR s o).2 h.2)
theorem dbs {s:ay}{o:Nat}{t:bf}{y:ByteArray}(h:s.gone.length≤20001∧s.dead.length≤20001) (hk:iG (amw s o)=true) (ho:qF (amw s o) t=true):DBS (dF (amw s o) t y):=by
 have h1:=UC (text:=y) (anX h hk) (am3 ho)
 have h2:=an9 (text:=y) (anX h hk) (am3 ho) (QG.1 hk).amk
 exact⟨h2.gk h1.1 (by decide),by have:=anM h1.1 h2;omega,anN (anu h1.1),h1.2⟩
theorem DBS.big {b:ay×bf×Bool}(h:DBS b) (y:ByteArray):(dF (ane (ie b.1)) b.2.1 y).1.gone.length≤1000000∧(dF (ane (ie b.1)) b.2.1 y).1.dead.length≤1000000:=by
 have:=(UC (text:=y) h.wg h.ok).1
 exact⟨ZB0 this.g (by decide),ZB0 this.d (by decide)⟩
theorem DBS.lit {b:ay×bf×Bool}(h:DBS b):(ane (ie b.1)).gone.length≤1000000∧(ane (ie b.1)).dead.length≤1000000:=⟨ZB0 h.wg.g (by decide),ZB0 h.wg.d (by decide)⟩
abbrev dbC (b:ay×bf×Bool) (y:ByteArray):ay×bf×Bool:=dF (ane (ie b.1)) b.2.1 y
abbrev dbZ (b:ay×bf×Bool) (y:ByteArray):ay×Nat×bf×bf:=((dbC b y).1,0,b.2.1,(dbC b y).2.1)
theorem aor (n:Int):∃z:ByteArray,z.size=(⟨#[97,98]⟩:ByteArray).size*n.toNat:=⟨⟨⟨List.replicate (2*n.toNat) 0⟩⟩,ZG0 ..⟩
end GL
end Go.Proofs.YtclcgjhhehbdeaaGreatDoor
