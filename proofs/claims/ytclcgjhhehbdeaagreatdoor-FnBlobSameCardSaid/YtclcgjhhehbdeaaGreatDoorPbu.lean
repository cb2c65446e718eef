/- A drawn law returns true for every code (its row lists package variables, tied by the card): part 47. -/
import Derived.Test.YtclcgjhhehbdeaaGreatDoorPaw
import Derived.Test.YtclcgjhhehbdeaaGreatDoorPbc
import Derived.Test.YtclcgjhhehbdeaaGreatDoorPbg
import Derived.Test.YtclcgjhhehbdeaaGreatDoorPbi
import Derived.Test.YtclcgjhhehbdeaaGreatDoorPbn
import Derived.Test.YtclcgjhhehbdeaaGreatDoorPbr
import Derived.Test.YtclcgjhhehbdeaaGreatDoorPbs
import Derived.Test.YtclcgjhhehbdeaaGreatDoorPbt
set_option maxHeartbeats 20000000
set_option maxRecDepth 100000
set_option linter.all false
namespace Go.Proofs.YtclcgjhhehbdeaaGreatDoor
namespace GL
noncomputable section
def anl (s:ay) (p:Pt):ByteArray×Bool:=bif iG s&&aZ p then bF s p else (⟨#[]⟩,false)
theorem aoV {s:ay}{p:Pt}(h:iG s=false):anl s p=(⟨#[]⟩,false):=by unfold anl;rw [h];rfl
theorem aoU {s:ay}{p:Pt}(h:aZ p=false):anl s p=(⟨#[]⟩,false):=by unfold anl;rw [h,ZD7];rfl
theorem aoT {s:ay}{p:Pt}(h:iG s=true) (h2:aZ p=true):anl s p=bF s p:=by unfold anl;rw [h,h2];rfl
def ant (s:ay) (t:bf) (k:Int):ByteArray×Bool:=bif (pq s t).2&&ig k 0 ((pq s t).1.length-1) then bF s (nth ae (pq s t).1 k.toNat) else (⟨#[]⟩,false)
theorem aop {s:ay}{t:bf}{k:Int}(h:(pq s t).2=false):ant s t k=(⟨#[]⟩,false):=by unfold ant;rw [h];rfl
theorem aoo {s:ay}{t:bf}{k:Int}(h:ig k 0 ((pq s t).1.length-1)=false):ant s t k=(⟨#[]⟩,false):=by unfold ant;rw [h,ZD7];rfl
theorem aon {s:ay}{t:bf}{k:Int}(h:(pq s t).2=true) (h2:ig k 0 ((pq s t).1.length-1)=true):ant s t k=bF s (nth ae (pq s t).1 k.toNat):=by unfold ant;rw [h,h2];rfl
theorem ani {s:ay}{many:Int}:∀{l:List Pt}{i:Int},j6 s many i l=true→∀p∈l,au p=false→(bF s p).2=true∧p.2.2.2.2=0
 |q::l,i,h,p,hp,hh=>by
  unfold j6 at h
  cases hq:au q with
  |true=>
   rw [hq,cond_true] at h
   rcases ZB8.1 hp with rfl |hp
   ·rw [hq] at hh;cases hh
   ·exact ani h p hp hh
  |false=>
   rw [hq,cond_false] at h
   cases hb:q9 s many i q with
   |true=>rw [hb] at h;cases h
   |false=>
    rw [hb,cond_false] at h
    rcases ZB8.1 hp with rfl |hp
    ·unfold q9 at hb
     simp only [ZE1,decide_eq_false_iff_not,ZE9,Bool.not_eq_false'] at hb
     exact⟨hb.1,hb.2.1⟩
    ·exact ani h p hp hh
theorem ang {s:ay}{t:bf}(h:(pq s t).2=true):(iG s=true∧((pq s t).1.length:Int)=t.many)∧∀p∈(pq s t).1,(aZ p=true∧p.2.2.2.2=0)∧(bF s p).2=true:=by
 rw [YC] at h
 obtain⟨h1,h2⟩:=Bool.and_eq_true_iff.1 h
 have hb:=Y1 h2
 have hl:(!(bA s t).2)=false:=by
  cases hl: !(bA s t).2 with
  |false=>rfl
  |true=>rw [Y3 hb hl] at h2;cases h2
 have hf:=(Y2 hb hl).symm.trans h2
 have hm:0≤t.many:=by
  have hb':=hb
  unfold lS at hb'
  exact (cC.1 (cL (ZE1.1 hb').1)).1
 have hk:=adl h2
 rw [K3 h1 h2]
 refine⟨⟨h1,?_⟩,fun p hp=>?_⟩
 ·show ((List.take _ _).length:Int)=_
  rw [ZC0];omega
 ·have hp':p∈(bA s t).1:=ZE6 hp
  have cG:aZ p=true:=H3 (aho h2) p hp'
  cases hh:au p with
  |false=>exact⟨⟨cG,(ani hf p hp' hh).2⟩,(ani hf p hp' hh).1⟩
  |true=>
   exact⟨⟨cG,W9 hh⟩,by rw [fS hh]⟩
theorem anf {s:ay}{t:bf}(h:(iG s&&qF s t)=false):pq s t=([],false):=by unfold pq;rw [h];rfl
theorem aow {s:ay}{t:bf}(h:(iG s&&qF s t)=true):pq s t=((bA s t).1.take t.many.toNat,true):=by unfold pq;rw [h];rfl
theorem aoc {x:List Pt×Bool}{b:Bool}(e:x=([],b)):Wk (.t [.s (.vw ae x.1),.s (.q x.2)]) (.t [.s (.v (.slice none 0 0)),.s (.q b)]):=by
 subst e;exact Wk.tup ⟨Wk.nil _,Wk.refl _,trivial⟩
theorem aoP {x:List Pt×Bool}{l:List Pt}{b:Bool}(e:x=(l,b)):Wk (.t [.s (.vw ae x.1),.s (.q x.2)]) (.t [.s (.vw ae (List.take l.length l)),.s (.q b)]):=by
 subst e;rw [ZD1 (ZB5 _)];exact Wk.refl _
def am1 (S:ay) (t:bf):Prop:=S.gone.length≤1000000∧S.dead.length≤1000000
def aox (S:ay) (t:bf):AV:=.t [.s (.vw ae (pq S t).1),.s (.q (pq S t).2)]
def aoI (S:ay) (t:bf):List AV:=[]
def aoj:cn where
 A:=[.a xq,.a [.int,.int,.int,.int,.int,.int,.int]]
 B:=[]
 pre:=fun x b=>am1 (x.1) (x.2)
 r:=fun x b _=>aox (x.1) (x.2)
 o:=fun x b _=>aoI (x.1) (x.2)
theorem aoB:Has Tryz.prog 28 aoj:=by
 refine Has.al0 zT zF (fun d=>d==17) (l:=[(64,yS),(65,DB),(66,JZ)]) ⟨W1,abF,adU,aa⟩ Tryz.func28 ?_
 rintro⟨⟨(aj:List ByteArray),(ak:List Int),(an:List Int),(ao:Int),(ah:List Pt),(aq:Int),(ai:List Pt),(ar:Bool)⟩,⟨(t1:Int),(t2:Int),(t3:Int),(t4:Int),(t5:Int),(t6:Int),(t7:Int)⟩⟩ _ (hp:am1 (aj,ak,an,ao,ah,aq,ai,ar) (t1,t2,t3,t4,t5,t6,t7))
 show vc _ _ _ _ (entry [.a [.vz ab aj,.vz ag ak,.vz ag an,.int ao,.vz ae ah,.int aq,.vz ae ai,.q ar],.a [.int t1,.int t2,.int t3,.int t4,.int t5,.int t6,.int t7]] []) _
 let g':=(aj,ak,an,ao,ah,aq,ai,ar)
 let A':=(t1,t2,t3,t4,t5,t6,t7)
 obtain⟨hg,hd⟩:=hp
 have hk:(!(iG g'))=false→KE g':=fun h=>QG.1 (cL h)
 have dE:(!(iG g'))=false→ay.rd g':=fun h=>(hk h).rd
 have hlen:∀b:Bool,b=qF g' A'→b=true→(bA g' A').1.length≤16:=fun b h h2=>q8 (aho (h ▸ h2))
 refine⟨⟨⟨tv9,aa⟩,?_,?_⟩,fun x1 w2=>⟨fun w3=>?_,fun w4=>⟨⟨⟨aa,tv8,aa⟩,?_,?_⟩,fun |false=>fun w5=>⟨⟨tv2,?_⟩,fun |false=>fun w6=>?_ |true=>fun w7=>?_⟩ |true=>fun w8=>⟨⟨⟨?_,aa⟩,?_⟩,fun |false=>fun w9=>?_ |true=>fun dx=>?_⟩⟩⟩⟩
 all_goals first|refine aw ?_|refine ax ?_|exact a8|(dsimp only [yS,th,DB,vd,JZ,yg];omega)|exact a7|exact hg|exact hd|exact dE w4|(show 0≤ao;have h:1≤ao∧ao≤900:=(hk w4).cg;omega)|exact ZA7 _|(show 0+t7.toNat≤_;rw [ZA6];exact adl (s:=g') (t:=A') (show true=qF g' A' from w8).symm)|(show (List.take _ _).length≤1000000;have:=hlen true w8 rfl;rw [ZC0];exact ZB0 (Nat.min_le_right _ _) (ZB0 this (by decide)))|skip
 ·refine⟨[],[],_,_,_,rfl,cf,(),0,aa,aoc (aay (uo w3)),rfl,rfl⟩
 ·refine⟨[],[],_,_,_,rfl,cf,(),0,aa,aoP (K4 (show qF g' A'=false from (show false=qF g' A' from w5).symm)),rfl,rfl⟩
 ·refine⟨[],[],_,_,_,rfl,cf,(),0,aa,aoc (K4 (show qF g' A'=false from (show false=qF g' A' from w5).symm)),rfl,rfl⟩
 ·refine⟨[],[],_,_,_,rfl,cf,(),0,aa,aoP (K3 (cL w4) (show qF g' A'=true from (show true=qF g' A' from w8).symm)),rfl,rfl⟩
 ·refine⟨[],[],_,_,_,rfl,cf,(),0,aa,aoc ((K3 (cL w4) (show qF g' A'=true from (show true=qF g' A' from w8).symm)).trans (congrArg (fun l=>(l,true)) (dx rfl))),rfl,rfl⟩
theorem anP {s:ay}{t:bf}(h:qF s t=true):(0≤t.many∧t.many≤16)∧t.many.toNat≤(bA s t).1.length:=by
 have hb:=Y1 h
 unfold lS at hb
 exact⟨cC.1 (cL (ZE1.1 hb).1),adl h⟩
theorem amX {s:ay}{t:bf}(h:(pq s t).2=true):((pq s t).1.length:Int)=t.many∧(pq s t).1.length≤16:=by
 rw [YC] at h
 obtain⟨h1,h2⟩:=Bool.and_eq_true_iff.1 h
 have h3:=anP h2
 rw [K3 h1 h2]
 show ((List.take _ _).length:Int)=_∧(List.take _ _).length≤_
 rw [ZC0];omega
theorem amV {s:ay}{t:bf}(h:(pq s t).2=true):(pq s t).1.length≤16:=(amX h).2
def am2 (S:ay) (t:bf):Prop:=S.gone.length≤1000000∧S.dead.length≤1000000
def amO (S:ay) (t:bf):AV:=.t [.s (.vw ae (pq S t).1),.s (.q (pq S t).2)]
def anM (S:ay) (t:bf):List AV:=[]
def an0:cn where
 A:=[.a xq,.a [.int,.int,.int,.int,.int,.int,.int]]
 B:=[]
 pre:=fun x b=>am2 (x.1) (x.2)
 r:=fun x b _=>amO (x.1) (x.2)
 o:=fun x b _=>anM (x.1) (x.2)
theorem aoK:Has Tryz.prog 30 an0:=by
 refine Has.fl zT zF (fun d=>d==24) (l:=[(39,ae9),(56,kN)]) ⟨aiY,yz,aa⟩ Tryz.func30 ?_
 rintro⟨⟨(aj:List ByteArray),(ak:List Int),(an:List Int),(ao:Int),(ah:List Pt),(aq:Int),(ai:List Pt),(ar:Bool)⟩,⟨(t1:Int),(t2:Int),(t3:Int),(t4:Int),(t5:Int),(t6:Int),(t7:Int)⟩⟩ _ (hp:am2 (aj,ak,an,ao,ah,aq,ai,ar) (t1,t2,t3,t4,t5,t6,t7))
 show vc _ _ _ _ (entry [.a [.vz ab aj,.vz ag ak,.vz ag an,.int ao,.vz ae ah,.int aq,.vz ae ai,.q ar],.a [.int t1,.int t2,.int t3,.int t4,.int t5,.int t6,.int t7]] []) _
 let g':=(aj,ak,an,ao,ah,aq,ai,ar)
 let A':=(t1,t2,t3,t4,t5,t6,t7)
 obtain⟨hg,hd⟩:=hp
 have hk:(!(iG g'&&qF g' A'))=false→KE g'∧qF g' A'=true:=fun h=>⟨QG.1 (Bool.and_eq_true_iff.1 (cL h)).1,(Bool.and_eq_true_iff.1 (cL h)).2⟩
 refine⟨⟨⟨tv9,tv8,aa⟩,?_,?_⟩,fun x1 w2=>⟨fun w3=>⟨aa,?_⟩,fun w4=>⟨⟨⟨tv9,tv8,aa⟩,?_,?_⟩,fun x5 w6=>⟨aa,⟨?_,?_,?_⟩,⟨⟨?_,?_⟩,?_⟩,?_⟩⟩⟩⟩
 all_goals first|refine aw ?_|refine ax ?_|exact a8|(dsimp only [ae9,G3,kN,lJ];omega)|exact a7|exact hg|exact hd|exact (hk w4).1.rd|exact (aho (hk w4).2).dep|exact (anP (hk w4).2).1.1|(show t7≤((bA g' A').1.length:Int);have h:0≤t7:=(anP (hk w4).2).1.1;have h2:t7.toNat≤(bA g' A').1.length:=(anP (hk w4).2).2;omega)|(show 0+(List.take t7.toNat (bA g' A').1).length≤1048576;rw [ZC0];have h:t7≤16:=(anP (hk w4).2).1.2;omega)|(show 0+0+t7.toNat≤(bA g' A').1.length;have h2:t7.toNat≤(bA g' A').1.length:=(anP (hk w4).2).2;omega)|skip
 ·refine⟨[],[],_,_,_,rfl,cf,(),aa,?_,?_,rfl⟩
  ·(show _=amO g' A');unfold amO;first|(rw [anf (s:=g') (t:=A') (xi w3)];rfl)|rfl
  ·rfl
 ·have e:=aow (s:=g') (t:=A') (cL w4)
  refine⟨[],[],_,_,_,rfl,cf,(),aa,?_,?_,rfl⟩
  ·(show _=amO g' A');unfold amO;first|(rw [e];exact congrArg (fun l=>AV.t [.s (.vw ae l),.s (.q true)]) (ZD1 (ZA8 (ZA6 _).symm)))|rfl
  ·rfl
def anh (S:ay) (t:bf) (k:Int):Prop:=S.gone.length≤1000000∧S.dead.length≤1000000
def amK (S:ay) (t:bf) (k:Int):AV:=.t [.s (.str (ant S t k).1),.s (.q (ant S t k).2)]
def an8 (S:ay) (t:bf) (k:Int):List AV:=[]
def aoi:cn where
 A:=[.a xq,.a [.int,.int,.int,.int,.int,.int,.int],.s .int]
 B:=[]
 pre:=fun x b=>anh (x.1) (x.2.1) (x.2.2)
 r:=fun x b _=>amK (x.1) (x.2.1) (x.2.2)
 o:=fun x b _=>an8 (x.1) (x.2.1) (x.2.2)
theorem aoX:Has Tryz.prog 10 aoi:=by
 refine Has.zv zT zF zF (l:=[(28,aoj),(31,cr),(32,kC)]) ⟨aoB,fL,zD,aa⟩ Tryz.func10 ?_
 rintro⟨⟨(aj:List ByteArray),(ak:List Int),(an:List Int),(ao:Int),(ah:List Pt),(aq:Int),(ai:List Pt),(ar:Bool)⟩,⟨(t1:Int),(t2:Int),(t3:Int),(t4:Int),(t5:Int),(t6:Int),(t7:Int)⟩,(k:Int)⟩ _ (hp:anh (aj,ak,an,ao,ah,aq,ai,ar) (t1,t2,t3,t4,t5,t6,t7) k)
 show vc _ _ _ _ (entry [.a [.vz ab aj,.vz ag ak,.vz ag an,.int ao,.vz ae ah,.int aq,.vz ae ai,.q ar],.a [.int t1,.int t2,.int t3,.int t4,.int t5,.int t6,.int t7],.int k] []) _
 let g':=(aj,ak,an,ao,ah,aq,ai,ar)
 let A':=(t1,t2,t3,t4,t5,t6,t7)
 obtain⟨hg,hd⟩:=hp
 have hk:(!((pq g' A').2))=false→KE g':=fun h=>QG.1 (ang (cL h)).1.1
 have hi:(!(ig k 0 (((pq g' A').1.length:Int)-1)))=false→0≤k∧k<((pq g' A').1.length:Int):=fun h=>by have:=cC.1 (cL h);omega
 have hn:(!((pq g' A').2))=false→(!(ig k 0 (((pq g' A').1.length:Int)-1)))=false→aZ (nth ae (pq g' A').1 k.toNat)=true:=fun h1 h2=>((ang (cL h1)).2 _ (bR (ek:=ae) (show k.toNat<(pq g' A').1.length by have:=hi h2;omega))).1.1
 refine⟨⟨⟨tv9,tv8,aa⟩,?_,?_⟩,fun x1 w2=>⟨aa,fun w3=>?_,fun w4=>⟨⟨?_,?_⟩,⟨tv4,aa⟩,fun x5 w6=>⟨fun w7=>?_,fun w8=>⟨⟨?_,?_⟩,⟨⟨aa,tv6,aa⟩,fun x9 dx=>?_,?_,?_⟩,fun ku dI=>?_⟩⟩⟩⟩⟩
 all_goals first|refine aw ?_|refine ax ?_|exact a8|(dsimp only [aoj,am1,cr,df,kC,k6];omega)|exact a7|exact hg|exact hd|(have h:=amV (cL w4);simp only [gJ,imax];omega)|(have h:=amV (s:=g') (t:=A') (cL w4);show -9223372036854775808≤(((pq g' A').1.length:Int)-1);omega)|(have h:=amV (s:=g') (t:=A') (cL w4);show (((pq g' A').1.length:Int)-1)≤9223372036854775807;omega)|exact (hi w8).1|exact (hi w8).2|exact (hk w4).rd.sz _ dx|exact (hk w4).len|exact hn w4 w8|skip
 ·have e:=aop (s:=g') (t:=A') (k:=k) (uo w3)
  refine⟨[],[],_,_,_,rfl,az,(),aa,?_,?_,rfl⟩
  ·(show _=amK g' A' k);unfold amK;first|(rw [e];rfl)|rfl
  ·rfl
 ·have e:=aoo (s:=g') (t:=A') (k:=k) (uo w7)
  refine⟨[],[],_,_,_,rfl,az,(),aa,?_,?_,rfl⟩
  ·(show _=amK g' A' k);unfold amK;first|(rw [e];rfl)|rfl
  ·rfl
 ·have e:=aon (s:=g') (t:=A') (k:=k) (cL w4) (cL w8)
  refine⟨[],[],_,_,_,rfl,az,(),aa,?_,?_,rfl⟩
  ·(show _=amK g' A' k);unfold amK;first|(rw [e];rfl)|rfl
  ·rfl
def anE (a:List Pt) (b:List Pt):Prop:=a=b∧a.length≤1000000
def am9 (a:List Pt) (b:List Pt):AV:=.s (.q true)
def aor (a:List Pt) (b:List Pt):List AV:=[]
def aoE:cn where
 A:=[.s (.vz ae),.s (.vz ae)]
 B:=[]
 pre:=fun x b=>anE (x.1) (x.2)
 r:=fun x b _=>am9 (x.1) (x.2)
 o:=fun x b _=>aor (x.1) (x.2)
theorem ao2:Has Tryz.prog 47 aoE:=by
 refine Has.fl zT zF zF (l:=[]) trivial Tryz.func47 ?_
 rintro⟨(a:List Pt),(b:List Pt)⟩ _ (hp:anE a b)
 show vc _ _ _ _ (entry [.s (.vz ae a),.s (.vz ae b)] []) _
 obtain⟨(he:a=b),(hl:a.length≤1000000)⟩:=hp
 have hll:a.length=b.length:=congrArg List.length he
 refine⟨fun w1=>?_,fun w2=>?_⟩
 all_goals first|refine aw ?_|refine ax ?_|exact a8|exact a7|skip
 ·exact absurd (congrArg (Nat.cast:Nat→Int) hll) (aJ w1)
 ·refine cN (l:=[]) (ex:=zT) (wr:=zF) (pt:=zF) trivial [.s 0,.s 1] (fun i:Nat=>[(.s 5,.int i)]) (fun i=>i≤a.length) (fun i=>a.length-i) 0 [] (ZA7 _) dL ?_
  rintro i (hi:i≤a.length)
  have cm:decide ((i:Int)<(a.length:Int))=true→i<a.length:=fun h=>by have:=aJ h;omega
  refine⟨fun w1=>⟨Sq0,Sq17,rfl,Sq5,Sq18,rfl,[.s 17,.s 18],Sq19,rfl,⟨?_,?_⟩,Sq19,Sq20,rfl,Sq1,Sq21,rfl,Sq5,Sq22,rfl,[.s 21,.s 22],Sq23,rfl,⟨?_,?_⟩,Sq23,Sq24,rfl,[.s 20,.s 24],Sq25,rfl,fun w2=>?_,fun w3=>⟨⟨?_,?_⟩,?_⟩⟩,fun w4=>?_⟩
  all_goals first|refine aw ?_|refine ax ?_|exact a8|exact a7|exact cm w1|(have h:=cm w1;show ((i:Int))<(b.length:Int);omega)|skip
  ·subst he;simp at w2
  ·refine⟨(i+1),[],?_,?_,?_⟩
   rotate_right
   ·exact bV
   ·show i+1≤a.length;have:=cm w1;omega
   ·show a.length-(i+1)<a.length-i;have:=cm w1;omega
  ·refine⟨[],[],_,_,_,rfl,az,(),aa,?_,?_,rfl⟩
   ·(show _=am9 a b);unfold am9;first|rfl
   ·rfl
end
end GL
namespace GL
theorem KE.wf {s:ay}(h:KE s):s.wf:=
 ⟨⟨h.len,(QK h.sp).1,(QK h.sp).2⟩,h.rd.2⟩
theorem KE.wg {s:ay}{n:Nat}(h:KE s) (hg:s.gone.length≤n) (hd:s.dead.length≤n):s.wg n:=
 ⟨h.wf,hg,hd,by have:=h.cg;omega⟩
theorem anA {s:ay}{t:bf}(h:qF s t=true):t.ok:=by
 have hb:=Y1 h
 unfold lS at hb
 have h4:=cC.1 (cL (ZE1.1 hb).1)
 exact⟨aho h,h4.1,h4.2⟩
end GL
namespace GL
def ame (s:ay):Prop:=(∀p∈s.gone,aZ p=true)∧1≤s.cg
theorem anK {s:ay}{p:Pt}(h:ame s) (hp:aZ p=true):ame (cM s p):=by
 refine⟨?_,by rw [wR];exact h.2⟩
 replace h:=h.1
 unfold cM
 cases au p with
 |true=>exact h
 |false=>
  cases decide (p.2.1≤s.bZ) with
  |true=>exact h
  |false=>
   cases decide (p.2.1<s.cg) with
   |true=>
    intro q hq
    rcases ZB4.1 (show q∈s.gone++[p] from hq) with hq |hq
    ·exact h q hq
    ·rw [ZC7.1 hq];exact hp
   |false=>exact h
theorem anR:∀{l:List Pt}{s:ay},ame s→(∀p∈l,aZ p=true)→ame (dw l s)
 |[],_,h,_=>h
 |p::l,s,h,hl=>anR (l:=l) (anK h (hl p (List.mem_cons_self ..))) fun q hq=>hl q (List.mem_cons_of_mem _ hq)
theorem anS {sy:List Pt}:∀{l:List Pt}{s:ay},ame s→(∀p∈l,aZ p=true)→ame (dW l sy s)
 |[],_,h,_=>h
 |p::l,s,h,hl=>by
  refine anS (l:=l) ?_ fun q hq=>hl q (List.mem_cons_of_mem _ hq)
  cases gV sy p with
  |true=>exact h
  |false=>exact anK h (hl p (List.mem_cons_self ..))
theorem uh.amm {s u:ay}(h:uh s u) (hs:ame s):ame u:=⟨fun p hp=>hs.1 p (by rw [←h.gone];exact hp),by rw [h.cg];exact hs.2⟩
theorem aok {s:ay}{t:bf}{l:List Pt}{many:Int}(h:s.wf) (ht:t.rd) (hg:ame s):ame (bQ s t l many).1:=by
 unfold bQ
 have h1:=wI (f:=3) (t:=t) (d:=bj many) (lv:=1) (l:=l.take many.toNat) (sy:=[]) h
 cases hf:mg 3 s t (bj many) 1 (l.take many.toNat) [] with
 |mk s' r=>
  rw [hf] at h1
  cases r with
  |none=>exact h1.amm hg
  |some q=>obtain⟨x,y⟩:=q;exact anS (h1.amm hg) (MF ht)
theorem anT {s:ay}{t:bf}{l:List Pt}{k:Nat}{p old:Pt}{many:Int}(h:s.wf) (ht:t.rd) (ho:aZ old=true) (hg:ame s):ame (pN s t l k p many old).1:=by
 have h1:=aok (l:=l.set k p) (many:=many) h ht hg
 unfold pN
 cases !(bQ s t (l.set k p) many).2.2 with
 |true=>exact h1
 |false=>
  cases !(ptrEq p old) with
  |true=>exact anK h1 ho
  |false=>exact h1
theorem aoH {s:ay}{t:bf}{k:Int}{text:ByteArray}(h:s.wf) (ht:t.rd) (hg:ame s):ame (aY s t k text).1:=by
 have hold:aZ (dU s t k)=true:=oy (lx ht) _
 unfold aY
 cases decide (gT s t k=text)&&decide (bN t k=t.many) with
 |true=>exact hg
 |false=>
  cases decide (gT s t k≠text) with
  |true=>
   cases decide (text≠⟨#[]⟩) with
   |true=>
    have hw:=DH (text:=text) (lv:=0) h
    cases !(bd s text 0).2.2 with
    |true=>exact hg
    |false=>exact anT hw.wf ht hold (hw.amm hg)
   |false=>exact anT h ht hold hg
  |false=>exact anT h ht hold hg
theorem an7:∀{l:List ByteArray}{i:Nat}{s:ay}{t:bf}{n:Nat},s.wg n→t.ok→i+l.length≤16→ame s→ame (iU l i s t).1
 |[],_,_,_,_,_,_,_,h=>h
 |x::l,i,s,t,n,hs,ht,hi,h=>by
  rw [ZA1] at hi
  have h1:=ni (k:=(i:Int)) (text:=x) hs ht (by omega) (by omega)
  have h2:=aoH (k:=(i:Int)) (text:=x) hs.wf ht.rd h
  cases hz:(aY s t i x).2.2 with
  |false=>rw [N5 hz];exact h2
  |true=>rw [N4 hz];exact an7 (l:=l) (i:=i+1) h1.1 h1.2.1 (by omega) h2
theorem aoM {s:ay}{t:bf}{many:Int}(h:s.wf) (ht:t.rd) (hg:ame s):ame (cF s t many).1:=by
 have h1:=aok (l:=aB s t) (many:=many) h ht hg
 unfold cF
 cases decide (many=t.many) with
 |true=>exact hg
 |false=>
  show ame (T8 s t many).1
  unfold T8
  cases !(bQ s t (aB s t) many).2.2 with
  |true=>exact h1
  |false=>exact anR h1 fun p hp=>lx (s:=s) ht p (ZF2 hp)
theorem aoF {s:ay}{t:bf}{text:ByteArray}{n:Nat}(hs:s.wg n) (ht:t.ok) (h:ame s):ame (dF s t text).1:=by
 unfold dF
 cases hd:decide (((kz text).length:Int)>16) with
 |true=>exact h
 |false=>
  have hl:=aA hd
  have h1:=RE (l:=kz text) (i:=0) hs ht (by omega)
  have h2:=an7 (l:=kz text) (i:=0) hs ht (by omega) h
  show ame (J5 (iU (kz text) 0 s t) (kz text).length).1
  unfold J5
  cases !(iU (kz text) 0 s t).2.2 with
  |true=>exact h2
  |false=>exact aoM h1.1.wf h1.2.rd h2
theorem ame.gk {s:ay}{n:Nat}(h:ame s) (hw:s.wg n) (hn:n≤900000):s.gk:=
 ⟨hw.wf.n,ZB0 hw.g (by omega),fun p hp=>nP (h.1 p hp),by have:=hw.t;have:=h.2;omega⟩
theorem KE.amm {s:ay}(h:KE s):ame s:=⟨fun p hp=>(h.gone p hp).1,h.cg.1⟩
theorem KE.gk {s:ay}{n:Nat}(h:KE s) (hg:s.gone.length≤n) (hd:s.dead.length≤n) (hn:n≤900000):s.gk:=
 h.amm.gk (h.wg hg hd) hn
theorem aoD {s:ay}(h:s.wf) (k:Nat):(gd s k).wf:=by
 have h1:=ql (p:=((k:Int),max (s.bZ+1) s.cg,1,0,0)) h
 rw [yL (by unfold au;simp) (decide_eq_false (by show¬max (s.bZ+1) s.cg≤s.bZ;omega)) (decide_eq_false (by show¬max (s.bZ+1) s.cg<s.cg;omega))] at h1
 exact h1
theorem anF:∀{l:List Pt}{s:ay},s.wf→(j5 l s).wf∧(j5 l s).cg=s.cg
 |[],_,h=>⟨h,rfl⟩
 |p::l,s,h=>anF (l:=l) (aoD h p.1.toNat)
theorem aos {s:ay}{n:Nat}(h:s.wg n):(ie s).wg (n+1):=by
 have h1:=anF (l:=s.gone) h.wf
 refine⟨⟨h1.1.n,h1.1.sz⟩,ZA7 _,?_,?_⟩
 ·show (j5 s.gone s).dead.length≤_;rw [HN];have:=h.d;omega
 ·show (j5 s.gone s).cg+1≤_;rw [h1.2];have:=h.t;omega
abbrev anx (s:ay):ay:=(s.rows,s.refs,s.last,s.cg,s.gone,s.cg-1,s.dead,s.same)
theorem aoA {s:ay}{n:Nat}(h:s.wg n):(anx s).wg n:=⟨⟨h.wf.n,h.wf.sz⟩,h.g,h.d,h.t⟩
theorem aoz {s:ay}{n:Nat}(h:s.wg n) (hg:ame s):2≤(ie s).cg∧(ie s).cg≤((1001+n:Nat):Int):=by
 have h1:(ie s).cg=(j5 s.gone s).cg+1:=rfl
 rw [h1,(anF (l:=s.gone) h.wf).2]
 have:=h.t;have:=hg.2;omega
abbrev amP (s:ay) (o:Nat):ay:=((s.rows.drop o).take (s.rows.length-o),(s.refs.drop 0).take s.refs.length,(s.last.drop 0).take s.last.length,s.cg,(s.gone.drop 0).take s.gone.length,s.bZ,(s.dead.drop 0).take s.dead.length,s.same)
theorem anp (s:ay) (o:Nat):(amP s o).gone.length≤s.gone.length∧(amP s o).dead.length≤s.dead.length:=⟨by show ((s.gone.drop 0).take s.gone.length).length≤_;rw [ZC0];exact Nat.min_le_left _ _,by show ((s.dead.drop 0).take s.dead.length).length≤_;rw [ZC0];exact Nat.min_le_left _ _⟩
theorem ay.wg.small {s:ay}{n:Nat}(h:s.wg n) (hn:n≤1000000):s.small:=⟨by rw [h.wf.n.1];decide,by rw [h.wf.n.2.1];decide,by rw [h.wf.n.2.2];decide,ZB0 h.g hn,ZB0 h.d hn⟩
structure DBS (b:ay×bf×Bool):Prop where
 gk:b.1.gk
 tx:(-9223372036854775808:Int)≤(ie b.1).cg-1∧(ie b.1).cg-1≤9223372036854775807
 wg:(anx (ie b.1)).wg 20119
 ok:b.2.1.ok
theorem anC {s:ay}{o:Nat}(h:s.gone.length≤20001∧s.dead.length≤20001) (hk:iG (amP s o)=true):(amP s o).wg 20001:=(QG.1 hk).wg (ZB0 (anp s o).1 h.1) (ZB0 (anp s o).2 h.2)
theorem dbs {s:ay}{o:Nat}{t:bf}{y:ByteArray}(h:s.gone.length≤20001∧s.dead.length≤20001) (hk:iG (amP s o)=true) (ho:qF (amP s o) t=true):DBS (dF (amP s o) t y):=by
 have h1:=UC (text:=y) (anC h hk) (anA ho)
 have h2:=aoF (text:=y) (anC h hk) (anA ho) (QG.1 hk).amm
 exact⟨h2.gk h1.1 (by decide),by have:=aoz h1.1 h2;omega,aoA (aos h1.1),h1.2⟩
theorem DBS.big {b:ay×bf×Bool}(h:DBS b) (y:ByteArray):(dF (anx (ie b.1)) b.2.1 y).1.gone.length≤1000000∧(dF (anx (ie b.1)) b.2.1 y).1.dead.length≤1000000:=by
 have:=(UC (text:=y) h.wg h.ok).1
 exact⟨ZB0 this.g (by decide),ZB0 this.d (by decide)⟩
theorem DBS.lit {b:ay×bf×Bool}(h:DBS b):(anx (ie b.1)).gone.length≤1000000∧(anx (ie b.1)).dead.length≤1000000:=⟨ZB0 h.wg.g (by decide),ZB0 h.wg.d (by decide)⟩
abbrev dbC (b:ay×bf×Bool) (y:ByteArray):ay×bf×Bool:=dF (anx (ie b.1)) b.2.1 y
abbrev dbZ (b:ay×bf×Bool) (y:ByteArray):ay×Nat×bf×bf:=((dbC b y).1,0,b.2.1,(dbC b y).2.1)
theorem aoJ (n:Int):∃z:ByteArray,z.size=(⟨#[97,98]⟩:ByteArray).size*n.toNat:=⟨⟨⟨List.replicate (2*n.toNat) 0⟩⟩,ZG0 ..⟩
end GL
namespace GL
attribute [local irreducible] dF iG qF
def amQ (c:List Int):Prop:=aj2 c
def ano (c:List Int) (z:ay×Nat×bf×bf):Prop:=(z.1.gone.length≤1000000∧z.1.dead.length≤1000000)∧z.2.1≤z.1.rows.length
def ann (c:List Int) (z:ay×Nat×bf×bf):AV:=.t [.a [.xs 0 1 z.2.1 (z.1.rows.length-z.2.1),.xs 1 1 0 z.1.refs.length,.xs 2 1 0 z.1.last.length,.int z.1.cg,.xs 3 5 0 z.1.gone.length,.int z.1.bZ,.xs 4 5 0 z.1.dead.length,.q z.1.same],trA z.2.2.1,trA z.2.2.2]
def anz (c:List Int) (z:ay×Nat×bf×bf):List AV:=[.rs ab z.1.rows,.rs ag z.1.refs,.rs ag z.1.last,.rs ae z.1.gone,.rs ae z.1.dead]
def amT:cn where
 A:=[.s (.vw ma)]
 B:=[]
 pre:=fun x b=>amQ x
 α:=fun _ _=>ay×Nat×bf×bf
 φ:=fun x b z=>ano x z
 r:=fun x b z=>ann x z
 o:=fun x b z=>anz x z
 nf:=5
theorem anJ:Has Tryz.prog 11 amT:=by
 refine Has.fl zT zF (fun d=>d==21||d==25||d==29) (l:=[(19,ae8),(20,ab1),(21,ba),(22,sI),(23,JQ),(25,jB),(34,l7),(33,PO),(24,gY)]) ⟨aiX,aiq,dh,MC,adJ,IB,adM,afO,su,aa⟩ Tryz.func11 ?_
 rintro (c:List Int) _ (hp:amQ c)
 show vc _ _ _ _ (entry [.s (.vw ma c)] []) _
 have hb:aj2 c:=hp
 have dE:∀{b:List Int} {p:Int},Rdr (b,0) 0→0≤p→p≤50000→Rdr (b,p) 1000000:=fun h h0 h1=>h.at h0 (ZE0 h1 (by decide))
 have hpk:∀{p:Int} {x:Int×Int},((x.1=0∨(0≤x.1∧x.1<150))∧x.2=p+1)→0≤x.1∧x.1<150:=fun h=>pk (n:=150) (by decide) h
 have hp3:∀{p:Int} {x:Int×Int},((x.1=0∨(0≤x.1∧x.1<150))∧x.2=p+1)→x.1≤1000:=fun h=>by have:=hpk h;omega
 have hp1:∀{p:Int} {x:Int×Int} {C:Prop},0≤p→C∧x.2=p+1→0≤x.2:=fun h h2=>by have:=h2.2;omega
 have hp2:∀{p n:Int} {x:Int×Int} {C:Prop},p≤n→C∧x.2=p+1→x.2≤n+1:=fun h h2=>by have:=h2.2;omega
 have hts:∀{p:Int} {x:Int×Int} {y:ByteArray},((x.1=0∨(0≤x.1∧x.1<150))∧x.2=p+1)→y.size=(⟨#[97,98]⟩:ByteArray).size*x.1.toNat→y.size≤1000000:=fun h h2=>by
  rw [h2,show (⟨#[97,98]⟩:ByteArray).size=2 from rfl];have:=hpk h;omega
 refine⟨⟨tv2,?_⟩,fun x1 w2=>⟨⟨tv2,?_⟩,fun x3 w4=>⟨⟨⟨⟨?_,?_,?_,aa,?_,aa,?_,tv2⟩,aa⟩,?_,?_⟩,fun x5 w6=>⟨aa,fun w7=>⟨⟨⟨⟨?_,?_,?_,aa,?_,aa,?_,tv2⟩,tv8,aa⟩,?_⟩,fun x8 w9=>⟨fun dx=>⟨[.s 6,.b 1006],Sq28,rfl,[.s 28,.b 170000,.b 170001,.b 170002,.b 170003,.b 170004,.b 300004,.b 300003,.b 300002,.b 300001,.b 300000],[.s 29,.b 300000,.b 300001,.b 300002,.b 300003,.b 300004],rfl,⟨⟨⟨?_,?_,?_,aa,?_,aa,?_,tv2⟩,aa⟩,?_,?_,?_,?_,?_⟩,?_,fun ku dI=>⟨[.s 7,.b 1007],Sq30,rfl,Sq5,Sq31,rfl,[.s 31,.b 140000],[.s 32,.b 140000],rfl,⟨tv3,?_,?_⟩,?_,fun rS gN=>⟨Sq32,Sq33,rfl,⟨tv3,?_,?_,?_⟩,?_,fun kt kc=>⟨[.s 29,.s 30,.s 33,.b 300000,.b 300001,.b 300002,.b 300003,.b 300004,.b 1000350001,.b 1000350000],[.s 34,.b 300000,.b 300001,.b 300002,.b 300003,.b 300004,.b 1000350000,.b 1000350001],rfl,⟨⟨tv9,tv8,tv2⟩,⟨?_,?_,?_,?_,?_⟩,?_,?_,?_⟩,?_,fun x17 rO=>⟨Sq34,Sq27,rfl,Sq27,Sq35,rfl,Sq27,Sq36,rfl,Sq27,Sq37,rfl,[.b 1009],[.s 9,.b 1009],rfl,[.b 1010],[.s 10,.b 1010],rfl,[.s 9,.s 35,.b 1009],[.b 1009],rfl,[.s 10,.s 36,.b 1010],[.b 1010],rfl,Sq37,Sq11,rfl,fun oH=>⟨⟨⟨tv9,aa⟩,⟨?_,?_,?_,?_,?_⟩,?_⟩,fun x20 AY=>⟨⟨?_,?_⟩,[.s 6,.b 1006],Sq48,rfl,[.s 48,.b 300000,.b 300001,.b 300002,.b 430000,.b 1000350001,.b 500004,.b 500003,.b 500002,.b 500001,.b 500000],[.s 49,.b 500000,.b 500001,.b 500002,.b 500003,.b 500004],rfl,⟨⟨⟨⟨?_,?_⟩,⟨?_,?_⟩,⟨?_,?_⟩,aa,⟨?_,?_⟩,aa,⟨?_,?_⟩,tv2⟩,aa⟩,?_,?_,?_,?_,?_⟩,?_,fun x22 xF=>⟨[.s 7,.b 1007],Sq50,rfl,Sq5,Sq51,rfl,[.s 51,.b 140000],[.s 52,.b 140000],rfl,⟨tv3,?_,?_⟩,?_,fun x24 w25=>⟨Sq52,Sq53,rfl,⟨tv3,?_,?_,?_⟩,?_,fun x26 w27=>⟨[.s 49,.s 50,.s 53,.b 500000,.b 500001,.b 500002,.b 500003,.b 500004,.b 1000550001,.b 1000550000],[.s 54,.b 500000,.b 500001,.b 500002,.b 500003,.b 500004,.b 1000550000,.b 1000550001],rfl,⟨⟨tv9,tv8,tv2⟩,⟨?_,?_,?_,?_,?_⟩,?_,?_,?_⟩,?_,fun x28 w29=>⟨Sq54,Sq47,rfl,Sq47,Sq55,rfl,Sq47,Sq56,rfl,Sq47,Sq57,rfl,[.s 9,.s 55,.b 1009],[.b 1009],rfl,[.s 10,.s 56,.b 1010],[.b 1010],rfl,Sq57,Sq11,rfl,aa,fun w30=>⟨⟨tv3,?_,?_⟩,fun x31 w32=>⟨fun w33=>⟨[.s 9,.b 1009],Sq64,rfl,[.s 7,.b 1007],Sq65,rfl,[.s 10,.b 1010],Sq66,rfl,[.s 2,.s 64,.b 1002],[.b 1002],rfl,[.s 3,.s 65,.b 1003],[.b 1003],rfl,[.s 4,.s 66,.b 1004],[.b 1004],rfl,?_⟩,fun w34=>⟨[.s 6,.b 1006],Sq67,rfl,[.s 7,.b 1007],Sq68,rfl,[.s 8,.b 1008],Sq69,rfl,[.s 2,.s 67,.b 1002],[.b 1002],rfl,[.s 3,.s 68,.b 1003],[.b 1003],rfl,[.s 4,.s 69,.b 1004],[.b 1004],rfl,?_⟩⟩⟩,fun w35=>⟨[.s 6,.b 1006],Sq67,rfl,[.s 7,.b 1007],Sq68,rfl,[.s 8,.b 1008],Sq69,rfl,[.s 2,.s 67,.b 1002],[.b 1002],rfl,[.s 3,.s 68,.b 1003],[.b 1003],rfl,[.s 4,.s 69,.b 1004],[.b 1004],rfl,?_⟩⟩⟩⟩⟩⟩⟩,fun w36=>⟨[.s 6,.b 1006],Sq67,rfl,[.s 7,.b 1007],Sq68,rfl,[.s 8,.b 1008],Sq69,rfl,[.s 2,.s 67,.b 1002],[.b 1002],rfl,[.s 3,.s 68,.b 1003],[.b 1003],rfl,[.s 4,.s 69,.b 1004],[.b 1004],rfl,?_⟩⟩⟩⟩⟩⟩,fun w37=>⟨[.s 6,.b 1006],Sq67,rfl,[.s 7,.b 1007],Sq68,rfl,[.s 8,.b 1008],Sq69,rfl,[.s 2,.s 67,.b 1002],[.b 1002],rfl,[.s 3,.s 68,.b 1003],[.b 1003],rfl,[.s 4,.s 69,.b 1004],[.b 1004],rfl,?_⟩⟩⟩,fun w38=>⟨[.s 6,.b 1006],Sq67,rfl,[.s 7,.b 1007],Sq68,rfl,[.s 8,.b 1008],Sq69,rfl,[.s 2,.s 67,.b 1002],[.b 1002],rfl,[.s 3,.s 68,.b 1003],[.b 1003],rfl,[.s 4,.s 69,.b 1004],[.b 1004],rfl,?_⟩⟩⟩⟩⟩
 all_goals first|refine aw ?_|refine ax ?_|exact a8|(dsimp only [ae8,G2,ab1,DP,ba,ck,sI,qZ,JQ,zm,jB,pS,l7,ya,PO,BW,gY,ji,gO];omega)|exact a7|exact hb|exact Rdr.at (show Rdr (x1,0) 0 from w2) (ZC1 _) (by decide)|(show x3.2.2.1+(x3.1.rows.length-x3.2.2.1)≤x3.1.rows.length;have h:x3.2.2.1≤x3.1.rows.length:=w4.2.2;omega)|exact ZB0 (anp x3.1 x3.2.2.1).1 (ZB0 w4.1.1 (by decide))|exact ZB0 (anp x3.1 x3.2.2.1).2 (ZB0 w4.1.2 (by decide))|exact (QG.1 (show iG (amP x3.1 x3.2.2.1)=true from w7)).rd|exact aoJ _|(obtain⟨a,b,c,d,e⟩:=(anC w4.1 w7).small (by decide);first|exact a|exact b|exact c)|(have a1:(0:Int)≤x3.2.2.2:=w4.2.1.1;have a2:x3.2.2.2≤0+40000:=w4.2.1.2;exact (show Rdr (x1,x3.2.2.2) 1000000 from dE w2 a1 (ZE0 a2 (by decide))))|exact⟨(0,_),.inl rfl,rfl⟩|exact (hpk gN).1|exact hp3 gN|(show 2≤1000;decide)|exact (anC w4.1 w7).mono (by decide)|exact anA (show qF (amP x3.1 x3.2.2.1) x3.2.1=true from dx)|exact hts gN kc|exact (dbs (y:=kt) w4.1 w7 dx).gk|exact (dbs (y:=kt) w4.1 w7 dx).tx.1|exact (dbs (y:=kt) w4.1 w7 dx).tx.2|(obtain⟨a,b,c,d,e⟩:=(dbs (y:=kt) w4.1 w7 dx).wg.small (by decide);first|exact a|exact b|exact c|exact d|exact e)|(have a1:(0:Int)≤x3.2.2.2:=w4.2.1.1;have a2:x3.2.2.2≤0+40000:=w4.2.1.2;exact (show Rdr (x1,rS.2) 1000000 from dE w2 (hp1 a1 gN) (ZE0 (hp2 a2 gN) (by decide))))|exact (hpk w25).1|exact hp3 w25|exact (dbs (y:=kt) w4.1 w7 dx).wg.mono (by decide)|exact (dbs (y:=kt) w4.1 w7 dx).ok|exact hts w25 w27|(have a1:(0:Int)≤x3.2.2.2:=w4.2.1.1;have a2:x3.2.2.2≤0+40000:=w4.2.1.2;exact (show Rdr (x1,x24.2) 1000000 from dE w2 (hp1 (hp1 a1 gN) w25) (ZE0 (hp2 (hp2 a2 gN) w25) (by decide))))|skip
 ·refine⟨[500000,500001,500002,1000550000,1000550001],[],_,_,_,rfl,cf,dbZ (dF (amP x3.1 x3.2.2.1) x3.2.1 kt) x26,⟨(dbs (y:=kt) w4.1 w7 dx).big _,ZA7 _⟩,rfl,rfl,rfl⟩
 iterate 2 · refine⟨[300000,300001,300002,430000,1000350001],[],_,_,_,rfl,cf,((anx (ie (dF (amP x3.1 x3.2.2.1) x3.2.1 kt).1)),0,(dF (amP x3.1 x3.2.2.1) x3.2.1 kt).2.1,x3.2.1),⟨(dbs (y:=kt) w4.1 w7 dx).lit,ZA7 _⟩,rfl,rfl,rfl⟩
 all_goals refine⟨[170000,170001,170002,170003,170004],[],_,_,_,rfl,cf,(x3.1,x3.2.2.1,x3.2.1,x3.2.1),⟨⟨ZB0 w4.1.1 (by decide),ZB0 w4.1.2 (by decide)⟩,w4.2.2⟩,rfl,rfl,rfl⟩
end GL
namespace GL
open Go.RowKit
def amS (T:bb):bb:=fun b=>match T b with
 |some (.ro cs e fr)=>some (.ro cs e fr)
 |some (.ln cs e fr)=>some (.ln cs e fr)
 |_=>none
theorem anY {T:bb}{b:Nat}{cs:Array Value}{e:TypeId}{fr:Nat×Nat}(h:T b=some (.ro cs e fr)):amS T b=some (.ro cs e fr):=by unfold amS;rw [h]
theorem aoL {T:bb}{b:Nat}{cs:Array Value}{e:TypeId}{fr:Nat×Nat}(h:T b=some (.ln cs e fr)):amS T b=some (.ln cs e fr):=by unfold amS;rw [h]
theorem anj {T:bb}{b:Nat}{k:BK}(h:amS T b=some k):T b=some k∧∃cs e fr,k= .ro cs e fr∨k= .ln cs e fr:=by
 unfold amS at h
 cases hT:T b with
 |none=>rw [hT] at h;cases h
 |some q=>
  rw [hT] at h
  cases q with
  |ro cs e fr=>cases h;exact⟨rfl,cs,e,fr,.inl rfl⟩
  |ln cs e fr=>cases h;exact⟨rfl,cs,e,fr,.inr rfl⟩
  |ty _ _=>cases h
  |fz _ _ _=>cases h
  |bx _=>cases h
theorem anB {T:bb}(hN:UJ T) {b:Nat}{cs:Array Value}(h:rdT T b cs):rdT (amS T) b cs:=by
 rcases h with ⟨e,fr,h⟩ |⟨e,fr,h⟩ |⟨ek,n,h⟩
 ·exact .inl ⟨e,fr,anY h⟩
 ·exact .inr (.inl ⟨e,fr,aoL h⟩)
 ·exact absurd h (hN.no b ek n cs)
theorem anZ {T:bb}(hN:UJ T):UJ (amS T) where
 no:=fun b ek n cs h=>hN.no b ek n cs (anj h).1
 oR:=fun g hg=>by
  obtain⟨cs,e,fr,h1,h2⟩:=hN.oR g hg
  exact⟨cs,e,fr,anY h1,h2⟩
theorem aom {T:bb}{W w:World}(hT:WT T W) (hb:Below W.heap.size W w):WT (amS T) w:=fun b k hk=>by
 have h:=hT b k (anj hk).1
 exact BK.qi h (hb.block b (BK.lt h))
def SV.am5:SV→Bool
 |.bp _ _=>false
 |.xp _ _ _ _=>false
 |.xs _ _ _ _=>false
 |.ep _ _=>false
 |.sl _ _=>false
 |_=>true
def anV:List SV→Bool
 |[]=>true
 |x::l=>x.am5&&anV l
def A0.am5:A0→Bool
 |.s x=>x.am5
 |.a l=>anV l
def AV.am5:AV→Bool
 |.o x=>x.am5
 |.fn _ []=>true
 |_=>false
def anW:List AV→Bool
 |[]=>true
 |x::l=>x.am5&&anW l
theorem CV.fix {T:bb}(hN:UJ T) {x:CV}{y:Value}(h:x.rel T y):x.rel (amS T) y:=by
 cases x with
 |v _=>exact h
 |q _=>exact h
 |vz ek l=>
  rcases h with h |⟨b,o,cap,cs,h1,h2,h3,h4⟩
  ·exact .inl h
  ·exact .inr ⟨b,o,cap,cs,h1,h2,anB hN h3,h4⟩
theorem an5 {T:bb}(hN:UJ T):∀{l:List CV}{r:List Value},xh T l r→xh (amS T) l r
 |[],[],h=>h
 |_::_,_::_,h=>⟨CV.fix hN h.1,an5 hN h.2⟩
theorem SV.fix {T:bb}{β:Nat→Nat}(hN:UJ T) {x:SV}{y:Value}(hl:x.am5=true) (h:x.rel T β y):x.rel (amS T) β y:=by
 cases x with
 |v _=>exact h
 |q _=>exact h
 |er _=>exact h
 |e0=>exact h
 |vw ek l=>
  rcases h with h |⟨b,o,cap,cs,e,fr,h1,h2,h3,h4⟩
  ·exact .inl h
  ·exact .inr ⟨b,o,cap,cs,e,fr,h1,h2,anY h3,h4⟩
 |vz ek l=>
  rcases h with h |⟨b,o,cap,cs,h1,h2,h3,h4⟩
  ·exact .inl h
  ·exact .inr ⟨b,o,cap,cs,h1,h2,anB hN h3,h4⟩
 |vp ek x j=>
  obtain⟨b,o,cs,h1,h2,h3,h4⟩:=h
  exact⟨b,o,cs,h1,h2,anB hN h3,h4⟩
 |vs l j=>
  obtain⟨b,cs,h1,h2,h3⟩:=h
  exact⟨b,cs,h1,anB hN h2,an5 hN h3⟩
 |bp _ _=>cases hl
 |xp _ _ _ _=>cases hl
 |xs _ _ _ _=>cases hl
 |ep _ _=>cases hl
 |sl _ _=>cases hl
theorem an4 {T:bb}{β:Nat→Nat}(hN:UJ T):∀{l:List SV}{r:List Value},anV l=true→dM T β l r→dM (amS T) β l r
 |[],[],_,h=>h
 |_::_,_::_,hl,h=>⟨SV.fix hN (Bool.and_eq_true_iff.1 hl).1 h.1,an4 hN (Bool.and_eq_true_iff.1 hl).2 h.2⟩
theorem AV.fix {T:bb}{β:Nat→Nat}(hN:UJ T) {x:AV}{y:Value}(hl:x.am5=true) (h:x.rel T β y):x.rel (amS T) β y:=by
 cases x with
 |o x=>cases x with
  |s x=>exact SV.fix hN hl h
  |a l=>obtain⟨cs,h1,h2⟩:=h;exact⟨cs,h1,an4 hN hl h2⟩
 |fn f l=>exact h
 |t l=>cases hl
 |rs ek l=>cases hl
 |zz=>cases hl
theorem an6 {T:bb}{β:Nat→Nat}(hN:UJ T):∀{l:List AV}{r:List Value},anW l=true→r5 T β l r→r5 (amS T) β l r
 |[],[],_,h=>h
 |_::_,_::_,hl,h=>⟨AV.fix hN (Bool.and_eq_true_iff.1 hl).1 h.1,an6 hN (Bool.and_eq_true_iff.1 hl).2 h.2⟩
theorem SV.am8 {x:SV}(h:x.am5=true):x.boxes=[]:=by
 cases x<;>first|rfl|cases h
theorem anG:∀{l:List SV},anV l=true→cc l=[]
 |[],_=>rfl
 |x::l,h=>by
  show x.boxes++cc l=[]
  rw [SV.am8 (Bool.and_eq_true_iff.1 h).1,anG (Bool.and_eq_true_iff.1 h).2];rfl
theorem AV.am8 {x:AV}(h:x.am5=true):x.boxes=[]:=by
 cases x with
 |o x=>cases x with
  |s x=>exact SV.am8 h
  |a l=>exact anG h
 |fn f l=>cases l with
  |nil=>rfl
  |cons _ _=>cases h
 |t l=>cases h
 |rs ek l=>rfl
 |zz=>rfl
theorem anH:∀{l:List AV},anW l=true→∀av∈l,av.boxes=[]
 |x::l,h,av,hm=>by
  rcases ZB8.1 hm with rfl |hm
  ·exact AV.am8 (Bool.and_eq_true_iff.1 h).1
  ·exact anH (Bool.and_eq_true_iff.1 h).2 av hm
theorem TC.lib {P:Program}{f:FuncId}{mv:Bool}{args:List AV}{post:AV→List AV→Prop}(h:TC P f mv args [] post) (hl:anW args=true) {W w:World}{T:bb}{β:Nat→Nat}{vs:List Value}(hT:WT T W) (hN:UJ T) (c6:r5 T β args vs) (hb:Below W.heap.size W w):
  Calls P f vs.toArray w fun e w'=>∃v r os T' β',e= .returned v∧post r os∧r.rel T' β' v∧Below w.heap.size w w'∧WT T' w'∧KI w 0 mv β T' β' w' os:=by
 have hT0:=aom hT hb
 refine (h w (amS T) β vs hT0 (anZ hN) (an6 hN hl c6) (fun av ha i hi=>by rw [anH hl av ha] at hi;cases hi) ⟨ZA7 _,fun i av hi=>by simp at hi,fun i j hi=>absurd hi (Nat.not_lt_zero _)⟩).mono ?_
 rintro e w' ⟨v,r,os,T',β',he,hp,hr,_,hA,hO⟩
 refine⟨v,r,os,T',β',he,hp,hr,⟨hA.os,hA.tape,hA.output,hA.gb,fun k hk=>?_⟩,hA.typed,hO⟩
 cases hq:amS T k with
 |none=>exact hA.frame k hk (fun i hi=>absurd hi (Nat.not_lt_zero _)) (by rw [hq];trivial)
 |some q=>
  have h1:=hT0 k q hq
  have h2:=hA.typed k q ((hA.new k hk).trans hq)
  obtain⟨_,cs,e1,fr,rfl |rfl⟩:=anj hq
  ·exact (show w'.heap[k]?=_ from h2).trans (show w.heap[k]?=_ from h1).symm
  ·exact (show w'.heap[k]?=_ from h2).trans (show w.heap[k]?=_ from h1).symm
theorem amG {T:bb}{β:Nat→Nat}{x:SV}{l:List SV}{ys:List Value}(h:dM T β (x::l) ys):∃y r,ys=y::r∧x.rel T β y∧dM T β l r:=by
 cases ys with
 |nil=>exact h.elim
 |cons y r=>exact⟨y,r,rfl,h.1,h.2⟩
theorem an3 {T:bb}{β:Nat→Nat}{ys:List Value}(h:dM T β [] ys):ys=[]:=by
 cases ys with
 |nil=>rfl
 |cons y r=>exact h.elim
theorem anO {T:bb}{β:Nat→Nat}{x:AV}{l:List AV}{ys:List Value}(h:r5 T β (x::l) ys):∃y r,ys=y::r∧x.rel T β y∧r5 T β l r:=by
 cases ys with
 |nil=>exact h.elim
 |cons y r=>exact⟨y,r,rfl,h.1,h.2⟩
theorem aoy {T:bb}{β:Nat→Nat}{ys:List Value}(h:r5 T β [] ys):ys=[]:=by
 cases ys with
 |nil=>rfl
 |cons y r=>exact h.elim
theorem apb {cs:Array Value}{l:List Value}(h:cs.toList=l):cs=l.toArray:=by subst h;rfl
theorem aoW {T:bb}{W w:World}{b:Nat}{cs:Array Value}{e:TypeId}(hT:WT T W) (hN:UJ T) (hb:Below W.heap.size W w) (FF:W.heap.size≤b) (hc:w.heap[b]?=some (.cells cs e (0,0))):
  WT (xe (amS T) b (.ln cs e (0,0))) w∧UJ (xe (amS T) b (.ln cs e (0,0)))∧uO (amS T) (xe (amS T) b (.ln cs e (0,0))):=by
 have hn:amS T b=none:=by
  cases hq:amS T b with
  |none=>rfl
  |some q=>have:=BK.lt (hT b q (anj hq).1);omega
 have hm:uO (amS T) (xe (amS T) b (.ln cs e (0,0))):=K2 hn
 refine⟨fun i k hi=>?_,⟨fun i ek n c hi=>?_,(anZ hN).oR.mono hm⟩,hm⟩
 ·unfold xe at hi
  split at hi
  ·rename_i he;cases hi;subst he;exact hc
  ·exact aom hT hb i k hi
 ·unfold xe at hi
  split at hi
  ·cases hi
  ·exact (anZ hN).no i ek n c hi
end GL
end Go.Proofs.YtclcgjhhehbdeaaGreatDoor
