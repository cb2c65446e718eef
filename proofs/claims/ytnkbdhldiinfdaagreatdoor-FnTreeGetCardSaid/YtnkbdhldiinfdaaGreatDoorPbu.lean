/- A drawn law returns true for every code (its row lists package variables, tied by the card): part 47. -/
import Derived.Test.YtnkbdhldiinfdaaGreatDoorPaw
import Derived.Test.YtnkbdhldiinfdaaGreatDoorPbc
import Derived.Test.YtnkbdhldiinfdaaGreatDoorPbg
import Derived.Test.YtnkbdhldiinfdaaGreatDoorPbi
import Derived.Test.YtnkbdhldiinfdaaGreatDoorPbn
import Derived.Test.YtnkbdhldiinfdaaGreatDoorPbr
import Derived.Test.YtnkbdhldiinfdaaGreatDoorPbs
import Derived.Test.YtnkbdhldiinfdaaGreatDoorPbt
set_option maxHeartbeats 20000000
set_option maxRecDepth 100000
set_option linter.all false
namespace Go.Proofs.YtnkbdhldiinfdaaGreatDoor
namespace GL
noncomputable section
def ano (s:ay) (p:Pt):ByteArray×Bool:=bif iI s&&aZ p then bF s p else (⟨#[]⟩,false)
theorem ao8 {s:ay}{p:Pt}(h:iI s=false):ano s p=(⟨#[]⟩,false):=by unfold ano;rw [h];rfl
theorem ao7 {s:ay}{p:Pt}(h:aZ p=false):ano s p=(⟨#[]⟩,false):=by unfold ano;rw [h,ZD7];rfl
theorem ao6 {s:ay}{p:Pt}(h:iI s=true) (h2:aZ p=true):ano s p=bF s p:=by unfold ano;rw [h,h2];rfl
def amF (s:ay) (t:bf) (k:Int):ByteArray×Bool:=bif (py s t).2&&ik k 0 ((py s t).1.length-1) then bF s (nth ae (py s t).1 k.toNat) else (⟨#[]⟩,false)
theorem ann {s:ay}{t:bf}{k:Int}(h:(py s t).2=false):amF s t k=(⟨#[]⟩,false):=by unfold amF;rw [h];rfl
theorem anm {s:ay}{t:bf}{k:Int}(h:ik k 0 ((py s t).1.length-1)=false):amF s t k=(⟨#[]⟩,false):=by unfold amF;rw [h,ZD7];rfl
theorem anl {s:ay}{t:bf}{k:Int}(h:(py s t).2=true) (h2:ik k 0 ((py s t).1.length-1)=true):amF s t k=bF s (nth ae (py s t).1 k.toNat):=by unfold amF;rw [h,h2];rfl
theorem anj {s:ay}{many:Int}:∀{l:List Pt}{i:Int},j9 s many i l=true→∀p∈l,au p=false→(bF s p).2=true∧p.2.2.2.2=0
 |q::l,i,h,p,hp,hh=>by
  unfold j9 at h
  cases hq:au q with
  |true=>
   rw [hq,cond_true] at h
   rcases ZB8.1 hp with rfl |hp
   ·rw [hq] at hh;cases hh
   ·exact anj h p hp hh
  |false=>
   rw [hq,cond_false] at h
   cases hb:ri s many i q with
   |true=>rw [hb] at h;cases h
   |false=>
    rw [hb,cond_false] at h
    rcases ZB8.1 hp with rfl |hp
    ·unfold ri at hb
     simp only [ZE1,decide_eq_false_iff_not,ZE9,Bool.not_eq_false'] at hb
     exact⟨hb.1,hb.2.1⟩
    ·exact anj h p hp hh
theorem amI {s:ay}{t:bf}(h:(py s t).2=true):(iI s=true∧((py s t).1.length:Int)=t.many)∧∀p∈(py s t).1,(aZ p=true∧p.2.2.2.2=0)∧(bF s p).2=true:=by
 rw [YI] at h
 obtain⟨h1,h2⟩:=Bool.and_eq_true_iff.1 h
 have hb:=Y8 h2
 have hl:(!(bA s t).2)=false:=by
  cases hl: !(bA s t).2 with
  |false=>rfl
  |true=>rw [ZA hb hl] at h2;cases h2
 have hf:=(Y9 hb hl).symm.trans h2
 have hm:0≤t.many:=by
  have hb':=hb
  unfold lV at hb'
  exact (cC.1 (cL (ZE1.1 hb').1)).1
 have hk:=adt h2
 rw [K9 h1 h2]
 refine⟨⟨h1,?_⟩,fun p hp=>?_⟩
 ·show ((List.take _ _).length:Int)=_
  rw [ZB9];omega
 ·have hp':p∈(bA s t).1:=ZE6 hp
  have cG:aZ p=true:=H9 (ahx h2) p hp'
  cases hh:au p with
  |false=>exact⟨⟨cG,(anj hf p hp' hh).2⟩,(anj hf p hp' hh).1⟩
  |true=>
   exact⟨⟨cG,XF hh⟩,by rw [fT hh]⟩
theorem aoH {s:ay}{t:bf}(h:(iI s&&qJ s t)=false):py s t=([],false):=by unfold py;rw [h];rfl
theorem aph {s:ay}{t:bf}(h:(iI s&&qJ s t)=true):py s t=((bA s t).1.take t.many.toNat,true):=by unfold py;rw [h];rfl
theorem an8 {x:List Pt×Bool}{b:Bool}(e:x=([],b)):Wk (.t [.s (.vw ae x.1),.s (.q x.2)]) (.t [.s (.v (.slice none 0 0)),.s (.q b)]):=by
 subst e;exact Wk.tup ⟨Wk.nil _,Wk.refl _,trivial⟩
theorem ao2 {x:List Pt×Bool}{l:List Pt}{b:Bool}(e:x=(l,b)):Wk (.t [.s (.vw ae x.1),.s (.q x.2)]) (.t [.s (.vw ae (List.take l.length l)),.s (.q b)]):=by
 subst e;rw [ZD1 (ZB5 _)];exact Wk.refl _
theorem aoa {s:ay}{t:bf}(h:(py s t).2=true):(aB s t).take t.many.toNat=(py s t).1:=by
 rw [YI] at h
 obtain⟨h1,h2⟩:=Bool.and_eq_true_iff.1 h
 rw [K9 h1 h2]
 show (aB s t).take t.many.toNat=(bA s t).1.take t.many.toNat
 unfold aB
 rw [List.take_append_of_le_length (adt h2)]
def anC (S:ay) (t:bf):Prop:=S.gone.length≤1000000∧S.dead.length≤1000000
def aoI (S:ay) (t:bf):AV:=.t [.s (.vw ae (py S t).1),.s (.q (py S t).2)]
def aoV (S:ay) (t:bf):List AV:=[]
def aop:cn where
 A:=[.a xv,.a [.int,.int,.int,.int,.int,.int,.int]]
 B:=[]
 pre:=fun x b=>anC (x.1) (x.2)
 r:=fun x b _=>aoI (x.1) (x.2)
 o:=fun x b _=>aoV (x.1) (x.2)
theorem ao9:Has Tryz.prog 31 aop:=by
 refine Has.al9 zT zF (fun d=>d==17) (l:=[(65,yX),(66,DF),(67,J5)]) ⟨W7,abM,ad2,aa⟩ Tryz.func31 ?_
 rintro⟨⟨(aj:List ByteArray),(ak:List Int),(an:List Int),(ao:Int),(ah:List Pt),(aq:Int),(ai:List Pt),(ar:Bool)⟩,⟨(t1:Int),(t2:Int),(t3:Int),(t4:Int),(t5:Int),(t6:Int),(t7:Int)⟩⟩ _ (hp:anC (aj,ak,an,ao,ah,aq,ai,ar) (t1,t2,t3,t4,t5,t6,t7))
 show vc _ _ _ _ (entry [.a [.vz ab aj,.vz ag ak,.vz ag an,.int ao,.vz ae ah,.int aq,.vz ae ai,.q ar],.a [.int t1,.int t2,.int t3,.int t4,.int t5,.int t6,.int t7]] []) _
 let g':=(aj,ak,an,ao,ah,aq,ai,ar)
 let A':=(t1,t2,t3,t4,t5,t6,t7)
 obtain⟨hg,hd⟩:=hp
 have hk:(!(iI g'))=false→KK g':=fun h=>QM.1 (cL h)
 have dF:(!(iI g'))=false→ay.rd g':=fun h=>(hk h).rd
 have hlen:∀b:Bool,b=qJ g' A'→b=true→(bA g' A').1.length≤16:=fun b h h2=>rh (ahx (h ▸ h2))
 refine⟨⟨⟨tv9,aa⟩,?_,?_⟩,fun x1 w2=>⟨fun w3=>?_,fun w4=>⟨⟨⟨aa,tv8,aa⟩,?_,?_⟩,fun |false=>fun w5=>⟨⟨tv2,?_⟩,fun |false=>fun w6=>?_ |true=>fun w7=>?_⟩ |true=>fun w8=>⟨⟨⟨?_,aa⟩,?_⟩,fun |false=>fun w9=>?_ |true=>fun dy=>?_⟩⟩⟩⟩
 all_goals first|refine aw ?_|refine ax ?_|exact a8|(dsimp only [yX,tl,DF,vh,J5,yl];omega)|exact a7|exact hg|exact hd|exact dF w4|(show 0≤ao;have h:1≤ao∧ao≤900:=(hk w4).cg;omega)|exact ZA7 _|(show 0+t7.toNat≤_;rw [ZA6];exact adt (s:=g') (t:=A') (show true=qJ g' A' from w8).symm)|(show (List.take _ _).length≤1000000;have:=hlen true w8 rfl;rw [ZB9];exact ZB0 (Nat.min_le_right _ _) (ZB0 this (by decide)))|skip
 ·refine⟨[],[],_,_,_,rfl,cf,(),0,aa,an8 (aaF (uv w3)),rfl,rfl⟩
 ·refine⟨[],[],_,_,_,rfl,cf,(),0,aa,ao2 (LA (show qJ g' A'=false from (show false=qJ g' A' from w5).symm)),rfl,rfl⟩
 ·refine⟨[],[],_,_,_,rfl,cf,(),0,aa,an8 (LA (show qJ g' A'=false from (show false=qJ g' A' from w5).symm)),rfl,rfl⟩
 ·refine⟨[],[],_,_,_,rfl,cf,(),0,aa,ao2 (K9 (cL w4) (show qJ g' A'=true from (show true=qJ g' A' from w8).symm)),rfl,rfl⟩
 ·refine⟨[],[],_,_,_,rfl,cf,(),0,aa,an8 ((K9 (cL w4) (show qJ g' A'=true from (show true=qJ g' A' from w8).symm)).trans (congrArg (fun l=>(l,true)) (dy rfl))),rfl,rfl⟩
theorem an5 {s:ay}{t:bf}(h:qJ s t=true):(0≤t.many∧t.many≤16)∧t.many.toNat≤(bA s t).1.length:=by
 have hb:=Y8 h
 unfold lV at hb
 exact⟨cC.1 (cL (ZE1.1 hb).1),adt h⟩
theorem amH {s:ay}{t:bf}(h:(py s t).2=true):((py s t).1.length:Int)=t.many∧(py s t).1.length≤16:=by
 rw [YI] at h
 obtain⟨h1,h2⟩:=Bool.and_eq_true_iff.1 h
 have h3:=an5 h2
 rw [K9 h1 h2]
 show ((List.take _ _).length:Int)=_∧(List.take _ _).length≤_
 rw [ZB9];omega
theorem amL {s:ay}{t:bf}(h:(py s t).2=true):(py s t).1.length≤16:=(amH h).2
def amS (S:ay) (t:bf) (k:Int):Prop:=S.gone.length≤1000000∧S.dead.length≤1000000
def amA (S:ay) (t:bf) (k:Int):AV:=.t [.s (.str (amF S t k).1),.s (.q (amF S t k).2)]
def an1 (S:ay) (t:bf) (k:Int):List AV:=[]
def ane:cn where
 A:=[.a xv,.a [.int,.int,.int,.int,.int,.int,.int],.s .int]
 B:=[]
 pre:=fun x b=>amS (x.1) (x.2.1) (x.2.2)
 r:=fun x b _=>amA (x.1) (x.2.1) (x.2.2)
 o:=fun x b _=>an1 (x.1) (x.2.1) (x.2.2)
theorem aoi:Has Tryz.prog 9 ane:=by
 refine Has.zB zT zF zF (l:=[(31,aop),(32,cr),(33,kF)]) ⟨ao9,fM,zJ,aa⟩ Tryz.func9 ?_
 rintro⟨⟨(aj:List ByteArray),(ak:List Int),(an:List Int),(ao:Int),(ah:List Pt),(aq:Int),(ai:List Pt),(ar:Bool)⟩,⟨(t1:Int),(t2:Int),(t3:Int),(t4:Int),(t5:Int),(t6:Int),(t7:Int)⟩,(k:Int)⟩ _ (hp:amS (aj,ak,an,ao,ah,aq,ai,ar) (t1,t2,t3,t4,t5,t6,t7) k)
 show vc _ _ _ _ (entry [.a [.vz ab aj,.vz ag ak,.vz ag an,.int ao,.vz ae ah,.int aq,.vz ae ai,.q ar],.a [.int t1,.int t2,.int t3,.int t4,.int t5,.int t6,.int t7],.int k] []) _
 let g':=(aj,ak,an,ao,ah,aq,ai,ar)
 let A':=(t1,t2,t3,t4,t5,t6,t7)
 obtain⟨hg,hd⟩:=hp
 have hk:(!((py g' A').2))=false→KK g':=fun h=>QM.1 (amI (cL h)).1.1
 have hi:(!(ik k 0 (((py g' A').1.length:Int)-1)))=false→0≤k∧k<((py g' A').1.length:Int):=fun h=>by have:=cC.1 (cL h);omega
 have hn:(!((py g' A').2))=false→(!(ik k 0 (((py g' A').1.length:Int)-1)))=false→aZ (nth ae (py g' A').1 k.toNat)=true:=fun h1 h2=>((amI (cL h1)).2 _ (bR (ek:=ae) (show k.toNat<(py g' A').1.length by have:=hi h2;omega))).1.1
 refine⟨⟨⟨tv9,tv8,aa⟩,?_,?_⟩,fun x1 w2=>⟨aa,fun w3=>?_,fun w4=>⟨⟨?_,?_⟩,⟨tv4,aa⟩,fun x5 w6=>⟨fun w7=>?_,fun w8=>⟨⟨?_,?_⟩,⟨⟨aa,tv6,aa⟩,fun x9 dy=>?_,?_,?_⟩,fun kz dJ=>?_⟩⟩⟩⟩⟩
 all_goals first|refine aw ?_|refine ax ?_|exact a8|(dsimp only [aop,anC,cr,df,kF,k9];omega)|exact a7|exact hg|exact hd|(have h:=amL (cL w4);simp only [gK,imax];omega)|(have h:=amL (s:=g') (t:=A') (cL w4);show -9223372036854775808≤(((py g' A').1.length:Int)-1);omega)|(have h:=amL (s:=g') (t:=A') (cL w4);show (((py g' A').1.length:Int)-1)≤9223372036854775807;omega)|exact (hi w8).1|exact (hi w8).2|exact (hk w4).rd.sz _ dy|exact (hk w4).len|exact hn w4 w8|skip
 ·have e:=ann (s:=g') (t:=A') (k:=k) (uv w3)
  refine⟨[],[],_,_,_,rfl,az,(),aa,?_,?_,rfl⟩
  ·(show _=amA g' A' k);unfold amA;first|(rw [e];rfl)|rfl
  ·rfl
 ·have e:=anm (s:=g') (t:=A') (k:=k) (uv w7)
  refine⟨[],[],_,_,_,rfl,az,(),aa,?_,?_,rfl⟩
  ·(show _=amA g' A' k);unfold amA;first|(rw [e];rfl)|rfl
  ·rfl
 ·have e:=anl (s:=g') (t:=A') (k:=k) (cL w4) (cL w8)
  refine⟨[],[],_,_,_,rfl,az,(),aa,?_,?_,rfl⟩
  ·(show _=amA g' A' k);unfold amA;first|(rw [e];rfl)|rfl
  ·rfl
def am9 (a:List Pt) (b:List Pt):Prop:=a=b∧a.length≤1000000
def am7 (a:List Pt) (b:List Pt):AV:=.s (.q true)
def aoz (a:List Pt) (b:List Pt):List AV:=[]
def anK:cn where
 A:=[.s (.vz ae),.s (.vz ae)]
 B:=[]
 pre:=fun x b=>am9 (x.1) (x.2)
 r:=fun x b _=>am7 (x.1) (x.2)
 o:=fun x b _=>aoz (x.1) (x.2)
theorem aoO:Has Tryz.prog 42 anK:=by
 refine Has.fm zT zF zF (l:=[]) trivial Tryz.func42 ?_
 rintro⟨(a:List Pt),(b:List Pt)⟩ _ (hp:am9 a b)
 show vc _ _ _ _ (entry [.s (.vz ae a),.s (.vz ae b)] []) _
 obtain⟨(he:a=b),(hl:a.length≤1000000)⟩:=hp
 have hll:a.length=b.length:=congrArg List.length he
 refine⟨fun w1=>?_,fun w2=>?_⟩
 all_goals first|refine aw ?_|refine ax ?_|exact a8|exact a7|skip
 ·exact absurd (congrArg (Nat.cast:Nat→Int) hll) (aJ w1)
 ·refine cN (l:=[]) (ex:=zT) (wr:=zF) (pt:=zF) trivial [.s 0,.s 1] (fun i:Nat=>[(.s 5,.int i)]) (fun i=>i≤a.length) (fun i=>a.length-i) 0 [] (ZA7 _) dM ?_
  rintro i (hi:i≤a.length)
  have cm:decide ((i:Int)<(a.length:Int))=true→i<a.length:=fun h=>by have:=aJ h;omega
  refine⟨fun w1=>⟨Sq0,Sq17,rfl,Sq5,Sq18,rfl,[.s 17,.s 18],Sq19,rfl,⟨?_,?_⟩,Sq19,Sq20,rfl,Sq1,Sq21,rfl,Sq5,Sq22,rfl,[.s 21,.s 22],Sq23,rfl,⟨?_,?_⟩,Sq23,Sq24,rfl,[.s 20,.s 24],Sq25,rfl,fun w2=>?_,fun w3=>⟨⟨?_,?_⟩,?_⟩⟩,fun w4=>?_⟩
  all_goals first|refine aw ?_|refine ax ?_|exact a8|exact a7|exact cm w1|(have h:=cm w1;show ((i:Int))<(b.length:Int);omega)|skip
  ·subst he;simp at w2
  ·refine⟨(i+1),[],?_,?_,?_⟩
   rotate_right
   ·exact bV
   ·show i+1≤a.length;have:=cm w1;omega
   ·show a.length-(i+1)<a.length-i;have:=cm w1;omega
  ·refine⟨[],[],_,_,_,rfl,az,(),aa,?_,?_,rfl⟩
   ·(show _=am7 a b);unfold am7;first|rfl
   ·rfl
end
end GL
namespace GL
noncomputable section
def amN:Nat→Nat→List Pt→List Pt→List Int→List Int
 |0,_,_,_,out=>out
 |f+1,i,x,y,out=>amN f (i+1) x y (bif ptrEq (nth ae x i) (nth ae y i) then out else out++[(i:Int)])
def aov (x y:List Pt):List Int:=amN 16 0 x y []
theorem ank {f i:Nat}{x y:List Pt}{out:List Int}(h:ptrEq (nth ae x i) (nth ae y i)=true):amN (f+1) i x y out=amN f (i+1) x y out:=by rw [amN,h];rfl
theorem anX {f i:Nat}{x y:List Pt}{out:List Int}(h:ptrEq (nth ae x i) (nth ae y i)=false):amN (f+1) i x y out=amN f (i+1) x y (out++[(i:Int)]):=by rw [amN,h];rfl
theorem anQ {x y:List Pt}:∀{f i:Nat}{out:List Int},x.length≤i→y.length≤i→amN f i x y out=out
 |0,_,_,_,_=>rfl
 |f+1,i,out,h1,h2=>by
  rw [ank (by rw [tz (ek:=ae) h1,tz (ek:=ae) h2];exact sb.2 rfl)]
  exact anQ (by omega) (by omega)
theorem aon {x:List Pt}:∀{f i:Nat}{out:List Int},amN f i x x out=out
 |0,_,_=>rfl
 |f+1,i,out=>by rw [ank (sb.2 rfl)];exact aon
theorem anR {x y:List Pt}{z:Int}:∀{f i:Nat}{out:List Int},z∈amN f i x y out↔z∈out∨∃k:Nat,i≤k∧k<i+f∧z=(k:Int)∧ptrEq (nth ae x k) (nth ae y k)=false
 |0,i,out=>⟨.inl,fun h=>h.elim id fun⟨k,h1,h2,_⟩=>by omega⟩
 |f+1,i,out=>by
  cases h:ptrEq (nth ae x i) (nth ae y i) with
  |true=>
   rw [ank h,anR]
   refine or_congr Iff.rfl ⟨fun⟨k,h1,h2,h3⟩=>⟨k,by omega,by omega,h3⟩,fun⟨k,h1,h2,h3,h4⟩=>⟨k,?_,by omega,h3,h4⟩⟩
   by_cases e:k=i
   ·subst e;rw [h] at h4;cases h4
   ·omega
  |false=>
   rw [anX h,anR,ZB4,ZC7,or_assoc]
   refine or_congr Iff.rfl ⟨fun h5=>?_,fun⟨k,h1,h2,h3,h4⟩=>?_⟩
   ·rcases h5 with h5 |⟨k,h1,h2,h3⟩
    ·exact⟨i,ZB5 _,by omega,h5,h⟩
    ·exact⟨k,by omega,by omega,h3⟩
   ·by_cases e:k=i
    ·exact .inl (by rw [h3,e])
    ·exact .inr ⟨k,by omega,by omega,h3,h4⟩
theorem anP {x y:List Pt}:∀{f i:Nat}{out:List Int},∃r,amN f i x y out=out++r∧∀z∈r,(i:Int)≤z
 |0,i,out=>⟨[],by rw [ZE5];rfl,fun z hz=>by cases hz⟩
 |f+1,i,out=>by
  cases h:ptrEq (nth ae x i) (nth ae y i) with
  |true=>
   obtain⟨r,h1,h2⟩:=anP (x:=x) (y:=y) (f:=f) (i:=i+1) (out:=out)
   exact⟨r,by rw [ank h];exact h1,fun z hz=>by have:=h2 z hz;omega⟩
  |false=>
   obtain⟨r,h1,h2⟩:=anP (x:=x) (y:=y) (f:=f) (i:=i+1) (out:=out++[(i:Int)])
   exact⟨(i:Int)::r,by rw [anX h,h1,ZD2];rfl,fun z hz=>by
    rcases ZB8.1 hz with rfl |hz
    ·exact ZC1 _
    ·have:=h2 z hz;omega⟩
def anS (s:ay) (a b:bf):List Int×Bool:=bif (py s a).2&&(py s b).2 then (aov (py s a).1 (py s b).1,true) else ([],false)
theorem ape {s:ay}{a b:bf}(h:(py s a).2=false∨(py s b).2=false):anS s a b=([],false):=by
 unfold anS
 rcases h with h |h
 ·rw [h];rfl
 ·rw [h,ZD7];rfl
theorem ao5 {s:ay}{a b:bf}(h:(py s a).2=true) (h2:(py s b).2=true):anS s a b=(aov (py s a).1 (py s b).1,true):=by unfold anS;rw [h,h2];rfl
structure amn (X Y:List Pt) (i:Nat) (out:List Int):Prop where
 le:i≤16
 len:out.length≤i
 f:amN (16-i) i X Y out=aov X Y
theorem amn.z (X Y:List Pt):amn X Y 0 []:=⟨ZA7 _,ZA7 _,rfl⟩
theorem amn.eq {X Y:List Pt}{i:Nat}{out:List Int}(h:amn X Y i out) (hi:i<16) (hq:(!(ptrEq (nth ae X i) (nth ae Y i)))=false):amn X Y (i+1) out:=by
 have h1:=h.f
 rw [show 16-i=(16-(i+1))+1 by omega,ank (cL hq)] at h1
 exact⟨hi,Nat.le_succ_of_le h.len,h1⟩
theorem amn.ne {X Y:List Pt}{i:Nat}{out:List Int}(h:amn X Y i out) (hi:i<16) (hq:(!(ptrEq (nth ae X i) (nth ae Y i)))=true):amn X Y (i+1) (out++[(i:Int)]):=by
 have h1:=h.f
 rw [show 16-i=(16-(i+1))+1 by omega,anX (xm hq)] at h1
 exact⟨hi,by rw [ZA0,List.length_singleton];have:=h.len;omega,h1⟩
theorem amn.e {X Y:List Pt}{i:Nat}{out:List Int}(h:amn X Y i out) (h1:X.length≤i) (h2:Y.length≤i):out=aov X Y:=by
 rw [←h.f,anQ h1 h2]
theorem amx {P Q P' Q':Pt}{c:Bool}(h1:P=P') (h2:Q=Q') (h:(!(ptrEq P' Q'))=c):(!(ptrEq P Q))=c:=by subst h1 h2;exact h
theorem apt {i:Nat}(h:decide ((i:Int)<16)=true):i<16:=by have:=aJ h;omega
theorem amw {l:List Pt}{i:Nat}(h:decide ((i:Int)<(l.length:Int))=false):nth ae l i=(0,0,0,0,0):=tz (ek:=ae) (by have:=aA h;omega)
theorem aps {i n m:Nat}(h:decide ((i:Int)<max (n:Int) (m:Int))=true) (hn:n≤16) (hm:m≤16):i<16:=by have:=aJ h;omega
theorem apn {i n m:Nat}(h:decide ((i:Int)<max (n:Int) (m:Int))=false):n≤i∧m≤i:=by have:=aA h;omega
theorem vwI {l:List Int}:AV.t [.s (.vw ag (List.take l.length l)),.s (.q true)]=AV.t [.s (.vw ag l),.s (.q true)]:=by rw [ZD1 (ZB5 _)]
def ana (a:List Int) (b:List Int):Prop:=a=b∧a.length≤1000000
def am8 (a:List Int) (b:List Int):AV:=.s (.q true)
def aoA (a:List Int) (b:List Int):List AV:=[]
def anL:cn where
 A:=[.s (.vz ag),.s (.vz ag)]
 B:=[]
 pre:=fun x b=>ana (x.1) (x.2)
 r:=fun x b _=>am8 (x.1) (x.2)
 o:=fun x b _=>aoA (x.1) (x.2)
theorem aoP:Has Tryz.prog 23 anL:=by
 refine Has.fm zT zF zF (l:=[]) trivial Tryz.func23 ?_
 rintro⟨(a:List Int),(b:List Int)⟩ _ (hp:ana a b)
 show vc _ _ _ _ (entry [.s (.vz ag a),.s (.vz ag b)] []) _
 obtain⟨(he:a=b),(hl:a.length≤1000000)⟩:=hp
 have hll:a.length=b.length:=congrArg List.length he
 refine⟨fun w1=>?_,fun w2=>?_⟩
 all_goals first|refine aw ?_|refine ax ?_|exact a8|exact a7|skip
 ·exact absurd (congrArg (Nat.cast:Nat→Int) hll) (aJ w1)
 ·refine cN (l:=[]) (ex:=zT) (wr:=zF) (pt:=zF) trivial [.s 0,.s 1] (fun i:Nat=>[(.s 5,.int i)]) (fun i=>i≤a.length) (fun i=>a.length-i) 0 [] (ZA7 _) dM ?_
  rintro i (hi:i≤a.length)
  have cm:decide ((i:Int)<(a.length:Int))=true→i<a.length:=fun h=>by have:=aJ h;omega
  refine⟨fun w1=>⟨Sq0,Sq17,rfl,Sq5,Sq18,rfl,[.s 17,.s 18],Sq19,rfl,⟨?_,?_⟩,Sq19,Sq20,rfl,Sq1,Sq21,rfl,Sq5,Sq22,rfl,[.s 21,.s 22],Sq23,rfl,⟨?_,?_⟩,Sq23,Sq24,rfl,[.s 20,.s 24],Sq25,rfl,fun w2=>?_,fun w3=>⟨⟨?_,?_⟩,?_⟩⟩,fun w4=>?_⟩
  all_goals first|refine aw ?_|refine ax ?_|exact a8|exact a7|exact cm w1|(have h:=cm w1;show ((i:Int))<(b.length:Int);omega)|skip
  ·subst he;simp at w2
  ·refine⟨(i+1),[],?_,?_,?_⟩
   rotate_right
   ·exact bV
   ·show i+1≤a.length;have:=cm w1;omega
   ·show a.length-(i+1)<a.length-i;have:=cm w1;omega
  ·refine⟨[],[],_,_,_,rfl,az,(),aa,?_,?_,rfl⟩
   ·(show _=am8 a b);unfold am8;first|rfl
   ·rfl
end
end GL
namespace GL
theorem KK.wf {s:ay}(h:KK s):s.wf:=
 ⟨⟨h.len,(QQ h.sp).1,(QQ h.sp).2⟩,h.rd.2⟩
theorem KK.wg {s:ay}{n:Nat}(h:KK s) (hg:s.gone.length≤n) (hd:s.dead.length≤n):s.wg n:=
 ⟨h.wf,hg,hd,by have:=h.cg;omega⟩
theorem aos {s:ay}{t:bf}(h:qJ s t=true):t.ok:=by
 have hb:=Y8 h
 unfold lV at hb
 have h4:=cC.1 (cL (ZE1.1 hb).1)
 exact⟨ahx h,h4.1,h4.2⟩
end GL
namespace GL
def amo (s:ay):Prop:=(∀p∈s.gone,aZ p=true)∧1≤s.cg
theorem anJ {s:ay}{p:Pt}(h:amo s) (hp:aZ p=true):amo (cM s p):=by
 refine⟨?_,by rw [wV];exact h.2⟩
 replace h:=h.1
 unfold cM
 cases au p with
 |true=>exact h
 |false=>
  cases decide (p.2.1≤s.bZ) with
  |true=>exact h
  |false=>
   cases decide (p.2.1<s.cg) with
   |true=>
    intro q hq
    rcases ZB4.1 (show q∈s.gone++[p] from hq) with hq |hq
    ·exact h q hq
    ·rw [ZC7.1 hq];exact hp
   |false=>exact h
theorem anN:∀{l:List Pt}{s:ay},amo s→(∀p∈l,aZ p=true)→amo (dx l s)
 |[],_,h,_=>h
 |p::l,s,h,hl=>anN (l:=l) (anJ h (hl p (List.mem_cons_self ..))) fun q hq=>hl q (List.mem_cons_of_mem _ hq)
theorem anO {sy:List Pt}:∀{l:List Pt}{s:ay},amo s→(∀p∈l,aZ p=true)→amo (dX l sy s)
 |[],_,h,_=>h
 |p::l,s,h,hl=>by
  refine anO (l:=l) ?_ fun q hq=>hl q (List.mem_cons_of_mem _ hq)
  cases gW sy p with
  |true=>exact h
  |false=>exact anJ h (hl p (List.mem_cons_self ..))
theorem um.amt {s u:ay}(h:um s u) (hs:amo s):amo u:=⟨fun p hp=>hs.1 p (by rw [←h.gone];exact hp),by rw [h.cg];exact hs.2⟩
theorem aot {s:ay}{t:bf}{l:List Pt}{many:Int}(h:s.wf) (ht:t.rd) (hg:amo s):amo (bQ s t l many).1:=by
 unfold bQ
 have h1:=wM (f:=3) (t:=t) (d:=bj many) (lv:=1) (l:=l.take many.toNat) (sy:=[]) h
 cases hf:mm 3 s t (bj many) 1 (l.take many.toNat) [] with
 |mk s' r=>
  rw [hf] at h1
  cases r with
  |none=>exact h1.amt hg
  |some q=>obtain⟨x,y⟩:=q;exact anO (h1.amt hg) (ML ht)
theorem anU {s:ay}{t:bf}{l:List Pt}{k:Nat}{p old:Pt}{many:Int}(h:s.wf) (ht:t.rd) (ho:aZ old=true) (hg:amo s):amo (pS s t l k p many old).1:=by
 have h1:=aot (l:=l.set k p) (many:=many) h ht hg
 unfold pS
 cases !(bQ s t (l.set k p) many).2.2 with
 |true=>exact h1
 |false=>
  cases !(ptrEq p old) with
  |true=>exact anJ h1 ho
  |false=>exact h1
theorem aoU {s:ay}{t:bf}{k:Int}{text:ByteArray}(h:s.wf) (ht:t.rd) (hg:amo s):amo (aY s t k text).1:=by
 have hold:aZ (dV s t k)=true:=oC (lA ht) _
 unfold aY
 cases decide (gU s t k=text)&&decide (bN t k=t.many) with
 |true=>exact hg
 |false=>
  cases decide (gU s t k≠text) with
  |true=>
   cases decide (text≠⟨#[]⟩) with
   |true=>
    have hw:=DL (text:=text) (lv:=0) h
    cases !(bd s text 0).2.2 with
    |true=>exact hg
    |false=>exact anU hw.wf ht hold (hw.amt hg)
   |false=>exact anU h ht hold hg
  |false=>exact anU h ht hold hg
theorem anZ:∀{l:List ByteArray}{i:Nat}{s:ay}{t:bf}{n:Nat},s.wg n→t.ok→i+l.length≤16→amo s→amo (iW l i s t).1
 |[],_,_,_,_,_,_,_,h=>h
 |x::l,i,s,t,n,hs,ht,hi,h=>by
  rw [ZA1] at hi
  have h1:=nq (k:=(i:Int)) (text:=x) hs ht (by omega) (by omega)
  have h2:=aoU (k:=(i:Int)) (text:=x) hs.wf ht.rd h
  cases hz:(aY s t i x).2.2 with
  |false=>rw [OB hz];exact h2
  |true=>rw [OA hz];exact anZ (l:=l) (i:=i+1) h1.1 h1.2.1 (by omega) h2
theorem aoZ {s:ay}{t:bf}{many:Int}(h:s.wf) (ht:t.rd) (hg:amo s):amo (cF s t many).1:=by
 have h1:=aot (l:=aB s t) (many:=many) h ht hg
 unfold cF
 cases decide (many=t.many) with
 |true=>exact hg
 |false=>
  show amo (UF s t many).1
  unfold UF
  cases !(bQ s t (aB s t) many).2.2 with
  |true=>exact h1
  |false=>exact anN h1 fun p hp=>lA (s:=s) ht p (ZF2 hp)
theorem aoT {s:ay}{t:bf}{text:ByteArray}{n:Nat}(hs:s.wg n) (ht:t.ok) (h:amo s):amo (dG s t text).1:=by
 unfold dG
 cases hd:decide (((kC text).length:Int)>16) with
 |true=>exact h
 |false=>
  have hl:=aA hd
  have h1:=RL (l:=kC text) (i:=0) hs ht (by omega)
  have h2:=anZ (l:=kC text) (i:=0) hs ht (by omega) h
  show amo (KB (iW (kC text) 0 s t) (kC text).length).1
  unfold KB
  cases !(iW (kC text) 0 s t).2.2 with
  |true=>exact h2
  |false=>exact aoZ h1.1.wf h1.2.rd h2
theorem amo.gk {s:ay}{n:Nat}(h:amo s) (hw:s.wg n) (hn:n≤900000):s.gk:=
 ⟨hw.wf.n,ZB0 hw.g (by omega),fun p hp=>nT (h.1 p hp),by have:=hw.t;have:=h.2;omega⟩
theorem KK.amt {s:ay}(h:KK s):amo s:=⟨fun p hp=>(h.gone p hp).1,h.cg.1⟩
theorem KK.gk {s:ay}{n:Nat}(h:KK s) (hg:s.gone.length≤n) (hd:s.dead.length≤n) (hn:n≤900000):s.gk:=
 h.amt.gk (h.wg hg hd) hn
theorem aoR {s:ay}(h:s.wf) (k:Nat):(gf s k).wf:=by
 have h1:=qq (p:=((k:Int),max (s.bZ+1) s.cg,1,0,0)) h
 rw [yQ (by unfold au;simp) (decide_eq_false (by show¬max (s.bZ+1) s.cg≤s.bZ;omega)) (decide_eq_false (by show¬max (s.bZ+1) s.cg<s.cg;omega))] at h1
 exact h1
theorem anG:∀{l:List Pt}{s:ay},s.wf→(j8 l s).wf∧(j8 l s).cg=s.cg
 |[],_,h=>⟨h,rfl⟩
 |p::l,s,h=>anG (l:=l) (aoR h p.1.toNat)
theorem aoB {s:ay}{n:Nat}(h:s.wg n):(ij s).wg (n+1):=by
 have h1:=anG (l:=s.gone) h.wf
 refine⟨⟨h1.1.n,h1.1.sz⟩,ZA7 _,?_,?_⟩
 ·show (j8 s.gone s).dead.length≤_;rw [HT];have:=h.d;omega
 ·show (j8 s.gone s).cg+1≤_;rw [h1.2];have:=h.t;omega
abbrev anH (s:ay):ay:=(s.rows,s.refs,s.last,s.cg,s.gone,s.cg-1,s.dead,s.same)
theorem aoN {s:ay}{n:Nat}(h:s.wg n):(anH s).wg n:=⟨⟨h.wf.n,h.wf.sz⟩,h.g,h.d,h.t⟩
theorem aoM {s:ay}{n:Nat}(h:s.wg n) (hg:amo s):2≤(ij s).cg∧(ij s).cg≤((1001+n:Nat):Int):=by
 have h1:(ij s).cg=(j8 s.gone s).cg+1:=rfl
 rw [h1,(anG (l:=s.gone) h.wf).2]
 have:=h.t;have:=hg.2;omega
abbrev aoo (s:ay) (o:Nat):ay:=((s.rows.drop o).take (s.rows.length-o),(s.refs.drop 0).take s.refs.length,(s.last.drop 0).take s.last.length,s.cg,(s.gone.drop 0).take s.gone.length,s.bZ,(s.dead.drop 0).take s.dead.length,s.same)
theorem aoS (s:ay) (o:Nat):(aoo s o).gone.length≤s.gone.length∧(aoo s o).dead.length≤s.dead.length:=⟨by show ((s.gone.drop 0).take s.gone.length).length≤_;rw [ZB9];exact Nat.min_le_left _ _,by show ((s.dead.drop 0).take s.dead.length).length≤_;rw [ZB9];exact Nat.min_le_left _ _⟩
theorem ay.wg.small {s:ay}{n:Nat}(h:s.wg n) (hn:n≤1000000):s.small:=⟨by rw [h.wf.n.1];decide,by rw [h.wf.n.2.1];decide,by rw [h.wf.n.2.2];decide,ZB0 h.g hn,ZB0 h.d hn⟩
structure DBS (b:ay×bf×Bool):Prop where
 gk:b.1.gk
 tx:(-9223372036854775808:Int)≤(ij b.1).cg-1∧(ij b.1).cg-1≤9223372036854775807
 wg:(anH (ij b.1)).wg 20119
 ok:b.2.1.ok
theorem aow {s:ay}{o:Nat}(h:s.gone.length≤20001∧s.dead.length≤20001) (hk:iI (aoo s o)=true):(aoo s o).wg 20001:=(QM.1 hk).wg (ZB0 (aoS s o).1 h.1) (ZB0 (aoS s o).2 h.2)
theorem dbs {s:ay}{o:Nat}{t:bf}{y:ByteArray}(h:s.gone.length≤20001∧s.dead.length≤20001) (hk:iI (aoo s o)=true) (ho:qJ (aoo s o) t=true):DBS (dG (aoo s o) t y):=by
 have h1:=UJ (text:=y) (aow h hk) (aos ho)
 have h2:=aoT (text:=y) (aow h hk) (aos ho) (QM.1 hk).amt
 exact⟨h2.gk h1.1 (by decide),by have:=aoM h1.1 h2;omega,aoN (aoB h1.1),h1.2⟩
theorem DBS.big {b:ay×bf×Bool}(h:DBS b) (y:ByteArray):(dG (anH (ij b.1)) b.2.1 y).1.gone.length≤1000000∧(dG (anH (ij b.1)) b.2.1 y).1.dead.length≤1000000:=by
 have:=(UJ (text:=y) h.wg h.ok).1
 exact⟨ZB0 this.g (by decide),ZB0 this.d (by decide)⟩
theorem DBS.lit {b:ay×bf×Bool}(h:DBS b):(anH (ij b.1)).gone.length≤1000000∧(anH (ij b.1)).dead.length≤1000000:=⟨ZB0 h.wg.g (by decide),ZB0 h.wg.d (by decide)⟩
abbrev dbC (b:ay×bf×Bool) (y:ByteArray):ay×bf×Bool:=dG (anH (ij b.1)) b.2.1 y
abbrev dbZ (b:ay×bf×Bool) (y:ByteArray):ay×Nat×bf×bf:=((dbC b y).1,0,b.2.1,(dbC b y).2.1)
theorem apm (n:Int):∃z:ByteArray,z.size=(⟨#[97,98]⟩:ByteArray).size*n.toNat:=⟨⟨⟨List.replicate (2*n.toNat) 0⟩⟩,ZG2 ..⟩
end GL
namespace GL
attribute [local irreducible] dG iI qJ
end GL
namespace GL
noncomputable section
def am4 (l:List Pt):Prop:=l.length≤1000000
def aoK (l:List Pt):AV:=.s (.vw ae l)
def aoX (l:List Pt):List AV:=[]
def ani:cn where
 A:=[.s (.vz ae)]
 B:=[]
 pre:=fun x b=>am4 x
 r:=fun x b _=>aoK x
 o:=fun x b _=>aoX x
theorem aom:Has Tryz.prog 67 ani:=by
 refine Has.al9 zT zF zF (l:=[]) trivial Tryz.func67 ?_
 rintro (l:List Pt) _ (hp:am4 l)
 show vc _ _ _ _ (entry [.s (.vz ae l)] []) _
 have hp:l.length≤1000000:=hp
 refine⟨?_,fun |false=>fun w1=>⟨fun w2=>?_,fun w3=>⟨aa,⟨⟨?_,?_⟩,aa⟩,?_⟩⟩ |true=>fun w4=>⟨fun w5=>?_,fun w6=>⟨aa,⟨⟨?_,?_⟩,aa⟩,?_⟩⟩⟩
 all_goals first|refine aw ?_|refine ax ?_|exact a8|exact a7|(show 0+l.length≤1048576;omega)|exact⟨false,fun h=>by cases h⟩|skip
 ·cases w2
 ·refine⟨[],[],_,_,_,rfl,cf,(),0,trivial,by show Wk (.s (.vw ae l)) (.s (.vw ae (List.take (0+l.length) ([]++l))));rw [ZD0,ZD1 (ZA8 (ZA6 _).symm)];exact Wk.refl _,rfl,rfl⟩
 ·refine⟨[],[],_,_,_,rfl,cf,(),0,trivial,by show Wk (.s (.vw ae l)) (.s (.v (.slice none 0 0)));rw [w4 rfl];exact Wk.nil _,rfl,rfl⟩
 ·cases w6
def anD (l:List ByteArray):Prop:=l.length≤1000000
def aoJ (l:List ByteArray):AV:=.s (.vw ab l)
def aoW (l:List ByteArray):List AV:=[]
def aoq:cn where
 A:=[.s (.vz ab)]
 B:=[]
 pre:=fun x b=>anD x
 r:=fun x b _=>aoJ x
 o:=fun x b _=>aoW x
theorem apa:Has Tryz.prog 72 aoq:=by
 refine Has.al9 zT zF zF (l:=[]) trivial Tryz.func72 ?_
 rintro (l:List ByteArray) _ (hp:anD l)
 show vc _ _ _ _ (entry [.s (.vz ab l)] []) _
 have hp:l.length≤1000000:=hp
 refine⟨?_,fun |false=>fun w1=>⟨fun w2=>?_,fun w3=>⟨aa,⟨⟨?_,?_⟩,aa⟩,?_⟩⟩ |true=>fun w4=>⟨fun w5=>?_,fun w6=>⟨aa,⟨⟨?_,?_⟩,aa⟩,?_⟩⟩⟩
 all_goals first|refine aw ?_|refine ax ?_|exact a8|exact a7|(show 0+l.length≤1048576;omega)|exact⟨false,fun h=>by cases h⟩|skip
 ·cases w2
 ·refine⟨[],[],_,_,_,rfl,cf,(),0,trivial,by show Wk (.s (.vw ab l)) (.s (.vw ab (List.take (0+l.length) ([]++l))));rw [ZD0,ZD1 (ZA8 (ZA6 _).symm)];exact Wk.refl _,rfl,rfl⟩
 ·refine⟨[],[],_,_,_,rfl,cf,(),0,trivial,by show Wk (.s (.vw ab l)) (.s (.v (.slice none 0 0)));rw [w4 rfl];exact Wk.nil _,rfl,rfl⟩
 ·cases w6
def anE (l:List Int):Prop:=l.length≤1000000
def aoL (l:List Int):AV:=.s (.vw ag l)
def aoY (l:List Int):List AV:=[]
def aor:cn where
 A:=[.s (.vz ag)]
 B:=[]
 pre:=fun x b=>anE x
 r:=fun x b _=>aoL x
 o:=fun x b _=>aoY x
theorem apb:Has Tryz.prog 109 aor:=by
 refine Has.al9 zT zF zF (l:=[]) trivial Tryz.func109 ?_
 rintro (l:List Int) _ (hp:anE l)
 show vc _ _ _ _ (entry [.s (.vz ag l)] []) _
 have hp:l.length≤1000000:=hp
 refine⟨?_,fun |false=>fun w1=>⟨fun w2=>?_,fun w3=>⟨aa,⟨⟨?_,?_⟩,aa⟩,?_⟩⟩ |true=>fun w4=>⟨fun w5=>?_,fun w6=>⟨aa,⟨⟨?_,?_⟩,aa⟩,?_⟩⟩⟩
 all_goals first|refine aw ?_|refine ax ?_|exact a8|exact a7|(show 0+l.length≤1048576;omega)|exact⟨false,fun h=>by cases h⟩|skip
 ·cases w2
 ·refine⟨[],[],_,_,_,rfl,cf,(),0,trivial,by show Wk (.s (.vw ag l)) (.s (.vw ag (List.take (0+l.length) ([]++l))));rw [ZD0,ZD1 (ZA8 (ZA6 _).symm)];exact Wk.refl _,rfl,rfl⟩
 ·refine⟨[],[],_,_,_,rfl,cf,(),0,trivial,by show Wk (.s (.vw ag l)) (.s (.v (.slice none 0 0)));rw [w4 rfl];exact Wk.nil _,rfl,rfl⟩
 ·cases w6
def amU (s:List Int×List Int):Prop:=s.1.length≤1000000∧s.2.length≤1000000
def amP (s:List Int×List Int):AV:=.a [.vw ag s.1,.vw ag s.2]
def an3 (s:List Int×List Int):List AV:=[]
def ang:cn where
 A:=[.a [.vz ag,.vz ag]]
 B:=[]
 pre:=fun x b=>amU x
 r:=fun x b _=>amP x
 o:=fun x b _=>an3 x
theorem aok:Has Tryz.prog 73 ang:=by
 refine Has.zB zT zF zF (l:=[(109,aor)]) ⟨apb,aa⟩ Tryz.func73 ?_
 rintro⟨(srf:List Int),(sla:List Int)⟩ _ (hp:amU (srf,sla))
 show vc _ _ _ _ (entry [.a [.vz ag srf,.vz ag sla]] []) _
 obtain⟨h1,h2⟩:=hp
 refine⟨Sq1,Sq3,rfl,[.s 3,.b 1001],Sq4,rfl,Sq4,Sq5,rfl,⟨tv2,?_⟩,?_,fun x1 w2=>⟨Sq1,Sq6,rfl,[.s 6,.b 1001],Sq7,rfl,Sq7,Sq8,rfl,⟨tv2,?_⟩,?_,fun x3 w4=>⟨[.s 5,.s 8],Sq9,rfl,[.s 2,.s 9,.b 1002],[.b 1002],rfl,?_⟩⟩⟩
 all_goals first|refine aw ?_|refine ax ?_|exact a8|(dsimp only [aor,anE];omega)|exact a7|exact h1|exact h2|skip
 all_goals refine⟨[],[],_,_,_,rfl,az,(),trivial,?_,?_,rfl⟩
 ·(show _=amP (srf,sla));unfold amP;first|rfl
 ·rfl
def amT (S:ay):Prop:=S.rows.length≤1000000∧S.refs.length≤1000000∧S.last.length≤1000000∧S.gone.length≤1000000∧S.dead.length≤1000000
def amO (S:ay):AV:=.a [.vw ab S.rows,.vw ag S.refs,.vw ag S.last,.int S.cg,.vw ae S.gone,.int S.bZ,.vw ae S.dead,.q S.same]
def an2 (S:ay):List AV:=[]
def anf:cn where
 A:=[.a xv]
 B:=[]
 pre:=fun x b=>amT x
 r:=fun x b _=>amO x
 o:=fun x b _=>an2 x
theorem aoj:Has Tryz.prog 38 anf:=by
 refine Has.zB zT zF zF (l:=[(72,aoq),(67,ani),(73,ang)]) ⟨apa,aom,aok,aa⟩ Tryz.func38 ?_
 rintro⟨(aj:List ByteArray),(ak:List Int),(an:List Int),(ao:Int),(ah:List Pt),(aq:Int),(ai:List Pt),(ar:Bool)⟩ _ (hp:amT (aj,ak,an,ao,ah,aq,ai,ar))
 show vc _ _ _ _ (entry [.a [.vz ab aj,.vz ag ak,.vz ag an,.int ao,.vz ae ah,.int aq,.vz ae ai,.q ar]] []) _
 obtain⟨h1,h2,h3,h4,h5⟩:=hp
 refine⟨⟨tv2,?_⟩,fun x1 w2=>⟨⟨⟨tv3,aa⟩,?_,?_⟩,fun x3 w4=>⟨⟨tv2,?_⟩,fun x5 w6=>⟨⟨tv2,?_⟩,fun x7 w8=>?_⟩⟩⟩⟩
 all_goals first|refine aw ?_|refine ax ?_|exact a8|(dsimp only [aoq,anD,ani,am4,ang,amU];omega)|exact a7|exact h1|exact h2|exact h3|exact h4|exact h5|exact⟨h2,h3⟩|skip
 all_goals refine⟨[],[],_,_,_,rfl,az,(),trivial,?_,?_,rfl⟩
 ·(show _=amO (aj,ak,an,ao,ah,aq,ai,ar));unfold amO;first|rfl
 ·rfl
def amV (S:ay) (t:bf) (k:Int) (text:ByteArray):Prop:=(py S t).2=true∧0≤k∧k<((py S t).1.length:Int)∧text=(bF S (nth ae (py S t).1 k.toNat)).1
def amQ (S:ay) (t:bf) (k:Int) (text:ByteArray):AV:=.t [trA t,.s (.q true)]
def an4 (S:ay) (t:bf) (k:Int) (text:ByteArray):List AV:=[]
def anh:cn where
 A:=[.vs xv,.a [.int,.int,.int,.int,.int,.int,.int],.s .int,.s .str]
 B:=[]
 pre:=fun x b=>amV (x.1) (x.2.1) (x.2.2.1) (x.2.2.2)
 r:=fun x b _=>amQ (x.1) (x.2.1) (x.2.2.1) (x.2.2.2)
 o:=fun x b _=>an4 (x.1) (x.2.1) (x.2.2.1) (x.2.2.2)
theorem aol:Has Tryz.prog 39 anh:=by
 refine Has.zB zT zF (fun d=>d==27) (l:=[(66,DF),(67,ani),(33,kF)]) ⟨abM,aom,zJ,aa⟩ Tryz.func39 ?_
 rintro⟨⟨(aj:List ByteArray),(ak:List Int),(an:List Int),(ao:Int),(ah:List Pt),(aq:Int),(ai:List Pt),(ar:Bool)⟩,⟨(t1:Int),(t2:Int),(t3:Int),(t4:Int),(t5:Int),(t6:Int),(t7:Int)⟩,(k:Int),(text:ByteArray)⟩ _ (hp:amV (aj,ak,an,ao,ah,aq,ai,ar) (t1,t2,t3,t4,t5,t6,t7) k text)
 show vc _ _ _ _ (entry [.s (.vs [.vz ab aj,.vz ag ak,.vz ag an,.v (.int .i64 ao),.vz ae ah,.v (.int .i64 aq),.vz ae ai,.q ar] 0),.a [.int t1,.int t2,.int t3,.int t4,.int t5,.int t6,.int t7],.int k,.str text] []) _
 obtain⟨h1,(h2:0≤k),h3,h4⟩:=hp
 have hv:=amI (s:=(aj,ak,an,ao,ah,aq,ai,ar)) (t:=(t1,t2,t3,t4,t5,t6,t7)) h1
 have hst:=QM.1 hv.1.1
 have cG:qJ (aj,ak,an,ao,ah,aq,ai,ar) (t1,t2,t3,t4,t5,t6,t7)=true:=(Bool.and_eq_true_iff.1 (YI.symm.trans h1)).2
 have hm:t7.toNat≤(bA (aj,ak,an,ao,ah,aq,ai,ar) (t1,t2,t3,t4,t5,t6,t7)).1.length:=adt cG
 have h7:t7≤16:=(an5 cG).1.2
 have hL:(py (aj,ak,an,ao,ah,aq,ai,ar) (t1,t2,t3,t4,t5,t6,t7)).1=(bA (aj,ak,an,ao,ah,aq,ai,ar) (t1,t2,t3,t4,t5,t6,t7)).1.take t7.toNat:=by rw [K9 hv.1.1 cG]
 have hr:ay.rd (aj,ak,an,ao,ah,aq,ai,ar):=hst.rd
 have htx:(0:Int)≤ao:=by have h:1≤ao∧ao≤900:=hst.cg;omega
 refine⟨⟨⟨aa,tv8,aa⟩,?_,?_⟩,fun |false=>fun w1=>⟨⟨tv2,?_⟩,fun x2 w3=>?_⟩ |true=>fun w4=>⟨⟨⟨?_,aa⟩,?_⟩,fun x5 w6=>?_⟩⟩
 all_goals first|refine aw ?_|refine ax ?_|exact a8|(dsimp only [DF,vh,ani,am4,kF,k9];omega)|exact a7|exact hr|exact htx|exact absurd ((show false=qJ (aj,ak,an,ao,ah,aq,ai,ar) (t1,t2,t3,t4,t5,t6,t7) from w1).trans cG) Bool.noConfusion|(show 0+t7.toNat≤(bA (aj,ak,an,ao,ah,aq,ai,ar) (t1,t2,t3,t4,t5,t6,t7)).1.length;omega)|(show (List.take _ _).length≤1000000;rw [ZB9];omega)|skip
 ·exact absurd ((show false=qJ (aj,ak,an,ao,ah,aq,ai,ar) (t1,t2,t3,t4,t5,t6,t7) from w1).trans cG) Bool.noConfusion
 ·show (List.take t7.toNat (bA (aj,ak,an,ao,ah,aq,ai,ar) (t1,t2,t3,t4,t5,t6,t7)).1).length≤1000000;rw [ZB9];omega
 ·refine lW (l:=[(66,DF),(67,ani),(33,kF)]) (ex:=zT) (wr:=zF) (pt:=fun d=>d==27) ⟨abM,aom,zJ,aa⟩ [.s 0,.s 2,.s 3,.s 5,.b 1005,.s 8,.b 1008,.s 9,.s 10,.s 12] (fun _:Unit=>[]) (fun _=>True) (fun _=>0) () [] aa dM ?_
  rintro⟨⟩ _
  have bU:k<(((bA (aj,ak,an,ao,ah,aq,ai,ar) (t1,t2,t3,t4,t5,t6,t7)).1.take t7.toNat).length:Int):=by rw [←hL];exact h3
  have htx:(bF (aj,ak,an,ao,ah,aq,ai,ar) (nth ae ((bA (aj,ak,an,ao,ah,aq,ai,ar) (t1,t2,t3,t4,t5,t6,t7)).1.take t7.toNat) k.toNat)).1=text:=by rw [←hL];exact h4.symm
  have hpo:aZ (nth ae ((bA (aj,ak,an,ao,ah,aq,ai,ar) (t1,t2,t3,t4,t5,t6,t7)).1.take t7.toNat) k.toNat)=true:=by rw [←hL];exact (hv.2 _ (bR (ek:=ae) (by omega))).1.1
  have dd1:decide ((((bA (aj,ak,an,ao,ah,aq,ai,ar) (t1,t2,t3,t4,t5,t6,t7)).1.take t7.toNat).length:Int)≤k)=true→False:=fun h=>by have:=aJ h;omega
  have dd2:(!decide (k≥(((bA (aj,ak,an,ao,ah,aq,ai,ar) (t1,t2,t3,t4,t5,t6,t7)).1.take t7.toNat).length:Int)))=true→True:=fun _=>trivial
  have dd3:(!decide (k≥(((bA (aj,ak,an,ao,ah,aq,ai,ar) (t1,t2,t3,t4,t5,t6,t7)).1.take t7.toNat).length:Int)))=false→False:=fun h=>by have:=aJ (cL h);omega
  have dd4:decide ((bF (aj,ak,an,ao,ah,aq,ai,ar) (nth ae ((bA (aj,ak,an,ao,ah,aq,ai,ar) (t1,t2,t3,t4,t5,t6,t7)).1.take t7.toNat) k.toNat)).1=text)=false→False:=fun h=>aA h htx
  refine⟨fun w1=>⟨aa,?_⟩,fun w2=>⟨⟨?_,?_⟩,⟨⟨aa,tv6,aa⟩,fun x3 w4=>?_,?_,?_⟩,fun x5 w6=>⟨aa,fun w7=>⟨fun w8=>?_,fun w9=>⟨⟨?_,?_⟩,?_⟩⟩,fun dy=>⟨⟨?_,?_⟩,?_⟩⟩⟩⟩
  all_goals first|refine aw ?_|refine ax ?_|exact a8|(dsimp only [DF,vh,ani,am4,kF,k9];omega)|exact a7|exact bU|exact hr.sz _ w4|exact hst.len|exact hpo|skip
  ·exact (dd1 w1).elim
  ·refine⟨[],[],_,_,_,rfl,az,(),aa,?_,?_,rfl⟩
   ·(show _=amQ (aj,ak,an,ao,ah,aq,ai,ar) (t1,t2,t3,t4,t5,t6,t7) k text);unfold amQ;first|rfl
   ·rfl
  ·exact (dd3 w9).elim
  ·exact (dd4 dy).elim
end
end GL
namespace GL
noncomputable section
def amy:List Pt→List Pt→Nat
 |p::x,q::y=>(bif ptrEq p q&& !(au p) then 1 else 0)+amy x y
 |_,_=>0
def amW (x:List Pt):Nat:=x.countP fun p=>au p
theorem anu:∀x y:List Pt,amy x y=amy y x
 |[],[]=>rfl
 |[],_::_=>rfl
 |_::_,[]=>rfl
 |p::x,q::y=>by
  unfold amy
  rw [anu x y]
  cases h:ptrEq p q with
  |true=>have:=sb.1 h;subst this;rw [show ptrEq p p=true from h]
  |false=>
   have h2:ptrEq q p=false:=by
    cases h2:ptrEq q p with
    |false=>rfl
    |true=>have:=sb.1 h2;subst this;rw [show ptrEq q q=true from sb.2 rfl] at h;cases h
   rw [h2];rfl
theorem anv:∀x:List Pt,amy x x+amW x=x.length
 |[]=>rfl
 |p::x=>by
  have h:=anv x
  unfold amW at h ⊢
  unfold amy
  rw [show ptrEq p p=true from sb.2 rfl,List.countP_cons,ZA1]
  cases hp:au p with
  |true=>simp;omega
  |false=>simp;omega
theorem amM:∀x y:List Pt,amy x y≤x.length∧amy x y≤y.length
 |[],y=>⟨ZA7 _,ZA7 _⟩
 |_::_,[]=>⟨ZA7 _,ZA7 _⟩
 |p::x,q::y=>by
  have h:=amM x y
  unfold amy
  rw [ZA1,ZA1]
  cases ptrEq p q&& !(au p)<;>simp<;>omega
def amB (s:ay) (a b:bf):Int×Bool:=bif (py s a).2&&(py s b).2 then (((amy (py s a).1 (py s b).1:Nat):Int),true) else (0,false)
theorem anB {s:ay}{a b:bf}(h:(py s a).2=false∨(py s b).2=false):amB s a b=(0,false):=by
 unfold amB
 rcases h with h |h
 ·rw [h];rfl
 ·rw [h,ZD7];rfl
theorem amX {s:ay}{a b:bf}(h:(py s a).2=true) (h2:(py s b).2=true):amB s a b=(((amy (py s a).1 (py s b).1:Nat):Int),true):=by unfold amB;rw [h,h2];rfl
theorem anp:∀x:List Pt,amy x []=0
 |[]=>rfl
 |_::_=>rfl
theorem aoy {x y:List Pt}{i:Nat}(hx:i<x.length) (hy:i<y.length):amy (x.drop i) (y.drop i)=(bif ptrEq (nth ae x i) (nth ae y i)&& !(au (nth ae x i)) then 1 else 0)+amy (x.drop (i+1)) (y.drop (i+1)):=by
 rw [bW (ek:=ae) hx,bW (ek:=ae) hy];rfl
theorem aoc {x y:List Pt}{i:Nat}(h:¬(i<x.length∧i<y.length)):amy (x.drop i) (y.drop i)=0:=by
 by_cases hx:i<x.length
 ·rw [show y.drop i=[] from ZB3 (by omega)];exact anp _
 ·rw [show x.drop i=[] from ZB3 (by omega)];rfl
structure amq (X Y:List Pt) (i:Nat) (n:Int):Prop where
 n:n=(amy X Y:Int)-amy (X.drop i) (Y.drop i)
 x:i≤X.length
 y:i≤Y.length
theorem amq.z (X Y:List Pt):amq X Y 0 0:=⟨by simp,ZA7 _,ZA7 _⟩
theorem amq.st {X Y:List Pt}{i:Nat}{n:Int}(h:amq X Y i n) (h1:i<X.length) (h2:i<Y.length) (c:Bool) (hc:(ptrEq (nth ae X i) (nth ae Y i)&& !(au (nth ae X i)))=c):amq X Y (i+1) (n+bif c then 1 else 0):=by
 have e:=aoy h1 h2
 rw [hc] at e
 refine⟨?_,h1,h2⟩
 have:=h.n
 cases c with
 |true=>simp only [cond_true] at e ⊢;omega
 |false=>simp only [cond_false] at e ⊢;omega
theorem amq.hit {X Y:List Pt}{i:Nat}{n:Int}(h:amq X Y i n) (h1:i<X.length) (h2:i<Y.length) (hq:ptrEq (nth ae X i) (nth ae Y i)=true) (hh:(!(au (nth ae X i)))=true):amq X Y (i+1) (n+1):=h.st h1 h2 true (by rw [hq,hh];rfl)
theorem amq.mi {X Y:List Pt}{i:Nat}{n:Int}(h:amq X Y i n) (h1:i<X.length) (h2:i<Y.length) (hq:ptrEq (nth ae X i) (nth ae Y i)=false∨(!(au (nth ae X i)))=false):amq X Y (i+1) n:=by
 have e:=h.st h1 h2 false (by rcases hq with hq |hq<;>rw [hq];exact Bool.false_and _;exact ZD7 _)
 rw [cond_false,Int.add_zero] at e;exact e
theorem amq.ams {X Y:List Pt}{i:Nat}{n:Int}(h:amq X Y i n) (hx:X.length≤16): -16≤n∧n≤16:=by
 have h1:=(amM X Y).1
 have h2:=(amM (X.drop i) (Y.drop i)).1
 rw [ZC8] at h2
 have:=h.n;omega
theorem amq.e {X Y:List Pt}{i:Nat}{n:Int}(h:amq X Y i n) (he:¬(i<X.length∧i<Y.length)):n=(amy X Y:Int):=by
 have:=aoc he;have:=h.n;omega
theorem apo {i n:Nat}(h:decide ((i:Int)<(n:Int))=true):i<n:=by have:=aJ h;omega
theorem apk {i n:Nat}(h:decide ((i:Int)<(n:Int))=false):¬i<n:=by have:=aA h;omega
theorem lt_min {i n m:Nat}(h:decide ((i:Int)<min (n:Int) (m:Int))=true):i<n∧i<m:=by have:=aJ h;omega
theorem apl {i n m:Nat}(h:decide ((i:Int)<min (n:Int) (m:Int))=false):¬(i<n∧i<m):=by have:=aA h;omega
end
end GL
end Go.Proofs.YtnkbdhldiinfdaaGreatDoor
