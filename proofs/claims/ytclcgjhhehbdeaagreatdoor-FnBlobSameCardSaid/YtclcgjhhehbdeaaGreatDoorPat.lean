/- A drawn law returns true for every code (its row lists package variables, tied by the card): part 20. -/
import Derived.Test.YtclcgjhhehbdeaaGreatDoorPas
set_option maxHeartbeats 20000000
set_option maxRecDepth 100000
set_option linter.all false
namespace Go.Proofs.YtclcgjhhehbdeaaGreatDoor
namespace GL
theorem TX:∀{l:List Pt}{i:Nat}{out o:ByteArray}{sm m:Bool},gW l i out sm=some (o,m)→o.size≤out.size+65*l.length
 |[],i,out,o,sm,m,h=>by cases h;exact ZB5 _
 |p::l,i,out,o,sm,m,h=>by
  unfold gW at h
  cases hb:aZ p with
  |true=>
   rw [hb,cond_true] at h
   have h1:=TX h
   have h2:=gr p
   rw [ZB2] at h1
   rw [ZA1]
   cases hd:decide ((i:Int)>0) with
   |true=>rw [hd,cond_true,ZB2,sz1] at h1;omega
   |false=>rw [hd,cond_false] at h1;omega
  |false=>rw [hb] at h;cases h
theorem XG (l:List Pt):(bE l).1.size≤1000:=by
 unfold bE
 cases hc:decide ((l.length:Int)≠4) with
 |true=>exact ZA7 _
 |false=>
  have h4:=aA hc
  show (re l).1.size≤1000
  unfold re
  cases hf:gW l 0 ⟨#[]⟩ false with
  |none=>exact ZA7 _
  |some r=>
   obtain⟨o,sm⟩:=r
   have h1:=TX hf
   rw [sz0] at h1
   show (rh o sm).1.size≤1000
   unfold rh
   cases !sm with
   |true=>exact ZA7 _
   |false=>show o.size≤1000;omega
def fC (s:ay) (l:List Pt) (old:Pt):Bool:= !(au old)&&(iV old (bE l).1&&decide (nth ab s.rows old.1.toNat=(bE l).1))
def dZ (s:ay) (l:List Pt) (lv:Int) (old:Pt):ay×Pt×Bool:=
 bif nR l then (s,bM,true) else bif fC s l old then (s,old,true) else bd s (bE l).1 lv
theorem JA {s:ay}{l:List Pt}{lv:Int}{old:Pt}(h:nR l=true):dZ s l lv old=(s,bM,true):=by unfold dZ;rw [h];rfl
theorem I9 {s:ay}{l:List Pt}{lv:Int}{old:Pt}(h:nR l=false) (h2:fC s l old=true):dZ s l lv old=(s,old,true):=by unfold dZ;rw [h,h2];rfl
theorem tO {s:ay}{l:List Pt}{lv:Int}{old:Pt}(h:nR l=false) (h2:fC s l old=false):dZ s l lv old=bd s (bE l).1 lv:=by unfold dZ;rw [h,h2];rfl
theorem MW {s:ay}{l:List Pt}{old:Pt}(h1:(!(au old))=true) (h2:iV old (bE l).1=true) (h3:decide (nth ab s.rows old.1.toNat=(bE l).1)=true):fC s l old=true:=by unfold fC;rw [h1,h2,h3];rfl
theorem MZ {s:ay}{l:List Pt}{old:Pt}(h1:(!(au old))=false):fC s l old=false:=by unfold fC;rw [h1];rfl
theorem MY {s:ay}{l:List Pt}{old:Pt}(h2:iV old (bE l).1=false):fC s l old=false:=by unfold fC;rw [h2,Bool.false_and,ZD7]
theorem MX {s:ay}{l:List Pt}{old:Pt}(h3:decide (nth ab s.rows old.1.toNat=(bE l).1)=false):fC s l old=false:=by unfold fC;rw [h3,ZD7,ZD7]
structure ay.aky (s:ay):Prop where
 ok:s.n64
def kX (S:ay) (l:List Pt) (lv:Int) (o:Pt):Prop:=S.aky∧l.length≤1000000∧0≤o.1∧o.1<64
def gR (S:ay) (l:List Pt) (lv:Int) (o:Pt):AV:=.t [.a (kT 0 1 2 3 4 (dZ S l lv o).1),ptA (dZ S l lv o).2.1,.s (.q (dZ S l lv o).2.2)]
def jn (S:ay) (l:List Pt) (lv:Int) (o:Pt):List AV:=F9 (dZ S l lv o).1
def j0:cn where
 A:=[.a (stB 0 1 2 3 4),.s (.vz ae),.s .int,.a [.int,.int,.int,.int,.int]]
 B:=[.r ab,.r ag,.r ag,.r ae,.r ae]
 pre:=fun x b=>stW x.1 b∧kX (gO x.1 b) (x.2.1) (x.2.2.1) (x.2.2.2)
 r:=fun x b _=>gR (gO x.1 b) (x.2.1) (x.2.2.1) (x.2.2.2)
 o:=fun x b _=>jn (gO x.1 b) (x.2.1) (x.2.2.1) (x.2.2.2)
theorem wM:Has Tryz.prog 97 j0:=by
 refine Has.fl zT zF zF (l:=[(134,JR),(135,J1),(54,cx),(90,sJ),(61,mX)]) ⟨adK,adV,cz,MD,CK,aa⟩ Tryz.func97 ?_
 rintro⟨⟨(AO:Nat),(AN:Nat),(AM:Nat),(ao:Int),(AL:Nat),(aq:Int),(AK:Nat),(ar:Bool)⟩,(l:List Pt),(lv:Int),⟨(o1:Int),(o2:Int),(o3:Int),(o4:Int),(o5:Int)⟩⟩ ⟨(aj:List ByteArray),(ak:List Int),(an:List Int),(ah:List Pt),(ai:List Pt)⟩ ⟨⟨(gB:AO=List.length aj),(gA:AN=List.length ak),(gz:AM=List.length an),(gy:AL=List.length ah),(gx:AK=List.length ai)⟩,(hp:kX (aj,ak,an,ao,ah,aq,ai,ar) l lv (o1,o2,o3,o4,o5))⟩
 subst gB gA gz gy gx
 show vc _ _ _ _ (entry [.a [.xs 0 1 0 aj.length,.xs 1 1 0 ak.length,.xs 2 1 0 an.length,.int ao,.xs 3 5 0 ah.length,.int aq,.xs 4 5 0 ai.length,.q ar],.s (.vz ae l),.int lv,.a [.int o1,.int o2,.int o3,.int o4,.int o5]] [.rs ab aj,.rs ag ak,.rs ag an,.rs ae ah,.rs ae ai]) _
 let g':=(aj,ak,an,ao,ah,aq,ai,ar)
 let A':=(o1,o2,o3,o4,o5)
 obtain⟨⟨⟨l1,l2,l3⟩⟩,h2,(h3:0≤o1),(h4:o1<64)⟩:=hp
 dsimp only [ay.rows,ay.refs,ay.last] at l1 l2 l3
 have dj:=XG l
 refine⟨⟨tv2,?_⟩,fun x1 w2=>⟨fun w3=>?_,fun w4=>⟨⟨tv2,aa⟩,fun x5 w6=>⟨⟨⟨tv6,aa⟩,aa⟩,fun x7 w8=>⟨aa,fun w9=>⟨⟨⟨tv6,tv2⟩,?_⟩,fun x10 kx=>⟨aa,fun dI=>⟨⟨?_,?_⟩,?_,fun iS=>⟨[.s 4,.b 1004],Sq40,rfl,[.s 7,.b 1007],Sq41,rfl,[.s 8,.s 40,.b 1008],[.b 1008],rfl,[.s 9,.s 41,.b 1009],[.b 1009],rfl,[],Sq10,rfl,?_⟩,fun gN=>⟨⟨⟨tv9,tv3⟩,⟨?_,?_,?_,?_,?_⟩,⟨?_,?_,?_⟩,?_⟩,fun kt kc=>?_⟩⟩,fun xd=>⟨⟨⟨tv9,tv3⟩,⟨?_,?_,?_,?_,?_⟩,⟨?_,?_,?_⟩,?_⟩,fun qD oH=>?_⟩⟩⟩,fun uE=>⟨⟨⟨tv9,tv3⟩,⟨?_,?_,?_,?_,?_⟩,⟨?_,?_,?_⟩,?_⟩,fun x21 AX=>?_⟩⟩⟩⟩⟩⟩
 all_goals first|refine aw ?_|refine ax ?_|exact a8|(dsimp only [JR,s9,J1,yh,sJ,nL,mX,nI,gO];omega)|exact a7|(show ((bE l).1.size:Int)≤1000000000000;omega)|exact l1|exact l2|exact l3|exact h2|skip
 ·refine⟨[],[],_,_,_,rfl,az,(),aa,?_,?_,rfl⟩
  ·(show _=gR g' l lv A');unfold gR;first|(rw [JA (s:=g') (l:=l) (lv:=lv) (old:=A') w3];rfl)|rfl
  ·(show _=jn g' l lv A');unfold jn;first|(rw [JA (s:=g') (l:=l) (lv:=lv) (old:=A') w3];rfl)|rfl
 ·refine⟨[],[],_,_,_,rfl,az,(),aa,?_,?_,rfl⟩
  ·(show _=gR g' l lv A');unfold gR;first|(rw [I9 (s:=g') (l:=l) (lv:=lv) (old:=A') w4 (MW (s:=g') (l:=l) (old:=A') w9 dI iS)];rfl)|rfl
  ·(show _=jn g' l lv A');unfold jn;first|(rw [I9 (s:=g') (l:=l) (lv:=lv) (old:=A') w4 (MW (s:=g') (l:=l) (old:=A') w9 dI iS)];rfl)|rfl
 ·refine⟨[],[],_,_,_,rfl,az,(),aa,?_,?_,rfl⟩
  ·(show _=gR g' l lv A');unfold gR;first|(rw [tO (s:=g') (l:=l) (lv:=lv) (old:=A') w4 (MX (s:=g') (l:=l) (old:=A') gN)];rfl)|rfl
  ·(show _=jn g' l lv A');unfold jn;first|(rw [tO (s:=g') (l:=l) (lv:=lv) (old:=A') w4 (MX (s:=g') (l:=l) (old:=A') gN)];rfl)|rfl
 ·refine⟨[],[],_,_,_,rfl,az,(),aa,?_,?_,rfl⟩
  ·(show _=gR g' l lv A');unfold gR;first|(rw [tO (s:=g') (l:=l) (lv:=lv) (old:=A') w4 (MY (s:=g') (l:=l) (old:=A') xd)];rfl)|rfl
  ·(show _=jn g' l lv A');unfold jn;first|(rw [tO (s:=g') (l:=l) (lv:=lv) (old:=A') w4 (MY (s:=g') (l:=l) (old:=A') xd)];rfl)|rfl
 ·refine⟨[],[],_,_,_,rfl,az,(),aa,?_,?_,rfl⟩
  ·(show _=gR g' l lv A');unfold gR;first|(rw [tO (s:=g') (l:=l) (lv:=lv) (old:=A') w4 (MZ (s:=g') (l:=l) (old:=A') uE)];rfl)|rfl
  ·(show _=jn g' l lv A');unfold jn;first|(rw [tO (s:=g') (l:=l) (lv:=lv) (old:=A') w4 (MZ (s:=g') (l:=l) (old:=A') uE)];rfl)|rfl
def bw (s:ay) (t:bf):List Pt:=
 bif decide (t.depth=0)||au t.root then [] else
 bif decide (t.depth=2) then t.root::(bg s t.root 2).1.filter (fun p=> !(au p)) else [t.root]
theorem IN {s:ay}{t:bf}(h:decide (t.depth=0)=true):bw s t=[]:=by unfold bw;rw [h];rfl
theorem zL {s:ay}{t:bf}(h:au t.root=true):bw s t=[]:=by unfold bw;rw [h,ZC4];rfl
theorem zK {s:ay}{t:bf}(h:decide (t.depth=0)=false) (h2:au t.root=false) (h3:decide (t.depth=2)=false):bw s t=[t.root]:=by unfold bw;rw [h,h2,h3];rfl
theorem IM {s:ay}{t:bf}(h:decide (t.depth=0)=false) (h2:au t.root=false) (h3:decide (t.depth=2)=true):bw s t=t.root::(bg s t.root 2).1.filter (fun p=> !(au p)):=by unfold bw;rw [h,h2,h3];rfl
theorem aep {l:List Pt}{f:Pt→Bool}{i:Nat}(hi:i<l.length) (h:f (nth ae l i)=true):(l.take (i+1)).filter f=(l.take i).filter f++[nth ae l i]:=by
 rw [F6 hi,List.filter_append,List.filter_cons,h];rfl
theorem aeq {l:List Pt}{f:Pt→Bool}{i:Nat}(hi:i<l.length) (h:f (nth ae l i)=false):(l.take (i+1)).filter f=(l.take i).filter f:=by
 rw [F6 hi,List.filter_append,List.filter_cons,h];simp
def ic (S:ay) (t:bf):Prop:=S.rd
def gp (S:ay) (t:bf):AV:=.s (.xs 0 5 0 (bw S t).length)
def iu (S:ay) (t:bf):List AV:=[.rs ae (bw S t)]
def fN:cn where
 A:=[.a xq,.a [.int,.int,.int,.int,.int,.int,.int]]
 B:=[]
 pre:=fun x b=>ic (x.1) (x.2)
 r:=fun x b _=>gp (x.1) (x.2)
 o:=fun x b _=>iu (x.1) (x.2)
 nf:=1
theorem o8:Has Tryz.prog 95 fN:=by
 refine Has.fl zT zF zF (l:=[(54,cx),(89,ee)]) ⟨cz,lg,aa⟩ Tryz.func95 ?_
 rintro⟨⟨(aj:List ByteArray),(ak:List Int),(an:List Int),(ao:Int),(ah:List Pt),(aq:Int),(ai:List Pt),(ar:Bool)⟩,⟨(t1:Int),(t2:Int),(t3:Int),(t4:Int),(t5:Int),(t6:Int),(t7:Int)⟩⟩ _ (hp:ic (aj,ak,an,ao,ah,aq,ai,ar) (t1,t2,t3,t4,t5,t6,t7))
 show vc _ _ _ _ (entry [.a [.vz ab aj,.vz ag ak,.vz ag an,.int ao,.vz ae ah,.int aq,.vz ae ai,.q ar],.a [.int t1,.int t2,.int t3,.int t4,.int t5,.int t6,.int t7]] []) _
 let g':=(aj,ak,an,ao,ah,aq,ai,ar)
 let A':=(t1,t2,t3,t4,t5,t6,t7)
 let B':=(t1,t2,t3,t4,t5)
 have dE:ay.rd g':=hp
 refine⟨aa,aa,fun w1=>?_,fun w2=>⟨⟨⟨tv6,aa⟩,aa⟩,fun x3 w4=>⟨fun w5=>?_,fun w6=>⟨aa,⟨⟨?_,?_⟩,?_,?_⟩,fun w7=>⟨⟨⟨tv9,tv6,tv2⟩,?_⟩,fun x8 w9=>?_⟩,fun dx=>?_⟩⟩⟩⟩
 all_goals first|refine aw ?_|refine ax ?_|exact a8|(dsimp only [ee,fE];omega)|exact a7|exact dE|skip
 ·refine⟨[1009],[],_,_,_,rfl,az,(),aa,?_,?_,rfl⟩
  ·(show _=gp g' A');unfold gp;first|(rw [IN (s:=g') (t:=A') w1];rfl)|rfl
  ·(show _=iu g' A');unfold iu;first|(rw [IN (s:=g') (t:=A') w1];rfl)|rfl
 ·refine⟨[1009],[],_,_,_,rfl,az,(),aa,?_,?_,rfl⟩
  ·(show _=gp g' A');unfold gp;first|(rw [zL (s:=g') (t:=A') w5];rfl)|rfl
  ·(show _=iu g' A');unfold iu;first|(rw [zL (s:=g') (t:=A') w5];rfl)|rfl
 ·have hB:=(iE g' B' 2).1
  have hM:=IM (s:=g') (t:=A') w2 w6 w7
  refine cN (l:=[(54,cx),(89,ee)]) (ex:=zT) (wr:=zF) (pt:=zF) ⟨cz,lg,aa⟩ [.s 6,.b 320000] (fun y:Nat×List Pt=>[(.s 5,.s (.xs 1023 5 0 y.2.length)),(.s 8,.int y.1),(.b 1023,.rs ae y.2)]) (fun y=>y.1≤(bg g' B' 2).1.length∧y.2.length≤y.1+1∧y.2=B'::((bg g' B' 2).1.take y.1).filter (fun p=> !(au p))) (fun y=>(bg g' B' 2).1.length-y.1) (0,[B']) [] ⟨ZA7 _,ZB5 _,rfl⟩ dL ?_
  rintro⟨i,out⟩ ⟨(hi:i≤(bg g' B' 2).1.length),(hlo:out.length≤i+1),(he:out=B'::((bg g' B' 2).1.take i).filter (fun p=> !(au p)))⟩
  have cm:decide ((i:Int)<((bg g' B' 2).1.length:Int))=true→i<(bg g' B' 2).1.length:=fun h=>by have:=aJ h;omega
  refine⟨fun w1=>⟨⟨?_,?_⟩,?_,⟨⟨tv6,aa⟩,aa⟩,fun x2 w3=>⟨fun w4=>⟨⟨?_,?_⟩,?_,aa,⟨⟨?_,?_⟩,?_,?_⟩,⟨?_,?_⟩,?_⟩,fun w5=>⟨⟨?_,?_⟩,?_⟩⟩⟩,fun w6=>?_⟩
  all_goals first|refine aw ?_|refine ax ?_|exact a8|(dsimp only [ee,fE];omega)|exact a7|exact cm w1|exact aJ w1|(show out.length+1≤1048576;omega)|skip
  ·refine⟨(i+1,out++[nth ae (bg g' B' 2).1 i]),[(1023,1052)],?_,?_,?_⟩
   rotate_right
   ·exact bV
   ·exact⟨cm w1,by show List.length (_++_)≤_;rw [ZA0];show out.length+1≤i+1+1;omega,by show _=_::_;rw [aep (l:=(bg g' B' 2).1) (cm w1) w4,he];rfl⟩
   ·show (bg g' B' 2).1.length-(i+1)<(bg g' B' 2).1.length-i;have:=cm w1;omega
  ·refine⟨(i+1,out),[],?_,?_,?_⟩
   rotate_right
   ·exact bV
   ·exact⟨cm w1,by show out.length≤i+1+1;omega,by show _=_::_;rw [aeq (l:=(bg g' B' 2).1) (cm w1) w5];exact he⟩
   ·show (bg g' B' 2).1.length-(i+1)<(bg g' B' 2).1.length-i;have:=cm w1;omega
  ·have FF:¬i<(bg g' B' 2).1.length:=by have:=aA (p:=(i:Int)<((bg g' B' 2).1.length:Int)) w6;omega
   have e:bw g' A'=out:=by rw [hM,he,ZD1 (by omega)]
   refine⟨[1023],[],_,_,_,rfl,az,(),aa,?_,?_,rfl⟩
   ·(show _=gp g' A');unfold gp;first|(rw [e];rfl)|rfl
   ·(show _=iu g' A');unfold iu;first|(rw [e];rfl)|rfl
 ·refine⟨[1023],[],_,_,_,rfl,az,(),aa,?_,?_,rfl⟩
  ·(show _=gp g' A');unfold gp;first|(rw [zK (s:=g') (t:=A') w2 w6 dx];rfl)|rfl
  ·(show _=iu g' A');unfold iu;first|(rw [zK (s:=g') (t:=A') w2 w6 dx];rfl)|rfl
def dK (s:ay) (t:bf) (d lv:Int):List Pt:=
 bif decide (t.depth≠d) then cu 4 else bif decide (lv=d) then [t.root] else bif !(bg s t.root d).2 then cu 4 else (bg s t.root d).1
theorem B5 {s:ay}{t:bf}{d lv:Int}(h:decide (t.depth≠d)=true):dK s t d lv=cu 4:=by unfold dK;rw [h];rfl
theorem HI {s:ay}{t:bf}{d lv:Int}(h:decide (t.depth≠d)=false) (h2:decide (lv=d)=true):dK s t d lv=[t.root]:=by unfold dK;rw [h,h2];rfl
theorem OP {s:ay}{t:bf}{d lv:Int}(h:decide (t.depth≠d)=false) (h2:decide (lv=d)=false) (h3:(!(bg s t.root d).2)=true):dK s t d lv=cu 4:=by unfold dK;rw [h,h2,h3];rfl
theorem HH {s:ay}{t:bf}{d lv:Int}(h:decide (t.depth≠d)=false) (h2:decide (lv=d)=false) (h3:(!(bg s t.root d).2)=false):dK s t d lv=(bg s t.root d).1:=by unfold dK;rw [h,h2,h3];rfl
def kU (S:ay) (t:bf) (d:Int) (lv:Int):Prop:=S.rd
def jK (S:ay) (t:bf) (d:Int) (lv:Int):AV:=.s (.xs 0 5 0 (dK S t d lv).length)
def lQ (S:ay) (t:bf) (d:Int) (lv:Int):List AV:=[.rs ae (dK S t d lv)]
def jX:cn where
 A:=[.a xq,.a [.int,.int,.int,.int,.int,.int,.int],.s .int,.s .int]
 B:=[]
 pre:=fun x b=>kU (x.1) (x.2.1) (x.2.2.1) (x.2.2.2)
 r:=fun x b _=>jK (x.1) (x.2.1) (x.2.2.1) (x.2.2.2)
 o:=fun x b _=>lQ (x.1) (x.2.1) (x.2.2.1) (x.2.2.2)
 nf:=1
theorem wJ:Has Tryz.prog 96 jX:=by
 refine Has.fl zT zF zF (l:=[(92,jZ),(89,ee)]) ⟨wL,lg,aa⟩ Tryz.func96 ?_
 rintro⟨⟨(aj:List ByteArray),(ak:List Int),(an:List Int),(ao:Int),(ah:List Pt),(aq:Int),(ai:List Pt),(ar:Bool)⟩,⟨(t1:Int),(t2:Int),(t3:Int),(t4:Int),(t5:Int),(t6:Int),(t7:Int)⟩,(d:Int),(lv:Int)⟩ _ (hp:kU (aj,ak,an,ao,ah,aq,ai,ar) (t1,t2,t3,t4,t5,t6,t7) d lv)
 show vc _ _ _ _ (entry [.a [.vz ab aj,.vz ag ak,.vz ag an,.int ao,.vz ae ah,.int aq,.vz ae ai,.q ar],.a [.int t1,.int t2,.int t3,.int t4,.int t5,.int t6,.int t7],.int d,.int lv] []) _
 let g':=(aj,ak,an,ao,ah,aq,ai,ar)
 let A':=(t1,t2,t3,t4,t5,t6,t7)
 have dE:ay.rd g':=hp
 refine⟨fun w1=>⟨⟨tv2,?_,?_⟩,fun x2 w3=>?_⟩,fun w4=>⟨fun w5=>⟨aa,?_⟩,fun w6=>⟨⟨⟨tv9,tv6,tv2⟩,?_⟩,fun x7 w8=>⟨fun w9=>⟨⟨tv2,?_,?_⟩,fun x10 kx=>?_⟩,fun dI=>?_⟩⟩⟩⟩
 all_goals first|refine aw ?_|refine ax ?_|exact a8|(dsimp only [jZ,kW,ee,fE];omega)|exact a7|exact dE|skip
 ·refine⟨[160000],[],_,_,_,rfl,az,(),aa,?_,?_,rfl⟩
  ·(show _=jK g' A' d lv);unfold jK;first|(rw [B5 (s:=g') (t:=A') (d:=d) (lv:=lv) w1];rfl)|rfl
  ·(show _=lQ g' A' d lv);unfold lQ;first|(rw [B5 (s:=g') (t:=A') (d:=d) (lv:=lv) w1];rfl)|rfl
 ·refine⟨[1021],[],_,_,_,rfl,az,(),aa,?_,?_,rfl⟩
  ·(show _=jK g' A' d lv);unfold jK;first|(rw [HI (s:=g') (t:=A') (d:=d) (lv:=lv) w4 w5];rfl)|rfl
  ·(show _=lQ g' A' d lv);unfold lQ;first|(rw [HI (s:=g') (t:=A') (d:=d) (lv:=lv) w4 w5];rfl)|rfl
 ·trace_state
  refine⟨[330000],[],_,_,_,rfl,az,(),aa,?_,?_,rfl⟩
  ·(show _=jK g' A' d lv);unfold jK;first|(rw [OP (s:=g') (t:=A') (d:=d) (lv:=lv) w4 w6 w9];rfl)|rfl
  ·(show _=lQ g' A' d lv);unfold lQ;first|(rw [OP (s:=g') (t:=A') (d:=d) (lv:=lv) w4 w6 w9];rfl)|rfl
 ·refine⟨[280000],[],_,_,_,rfl,az,(),aa,?_,?_,rfl⟩
  ·(show _=jK g' A' d lv);unfold jK;first|(rw [HH (s:=g') (t:=A') (d:=d) (lv:=lv) w4 w6 dI];rfl)|rfl
  ·(show _=lQ g' A' d lv);unfold lQ;first|(rw [HH (s:=g') (t:=A') (d:=d) (lv:=lv) w4 w6 dI];rfl)|rfl
end GL
namespace GL
def ptrEq (p q:Pt):Bool:=decide (p.1=q.1)&&(decide (p.2.1=q.2.1)&&(decide (p.2.2.1=q.2.2.1)&&(decide (p.2.2.2.1=q.2.2.2.1)&&decide (p.2.2.2.2=q.2.2.2.2))))
theorem r7 {p q:Pt}:ptrEq p q=true↔p=q:=by
 unfold ptrEq
 simp only [ZA9,decide_eq_true_eq]
 constructor
 ·rintro⟨h1,h2,h3,h4,h5⟩
  obtain⟨a,b,c,d,e⟩:=p
  obtain⟨a',b',c',d',e'⟩:=q
  simp only at h1 h2 h3 h4 h5
  subst h1 h2 h3 h4 h5;rfl
 ·rintro rfl;exact⟨rfl,rfl,rfl,rfl,rfl⟩
def B1:Nat→List Pt→List Pt
 |0,l=>l
 |f+1,l=>bif decide ((l.length:Int) % 4≠0) then B1 f (l++[bM]) else l
def eJ (l:List Pt):List Pt:=B1 4 l
theorem acP {f:Nat}{l:List Pt}(h:decide ((l.length:Int) % 4≠0)=true):B1 (f+1) l=B1 f (l++[bM]):=by rw [B1,h];rfl
theorem acQ {f:Nat}{l:List Pt}(h:decide ((l.length:Int) % 4≠0)=false):B1 f l=l:=by
 cases f with
 |zero=>rfl
 |succ f=>rw [B1,h];rfl
theorem RP:∀(f:Nat) (l:List Pt),4≤f+(l.length % 4)∨l.length % 4=0→(B1 f l).length=(l.length+3) / 4*4
 |0,l,h=>by show l.length=_;omega
 |f+1,l,h=>by
  unfold B1
  cases hd:decide ((l.length:Int) % 4≠0) with
  |true=>
   have:=aJ hd
   rw [cond_true,RP f _ (by rw [ZA0];show 4≤f+(l.length+1) % 4∨(l.length+1) % 4=0;omega),ZA0]
   show (l.length+1+3) / 4*4=_;omega
  |false=>
   have:=aA hd
   rw [cond_false];omega
theorem HA (l:List Pt):(eJ l).length=(l.length+3) / 4*4:=RP 4 l (by omega)
def qK (l:List Pt) (i:Nat):List Pt:=(l.drop (0+((i:Int)*4).toNat)).take ((((i:Int)+1)*4).toNat-((i:Int)*4).toNat)
def fH:Nat→ay→Int→List Pt→List Pt→Nat→List Pt→List Pt→ay×Option (List Pt×List Pt)
 |0,s,_,_,_,_,next,stays=>(s,some (next,stays))
 |f+1,s,lv,j7,l,i,next,stays=>
  bif decide ((i:Int)*4<l.length) then
   (bif !(dZ s (qK l i) lv (nth ae j7 i)).2.2 then ((dZ s (qK l i) lv (nth ae j7 i)).1,none) else
    fH f (dZ s (qK l i) lv (nth ae j7 i)).1 lv j7 l (i+1) (next++[(dZ s (qK l i) lv (nth ae j7 i)).2.1])
     (bif ptrEq (dZ s (qK l i) lv (nth ae j7 i)).2.1 (nth ae j7 i) then stays++[(dZ s (qK l i) lv (nth ae j7 i)).2.1] else stays))
  else (s,some (next,stays))
def mg:Nat→ay→bf→Int→Int→List Pt→List Pt→ay×Option (List Pt×List Pt)
 |0,s,_,_,_,l,stays=>(s,some (l,stays))
 |f+1,s,t,d,lv,l,stays=>bif decide (lv≤d) then
   (match fH 5 s lv (dK s t d lv) (eJ l) 0 [] stays with
    |(s',none)=>(s',none)
    |(s',some (n,st))=>mg f s' t d (lv+1) n st)
  else (s,some (l,stays))
def gV (stays:List Pt) (o:Pt):Bool:=stays.any fun q=>ptrEq q o
def dW:List Pt→List Pt→ay→ay
 |[],_,s=>s
 |o::l,stays,s=>dW l stays (bif gV stays o then s else cM s o)
def rootOf (l:List Pt):Pt:=bif decide ((l.length:Int)>0) then nth ae l 0 else bM
def LR (p:Pt) (d many:Int):bf:=(p.1,p.2.1,p.2.2.1,p.2.2.2.1,p.2.2.2.2,d,many)
def nt:bf:=(0,0,0,0,0,0,0)
def akB (s0:ay) (t:bf) (many:Int):ay×Option (List Pt×List Pt)→ay×bf×Bool
 |(s',none)=>(s',nt,false)
 |(s',some (l,stays))=>(dW (bw s0 t) stays s',LR (rootOf l) (bj many) many,true)
def bQ (s:ay) (t:bf) (leaves:List Pt) (many:Int):ay×bf×Bool:=akB s t many (mg 3 s t (bj many) 1 (leaves.take many.toNat) [])
def trA (t:bf):A0:=.a [.int t.1,.int t.2.1,.int t.2.2.1,.int t.2.2.2.1,.int t.2.2.2.2.1,.int t.2.2.2.2.2.1,.int t.2.2.2.2.2.2]
structure ay.wf (s:ay):Prop where
 n:s.n64
 sz:∀x∈s.rows,x.size≤1000000
theorem ay.wf.rd {s:ay}(h:s.wf):s.rd:=⟨h.n.1,h.sz⟩
theorem UU {l:List ByteArray}{k:Nat}{x:ByteArray}(h:∀y∈l,y.size≤1000000) (hx:x.size≤1000000):∀y∈l.set k x,y.size≤1000000:=by
 intro y hy
 rcases List.mem_or_eq_of_mem_set hy with h1 |h1
 ·exact h y h1
 ·rw [h1];exact hx
theorem jI (s:ay) (text:ByteArray) (lv:Int):(bd s text lv).2.2=false∧(bd s text lv).1=s∨∃k:Nat,(bd s text lv).2.2=true∧(bd s text lv).1=uK s text k∧text.size≤128:=by
 unfold bd
 cases hd:decide (da s text lv<0) with
 |true=>exact .inl ⟨rfl,rfl⟩
 |false=>
  cases ho:(gu (da s text lv) s.cg lv text).2 with
  |false=>exact .inl ⟨rfl,rfl⟩
  |true=>
   refine .inr ⟨(da s text lv).toNat,rfl,rfl,?_⟩
   unfold gu at ho
   cases hc:ig text.size 1 128&&aZ (da s text lv,s.cg,text.size,qJ text,lv) with
   |true=>
    simp only [ZA9] at hc
    have:=cC.1 hc.1
    omega
   |false=>rw [hc] at ho;cases ho
theorem AS {s:ay}{text:ByteArray}{lv:Int}(h:s.wf):(bd s text lv).1.wf:=by
 rcases jI s text lv with ⟨_,e⟩ |⟨k,_,e,hs⟩
 ·rw [e];exact h
 ·rw [e]
  exact⟨⟨by show (List.set _ _ _).length=64;rw [ZC3];exact h.n.1,by show (List.set _ _ _).length=64;rw [ZC3];exact h.n.2.1,by show (List.set _ _ _).length=64;rw [ZC3];exact h.n.2.2⟩,UU h.sz (by omega)⟩
theorem PJ {s:ay}{l:List Pt}{lv:Int}{o:Pt}(h:s.wf):(dZ s l lv o).1.wf:=by
 unfold dZ
 cases nR l with
 |true=>exact h
 |false=>
  cases fC s l o with
  |true=>exact h
  |false=>exact AS h
theorem abW {s:ay}{l:List Pt}{lv:Int}{o:Pt}(h:(dZ s l lv o).2.2=false):(dZ s l lv o).1=s:=by
 unfold dZ at h ⊢
 cases hn:nR l with
 |true=>rw [hn] at h;cases h
 |false=>
  rw [hn,cond_false] at h
  show (bif fC s l o then (s,o,true) else bd s (bE l).1 lv).1=s
  cases hk:fC s l o with
  |true=>rw [hk] at h;cases h
  |false=>
   rw [hk,cond_false] at h
   show (bd s (bE l).1 lv).1=s
   rcases jI s (bE l).1 lv with ⟨_,e⟩ |⟨k,e,_⟩
   ·exact e
   ·rw [e] at h;cases h
theorem C2 (s:ay) (l:List Pt) (lv:Int) (o:Pt):(dZ s l lv o).1.gone=s.gone∧(dZ s l lv o).1.dead=s.dead∧(dZ s l lv o).1.cg=s.cg∧(dZ s l lv o).1.bZ=s.bZ∧(dZ s l lv o).1.same=s.same:=by
 unfold dZ
 cases nR l with
 |true=>exact⟨rfl,rfl,rfl,rfl,rfl⟩
 |false=>
  cases fC s l o with
  |true=>exact⟨rfl,rfl,rfl,rfl,rfl⟩
  |false=>
   show (bd s (bE l).1 lv).1.gone=_∧_
   rcases jI s (bE l).1 lv with ⟨_,e⟩ |⟨k,_,e,_⟩
   ·rw [cond_false,cond_false,e];exact⟨rfl,rfl,rfl,rfl,rfl⟩
   ·rw [cond_false,cond_false,e];exact⟨rfl,rfl,rfl,rfl,rfl⟩
theorem ql {s:ay}{p:Pt}(h:s.wf):(cM s p).wf:=by
 unfold cM
 cases au p with
 |true=>exact h
 |false=>
  cases decide (p.2.1≤s.bZ) with
  |true=>exact⟨h.n,h.sz⟩
  |false=>
   cases decide (p.2.1<s.cg) with
   |true=>exact⟨h.n,h.sz⟩
   |false=>
    show (gd s p.1.toNat).wf
    have hl:=wZ s p.1.toNat
    refine⟨⟨hl.1.trans h.n.1,hl.2.1.trans h.n.2.1,hl.2.2.trans h.n.2.2⟩,?_⟩
    show∀x∈(bif uy s p.1.toNat then s.rows.set p.1.toNat ByteArray.empty else s.rows),_
    cases uy s p.1.toNat with
    |true=>exact UU h.sz (ZA7 _)
    |false=>exact h.sz
theorem pb (s:ay) (p:Pt):(cM s p).gone.length≤s.gone.length+1∧(cM s p).dead.length≤s.dead.length+1:=by
 unfold cM
 cases au p with
 |true=>exact⟨Nat.le_succ _,Nat.le_succ _⟩
 |false=>
  cases decide (p.2.1≤s.bZ) with
  |true=>exact⟨Nat.le_succ _,by show (s.dead++[p]).length≤_;rw [ZA0];exact ZB5 _⟩
  |false=>
   cases decide (p.2.1<s.cg) with
   |true=>exact⟨by show (s.gone++[p]).length≤_;rw [ZA0];exact ZB5 _,Nat.le_succ _⟩
   |false=>exact⟨Nat.le_succ _,Nat.le_succ _⟩
theorem Y0 {s:ay}{t:bf}{d lv:Int}(h:t.rd):∀q∈dK s t d lv,aZ q=true:=by
 unfold dK
 cases decide (t.depth≠d) with
 |true=>exact wQ 4
 |false=>
  cases decide (lv=d) with
  |true=>
   intro q hq
   simp only [cond_false,cond_true,ZB8,ZF6,or_false] at hq
   subst hq;exact h.ok
  |false=>
   cases !(bg s t.root d).2 with
   |true=>exact wQ 4
   |false=>exact sL s t.root d
theorem ac8 (s:ay) (t:bf) (d lv:Int):1≤(dK s t d lv).length∧(lv≠d→(dK s t d lv).length=4)∧(dK s t d lv).length≤4:=by
 unfold dK
 cases decide (t.depth≠d) with
 |true=>exact⟨by show 1≤4;omega,fun _=>rfl,ZB5 _⟩
 |false=>
  cases hd:decide (lv=d) with
  |true=>exact⟨ZB5 _,fun h=>absurd (aJ hd) h,by show 1≤4;omega⟩
  |false=>
   cases hb: !(bg s t.root d).2 with
   |true=>exact⟨by show 1≤4;omega,fun _=>rfl,ZB5 _⟩
   |false=>
    have:=(iE s t.root d).2 (cL hb)
    show 1≤(bg s t.root d).1.length∧(_→(bg s t.root d).1.length=4)∧(bg s t.root d).1.length≤4
    omega
theorem MF {s:ay}{t:bf}(h:t.rd):∀q∈bw s t,aZ q=true:=by
 unfold bw
 cases decide (t.depth=0)||au t.root with
 |true=>intro q hq;cases hq
 |false=>
  cases decide (t.depth=2) with
  |true=>
   intro q hq
   rcases ZB8.1 hq with hq |hq
   ·rw [hq];exact h.ok
   ·exact sL s t.root 2 q (ZF4.1 hq).1
  |false=>
   intro q hq
   simp only [cond_false,ZB8,ZF6,or_false] at hq
   subst hq;exact h.ok
theorem IL (s:ay) (t:bf):(bw s t).length≤5:=by
 unfold bw
 cases decide (t.depth=0)||au t.root with
 |true=>exact ZA7 _
 |false=>
  cases decide (t.depth=2) with
  |true=>
   have h1:=(iE s t.root 2).1
   have h2:=List.length_filter_le (fun p=> !(au p)) (bg s t.root 2).1
   show (t.root::(bg s t.root 2).1.filter (fun p=> !(au p))).length≤5
   rw [ZA1];omega
  |false=>show 1≤5;omega
end GL
end Go.Proofs.YtclcgjhhehbdeaaGreatDoor
