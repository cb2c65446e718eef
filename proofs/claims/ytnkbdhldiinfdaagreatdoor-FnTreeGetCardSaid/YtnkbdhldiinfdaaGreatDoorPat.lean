/- A drawn law returns true for every code (its row lists package variables, tied by the card): part 20. -/
import Derived.Test.YtnkbdhldiinfdaaGreatDoorPas
set_option maxHeartbeats 20000000
set_option maxRecDepth 100000
set_option linter.all false
namespace Go.Proofs.YtnkbdhldiinfdaaGreatDoor
namespace GL
theorem T4:∀{l:List Pt}{i:Nat}{out o:ByteArray}{sm m:Bool},gX l i out sm=some (o,m)→o.size≤out.size+65*l.length
 |[],i,out,o,sm,m,h=>by cases h;exact ZB5 _
 |p::l,i,out,o,sm,m,h=>by
  unfold gX at h
  cases hb:aZ p with
  |true=>
   rw [hb,cond_true] at h
   have h1:=T4 h
   have h2:=gu p
   rw [ZB2] at h1
   rw [ZA1]
   cases hd:decide ((i:Int)>0) with
   |true=>rw [hd,cond_true,ZB2,sz1] at h1;omega
   |false=>rw [hd,cond_false] at h1;omega
  |false=>rw [hb] at h;cases h
theorem XM (l:List Pt):(bE l).1.size≤1000:=by
 unfold bE
 cases hc:decide ((l.length:Int)≠4) with
 |true=>exact ZA7 _
 |false=>
  have h4:=aA hc
  show (rk l).1.size≤1000
  unfold rk
  cases hf:gX l 0 ⟨#[]⟩ false with
  |none=>exact ZA7 _
  |some r=>
   obtain⟨o,sm⟩:=r
   have h1:=T4 hf
   rw [sz0] at h1
   show (rl o sm).1.size≤1000
   unfold rl
   cases !sm with
   |true=>exact ZA7 _
   |false=>show o.size≤1000;omega
def fD (s:ay) (l:List Pt) (old:Pt):Bool:= !(au old)&&(iX old (bE l).1&&decide (nth ab s.rows old.1.toNat=(bE l).1))
def ee (s:ay) (l:List Pt) (lv:Int) (old:Pt):ay×Pt×Bool:=
 bif nV l then (s,bM,true) else bif fD s l old then (s,old,true) else bd s (bE l).1 lv
theorem JG {s:ay}{l:List Pt}{lv:Int}{old:Pt}(h:nV l=true):ee s l lv old=(s,bM,true):=by unfold ee;rw [h];rfl
theorem JF {s:ay}{l:List Pt}{lv:Int}{old:Pt}(h:nV l=false) (h2:fD s l old=true):ee s l lv old=(s,old,true):=by unfold ee;rw [h,h2];rfl
theorem tS {s:ay}{l:List Pt}{lv:Int}{old:Pt}(h:nV l=false) (h2:fD s l old=false):ee s l lv old=bd s (bE l).1 lv:=by unfold ee;rw [h,h2];rfl
theorem M3 {s:ay}{l:List Pt}{old:Pt}(h1:(!(au old))=true) (h2:iX old (bE l).1=true) (h3:decide (nth ab s.rows old.1.toNat=(bE l).1)=true):fD s l old=true:=by unfold fD;rw [h1,h2,h3];rfl
theorem M6 {s:ay}{l:List Pt}{old:Pt}(h1:(!(au old))=false):fD s l old=false:=by unfold fD;rw [h1];rfl
theorem M5 {s:ay}{l:List Pt}{old:Pt}(h2:iX old (bE l).1=false):fD s l old=false:=by unfold fD;rw [h2,Bool.false_and,ZD7]
theorem M4 {s:ay}{l:List Pt}{old:Pt}(h3:decide (nth ab s.rows old.1.toNat=(bE l).1)=false):fD s l old=false:=by unfold fD;rw [h3,ZD7,ZD7]
structure ay.akH (s:ay):Prop where
 ok:s.n64
def k6 (S:ay) (l:List Pt) (lv:Int) (o:Pt):Prop:=S.akH∧l.length≤1000000∧0≤o.1∧o.1<64
def gS (S:ay) (l:List Pt) (lv:Int) (o:Pt):AV:=.t [.a (kW 0 1 2 3 4 (ee S l lv o).1),ptA (ee S l lv o).2.1,.s (.q (ee S l lv o).2.2)]
def jq (S:ay) (l:List Pt) (lv:Int) (o:Pt):List AV:=GF (ee S l lv o).1
def j4:cn where
 A:=[.a (stB 0 1 2 3 4),.s (.vz ae),.s .int,.a [.int,.int,.int,.int,.int]]
 B:=[.r ab,.r ag,.r ag,.r ae,.r ae]
 pre:=fun x b=>stW x.1 b∧k6 (gP x.1 b) (x.2.1) (x.2.2.1) (x.2.2.2)
 r:=fun x b _=>gS (gP x.1 b) (x.2.1) (x.2.2.1) (x.2.2.2)
 o:=fun x b _=>jq (gP x.1 b) (x.2.1) (x.2.2.1) (x.2.2.2)
theorem wQ:Has Tryz.prog 145 j4:=by
 refine Has.fm zT zF zF (l:=[(190,JX),(191,J7),(81,cx),(108,sN),(93,nb)]) ⟨adS,ad3,cz,MJ,CQ,aa⟩ Tryz.func145 ?_
 rintro⟨⟨(AU:Nat),(AT:Nat),(AS:Nat),(ao:Int),(AR:Nat),(aq:Int),(AQ:Nat),(ar:Bool)⟩,(l:List Pt),(lv:Int),⟨(o1:Int),(o2:Int),(o3:Int),(o4:Int),(o5:Int)⟩⟩ ⟨(aj:List ByteArray),(ak:List Int),(an:List Int),(ah:List Pt),(ai:List Pt)⟩ ⟨⟨(gC:AU=List.length aj),(gB:AT=List.length ak),(gA:AS=List.length an),(gz:AR=List.length ah),(gy:AQ=List.length ai)⟩,(hp:k6 (aj,ak,an,ao,ah,aq,ai,ar) l lv (o1,o2,o3,o4,o5))⟩
 subst gC gB gA gz gy
 show vc _ _ _ _ (entry [.a [.xs 0 1 0 aj.length,.xs 1 1 0 ak.length,.xs 2 1 0 an.length,.int ao,.xs 3 5 0 ah.length,.int aq,.xs 4 5 0 ai.length,.q ar],.s (.vz ae l),.int lv,.a [.int o1,.int o2,.int o3,.int o4,.int o5]] [.rs ab aj,.rs ag ak,.rs ag an,.rs ae ah,.rs ae ai]) _
 let g':=(aj,ak,an,ao,ah,aq,ai,ar)
 let A':=(o1,o2,o3,o4,o5)
 obtain⟨⟨⟨l1,l2,l3⟩⟩,h2,(h3:0≤o1),(h4:o1<64)⟩:=hp
 dsimp only [ay.rows,ay.refs,ay.last] at l1 l2 l3
 have dj:=XM l
 refine⟨⟨tv2,?_⟩,fun x1 w2=>⟨fun w3=>?_,fun w4=>⟨⟨tv2,aa⟩,fun x5 w6=>⟨⟨⟨tv6,aa⟩,aa⟩,fun x7 w8=>⟨aa,fun w9=>⟨⟨⟨tv6,tv2⟩,?_⟩,fun x10 kA=>⟨aa,fun dJ=>⟨⟨?_,?_⟩,?_,fun iU=>⟨[.s 4,.b 1004],Sq40,rfl,[.s 7,.b 1007],Sq41,rfl,[.s 8,.s 40,.b 1008],[.b 1008],rfl,[.s 9,.s 41,.b 1009],[.b 1009],rfl,[],Sq10,rfl,?_⟩,fun gO=>⟨⟨⟨tv9,tv3⟩,⟨?_,?_,?_,?_,?_⟩,⟨?_,?_,?_⟩,?_⟩,fun ky kg=>?_⟩⟩,fun xh=>⟨⟨⟨tv9,tv3⟩,⟨?_,?_,?_,?_,?_⟩,⟨?_,?_,?_⟩,?_⟩,fun qH oL=>?_⟩⟩⟩,fun uI=>⟨⟨⟨tv9,tv3⟩,⟨?_,?_,?_,?_,?_⟩,⟨?_,?_,?_⟩,?_⟩,fun x21 A3=>?_⟩⟩⟩⟩⟩⟩
 all_goals first|refine aw ?_|refine ax ?_|exact a8|(dsimp only [JX,tg,J7,ym,sN,nP,nb,nM,gP];omega)|exact a7|(show ((bE l).1.size:Int)≤1000000000000;omega)|exact l1|exact l2|exact l3|exact h2|skip
 ·refine⟨[],[],_,_,_,rfl,az,(),aa,?_,?_,rfl⟩
  ·(show _=gS g' l lv A');unfold gS;first|(rw [JG (s:=g') (l:=l) (lv:=lv) (old:=A') w3];rfl)|rfl
  ·(show _=jq g' l lv A');unfold jq;first|(rw [JG (s:=g') (l:=l) (lv:=lv) (old:=A') w3];rfl)|rfl
 ·refine⟨[],[],_,_,_,rfl,az,(),aa,?_,?_,rfl⟩
  ·(show _=gS g' l lv A');unfold gS;first|(rw [JF (s:=g') (l:=l) (lv:=lv) (old:=A') w4 (M3 (s:=g') (l:=l) (old:=A') w9 dJ iU)];rfl)|rfl
  ·(show _=jq g' l lv A');unfold jq;first|(rw [JF (s:=g') (l:=l) (lv:=lv) (old:=A') w4 (M3 (s:=g') (l:=l) (old:=A') w9 dJ iU)];rfl)|rfl
 ·refine⟨[],[],_,_,_,rfl,az,(),aa,?_,?_,rfl⟩
  ·(show _=gS g' l lv A');unfold gS;first|(rw [tS (s:=g') (l:=l) (lv:=lv) (old:=A') w4 (M4 (s:=g') (l:=l) (old:=A') gO)];rfl)|rfl
  ·(show _=jq g' l lv A');unfold jq;first|(rw [tS (s:=g') (l:=l) (lv:=lv) (old:=A') w4 (M4 (s:=g') (l:=l) (old:=A') gO)];rfl)|rfl
 ·refine⟨[],[],_,_,_,rfl,az,(),aa,?_,?_,rfl⟩
  ·(show _=gS g' l lv A');unfold gS;first|(rw [tS (s:=g') (l:=l) (lv:=lv) (old:=A') w4 (M5 (s:=g') (l:=l) (old:=A') xh)];rfl)|rfl
  ·(show _=jq g' l lv A');unfold jq;first|(rw [tS (s:=g') (l:=l) (lv:=lv) (old:=A') w4 (M5 (s:=g') (l:=l) (old:=A') xh)];rfl)|rfl
 ·refine⟨[],[],_,_,_,rfl,az,(),aa,?_,?_,rfl⟩
  ·(show _=gS g' l lv A');unfold gS;first|(rw [tS (s:=g') (l:=l) (lv:=lv) (old:=A') w4 (M6 (s:=g') (l:=l) (old:=A') uI)];rfl)|rfl
  ·(show _=jq g' l lv A');unfold jq;first|(rw [tS (s:=g') (l:=l) (lv:=lv) (old:=A') w4 (M6 (s:=g') (l:=l) (old:=A') uI)];rfl)|rfl
def bw (s:ay) (t:bf):List Pt:=
 bif decide (t.depth=0)||au t.root then [] else
 bif decide (t.depth=2) then t.root::(bg s t.root 2).1.filter (fun p=> !(au p)) else [t.root]
theorem IV {s:ay}{t:bf}(h:decide (t.depth=0)=true):bw s t=[]:=by unfold bw;rw [h];rfl
theorem zQ {s:ay}{t:bf}(h:au t.root=true):bw s t=[]:=by unfold bw;rw [h,ZC4];rfl
theorem zP {s:ay}{t:bf}(h:decide (t.depth=0)=false) (h2:au t.root=false) (h3:decide (t.depth=2)=false):bw s t=[t.root]:=by unfold bw;rw [h,h2,h3];rfl
theorem IU {s:ay}{t:bf}(h:decide (t.depth=0)=false) (h2:au t.root=false) (h3:decide (t.depth=2)=true):bw s t=t.root::(bg s t.root 2).1.filter (fun p=> !(au p)):=by unfold bw;rw [h,h2,h3];rfl
theorem aex {l:List Pt}{f:Pt→Bool}{i:Nat}(hi:i<l.length) (h:f (nth ae l i)=true):(l.take (i+1)).filter f=(l.take i).filter f++[nth ae l i]:=by
 rw [GB hi,List.filter_append,List.filter_cons,h];rfl
theorem aey {l:List Pt}{f:Pt→Bool}{i:Nat}(hi:i<l.length) (h:f (nth ae l i)=false):(l.take (i+1)).filter f=(l.take i).filter f:=by
 rw [GB hi,List.filter_append,List.filter_cons,h];simp
def ig (S:ay) (t:bf):Prop:=S.rd
def gq (S:ay) (t:bf):AV:=.s (.xs 0 5 0 (bw S t).length)
def iw (S:ay) (t:bf):List AV:=[.rs ae (bw S t)]
def fO:cn where
 A:=[.a xv,.a [.int,.int,.int,.int,.int,.int,.int]]
 B:=[]
 pre:=fun x b=>ig (x.1) (x.2)
 r:=fun x b _=>gq (x.1) (x.2)
 o:=fun x b _=>iw (x.1) (x.2)
 nf:=1
theorem pd:Has Tryz.prog 143 fO:=by
 refine Has.fm zT zF zF (l:=[(81,cx),(154,ef)]) ⟨cz,lk,aa⟩ Tryz.func143 ?_
 rintro⟨⟨(aj:List ByteArray),(ak:List Int),(an:List Int),(ao:Int),(ah:List Pt),(aq:Int),(ai:List Pt),(ar:Bool)⟩,⟨(t1:Int),(t2:Int),(t3:Int),(t4:Int),(t5:Int),(t6:Int),(t7:Int)⟩⟩ _ (hp:ig (aj,ak,an,ao,ah,aq,ai,ar) (t1,t2,t3,t4,t5,t6,t7))
 show vc _ _ _ _ (entry [.a [.vz ab aj,.vz ag ak,.vz ag an,.int ao,.vz ae ah,.int aq,.vz ae ai,.q ar],.a [.int t1,.int t2,.int t3,.int t4,.int t5,.int t6,.int t7]] []) _
 let g':=(aj,ak,an,ao,ah,aq,ai,ar)
 let A':=(t1,t2,t3,t4,t5,t6,t7)
 let B':=(t1,t2,t3,t4,t5)
 have dF:ay.rd g':=hp
 refine⟨aa,aa,fun w1=>?_,fun w2=>⟨⟨⟨tv6,aa⟩,aa⟩,fun x3 w4=>⟨fun w5=>?_,fun w6=>⟨aa,⟨⟨?_,?_⟩,?_,?_⟩,fun w7=>⟨⟨⟨tv9,tv6,tv2⟩,?_⟩,fun x8 w9=>?_⟩,fun dy=>?_⟩⟩⟩⟩
 all_goals first|refine aw ?_|refine ax ?_|exact a8|(dsimp only [ef,fF];omega)|exact a7|exact dF|skip
 ·refine⟨[1009],[],_,_,_,rfl,az,(),aa,?_,?_,rfl⟩
  ·(show _=gq g' A');unfold gq;first|(rw [IV (s:=g') (t:=A') w1];rfl)|rfl
  ·(show _=iw g' A');unfold iw;first|(rw [IV (s:=g') (t:=A') w1];rfl)|rfl
 ·refine⟨[1009],[],_,_,_,rfl,az,(),aa,?_,?_,rfl⟩
  ·(show _=gq g' A');unfold gq;first|(rw [zQ (s:=g') (t:=A') w5];rfl)|rfl
  ·(show _=iw g' A');unfold iw;first|(rw [zQ (s:=g') (t:=A') w5];rfl)|rfl
 ·have hB:=(iG g' B' 2).1
  have hM:=IU (s:=g') (t:=A') w2 w6 w7
  refine cN (l:=[(81,cx),(154,ef)]) (ex:=zT) (wr:=zF) (pt:=zF) ⟨cz,lk,aa⟩ [.s 6,.b 320000] (fun y:Nat×List Pt=>[(.s 5,.s (.xs 1023 5 0 y.2.length)),(.s 8,.int y.1),(.b 1023,.rs ae y.2)]) (fun y=>y.1≤(bg g' B' 2).1.length∧y.2.length≤y.1+1∧y.2=B'::((bg g' B' 2).1.take y.1).filter (fun p=> !(au p))) (fun y=>(bg g' B' 2).1.length-y.1) (0,[B']) [] ⟨ZA7 _,ZB5 _,rfl⟩ dM ?_
  rintro⟨i,out⟩ ⟨(hi:i≤(bg g' B' 2).1.length),(hlo:out.length≤i+1),(he:out=B'::((bg g' B' 2).1.take i).filter (fun p=> !(au p)))⟩
  have cm:decide ((i:Int)<((bg g' B' 2).1.length:Int))=true→i<(bg g' B' 2).1.length:=fun h=>by have:=aJ h;omega
  refine⟨fun w1=>⟨⟨?_,?_⟩,?_,⟨⟨tv6,aa⟩,aa⟩,fun x2 w3=>⟨fun w4=>⟨⟨?_,?_⟩,?_,aa,⟨⟨?_,?_⟩,?_,?_⟩,⟨?_,?_⟩,?_⟩,fun w5=>⟨⟨?_,?_⟩,?_⟩⟩⟩,fun w6=>?_⟩
  all_goals first|refine aw ?_|refine ax ?_|exact a8|(dsimp only [ef,fF];omega)|exact a7|exact cm w1|exact aJ w1|(show out.length+1≤1048576;omega)|skip
  ·refine⟨(i+1,out++[nth ae (bg g' B' 2).1 i]),[(1023,1052)],?_,?_,?_⟩
   rotate_right
   ·exact bV
   ·exact⟨cm w1,by show List.length (_++_)≤_;rw [ZA0];show out.length+1≤i+1+1;omega,by show _=_::_;rw [aex (l:=(bg g' B' 2).1) (cm w1) w4,he];rfl⟩
   ·show (bg g' B' 2).1.length-(i+1)<(bg g' B' 2).1.length-i;have:=cm w1;omega
  ·refine⟨(i+1,out),[],?_,?_,?_⟩
   rotate_right
   ·exact bV
   ·exact⟨cm w1,by show out.length≤i+1+1;omega,by show _=_::_;rw [aey (l:=(bg g' B' 2).1) (cm w1) w5];exact he⟩
   ·show (bg g' B' 2).1.length-(i+1)<(bg g' B' 2).1.length-i;have:=cm w1;omega
  ·have FL:¬i<(bg g' B' 2).1.length:=by have:=aA (p:=(i:Int)<((bg g' B' 2).1.length:Int)) w6;omega
   have e:bw g' A'=out:=by rw [hM,he,ZD1 (by omega)]
   refine⟨[1023],[],_,_,_,rfl,az,(),aa,?_,?_,rfl⟩
   ·(show _=gq g' A');unfold gq;first|(rw [e];rfl)|rfl
   ·(show _=iw g' A');unfold iw;first|(rw [e];rfl)|rfl
 ·refine⟨[1023],[],_,_,_,rfl,az,(),aa,?_,?_,rfl⟩
  ·(show _=gq g' A');unfold gq;first|(rw [zP (s:=g') (t:=A') w2 w6 dy];rfl)|rfl
  ·(show _=iw g' A');unfold iw;first|(rw [zP (s:=g') (t:=A') w2 w6 dy];rfl)|rfl
def dL (s:ay) (t:bf) (d lv:Int):List Pt:=
 bif decide (t.depth≠d) then cu 4 else bif decide (lv=d) then [t.root] else bif !(bg s t.root d).2 then cu 4 else (bg s t.root d).1
theorem CA {s:ay}{t:bf}{d lv:Int}(h:decide (t.depth≠d)=true):dL s t d lv=cu 4:=by unfold dL;rw [h];rfl
theorem HN {s:ay}{t:bf}{d lv:Int}(h:decide (t.depth≠d)=false) (h2:decide (lv=d)=true):dL s t d lv=[t.root]:=by unfold dL;rw [h,h2];rfl
theorem OV {s:ay}{t:bf}{d lv:Int}(h:decide (t.depth≠d)=false) (h2:decide (lv=d)=false) (h3:(!(bg s t.root d).2)=true):dL s t d lv=cu 4:=by unfold dL;rw [h,h2,h3];rfl
theorem HM {s:ay}{t:bf}{d lv:Int}(h:decide (t.depth≠d)=false) (h2:decide (lv=d)=false) (h3:(!(bg s t.root d).2)=false):dL s t d lv=(bg s t.root d).1:=by unfold dL;rw [h,h2,h3];rfl
def kX (S:ay) (t:bf) (d:Int) (lv:Int):Prop:=S.rd
def jN (S:ay) (t:bf) (d:Int) (lv:Int):AV:=.s (.xs 0 5 0 (dL S t d lv).length)
def lT (S:ay) (t:bf) (d:Int) (lv:Int):List AV:=[.rs ae (dL S t d lv)]
def j0:cn where
 A:=[.a xv,.a [.int,.int,.int,.int,.int,.int,.int],.s .int,.s .int]
 B:=[]
 pre:=fun x b=>kX (x.1) (x.2.1) (x.2.2.1) (x.2.2.2)
 r:=fun x b _=>jN (x.1) (x.2.1) (x.2.2.1) (x.2.2.2)
 o:=fun x b _=>lT (x.1) (x.2.1) (x.2.2.1) (x.2.2.2)
 nf:=1
theorem wN:Has Tryz.prog 144 j0:=by
 refine Has.fm zT zF zF (l:=[(107,j3),(154,ef)]) ⟨wP,lk,aa⟩ Tryz.func144 ?_
 rintro⟨⟨(aj:List ByteArray),(ak:List Int),(an:List Int),(ao:Int),(ah:List Pt),(aq:Int),(ai:List Pt),(ar:Bool)⟩,⟨(t1:Int),(t2:Int),(t3:Int),(t4:Int),(t5:Int),(t6:Int),(t7:Int)⟩,(d:Int),(lv:Int)⟩ _ (hp:kX (aj,ak,an,ao,ah,aq,ai,ar) (t1,t2,t3,t4,t5,t6,t7) d lv)
 show vc _ _ _ _ (entry [.a [.vz ab aj,.vz ag ak,.vz ag an,.int ao,.vz ae ah,.int aq,.vz ae ai,.q ar],.a [.int t1,.int t2,.int t3,.int t4,.int t5,.int t6,.int t7],.int d,.int lv] []) _
 let g':=(aj,ak,an,ao,ah,aq,ai,ar)
 let A':=(t1,t2,t3,t4,t5,t6,t7)
 have dF:ay.rd g':=hp
 refine⟨fun w1=>⟨⟨tv2,?_,?_⟩,fun x2 w3=>?_⟩,fun w4=>⟨fun w5=>⟨aa,?_⟩,fun w6=>⟨⟨⟨tv9,tv6,tv2⟩,?_⟩,fun x7 w8=>⟨fun w9=>⟨⟨tv2,?_,?_⟩,fun x10 kA=>?_⟩,fun dJ=>?_⟩⟩⟩⟩
 all_goals first|refine aw ?_|refine ax ?_|exact a8|(dsimp only [j3,kZ,ef,fF];omega)|exact a7|exact dF|skip
 ·refine⟨[160000],[],_,_,_,rfl,az,(),aa,?_,?_,rfl⟩
  ·(show _=jN g' A' d lv);unfold jN;first|(rw [CA (s:=g') (t:=A') (d:=d) (lv:=lv) w1];rfl)|rfl
  ·(show _=lT g' A' d lv);unfold lT;first|(rw [CA (s:=g') (t:=A') (d:=d) (lv:=lv) w1];rfl)|rfl
 ·refine⟨[1021],[],_,_,_,rfl,az,(),aa,?_,?_,rfl⟩
  ·(show _=jN g' A' d lv);unfold jN;first|(rw [HN (s:=g') (t:=A') (d:=d) (lv:=lv) w4 w5];rfl)|rfl
  ·(show _=lT g' A' d lv);unfold lT;first|(rw [HN (s:=g') (t:=A') (d:=d) (lv:=lv) w4 w5];rfl)|rfl
 ·trace_state
  refine⟨[330000],[],_,_,_,rfl,az,(),aa,?_,?_,rfl⟩
  ·(show _=jN g' A' d lv);unfold jN;first|(rw [OV (s:=g') (t:=A') (d:=d) (lv:=lv) w4 w6 w9];rfl)|rfl
  ·(show _=lT g' A' d lv);unfold lT;first|(rw [OV (s:=g') (t:=A') (d:=d) (lv:=lv) w4 w6 w9];rfl)|rfl
 ·refine⟨[280000],[],_,_,_,rfl,az,(),aa,?_,?_,rfl⟩
  ·(show _=jN g' A' d lv);unfold jN;first|(rw [HM (s:=g') (t:=A') (d:=d) (lv:=lv) w4 w6 dJ];rfl)|rfl
  ·(show _=lT g' A' d lv);unfold lT;first|(rw [HM (s:=g') (t:=A') (d:=d) (lv:=lv) w4 w6 dJ];rfl)|rfl
end GL
namespace GL
def ptrEq (p q:Pt):Bool:=decide (p.1=q.1)&&(decide (p.2.1=q.2.1)&&(decide (p.2.2.1=q.2.2.1)&&(decide (p.2.2.2.1=q.2.2.2.1)&&decide (p.2.2.2.2=q.2.2.2.2))))
theorem sb {p q:Pt}:ptrEq p q=true↔p=q:=by
 unfold ptrEq
 simp only [ZA9,decide_eq_true_eq]
 constructor
 ·rintro⟨h1,h2,h3,h4,h5⟩
  obtain⟨a,b,c,d,e⟩:=p
  obtain⟨a',b',c',d',e'⟩:=q
  simp only at h1 h2 h3 h4 h5
  subst h1 h2 h3 h4 h5;rfl
 ·rintro rfl;exact⟨rfl,rfl,rfl,rfl,rfl⟩
def B6:Nat→List Pt→List Pt
 |0,l=>l
 |f+1,l=>bif decide ((l.length:Int) % 4≠0) then B6 f (l++[bM]) else l
def eK (l:List Pt):List Pt:=B6 4 l
theorem acX {f:Nat}{l:List Pt}(h:decide ((l.length:Int) % 4≠0)=true):B6 (f+1) l=B6 f (l++[bM]):=by rw [B6,h];rfl
theorem acY {f:Nat}{l:List Pt}(h:decide ((l.length:Int) % 4≠0)=false):B6 f l=l:=by
 cases f with
 |zero=>rfl
 |succ f=>rw [B6,h];rfl
theorem RV:∀(f:Nat) (l:List Pt),4≤f+(l.length % 4)∨l.length % 4=0→(B6 f l).length=(l.length+3) / 4*4
 |0,l,h=>by show l.length=_;omega
 |f+1,l,h=>by
  unfold B6
  cases hd:decide ((l.length:Int) % 4≠0) with
  |true=>
   have:=aJ hd
   rw [cond_true,RV f _ (by rw [ZA0];show 4≤f+(l.length+1) % 4∨(l.length+1) % 4=0;omega),ZA0]
   show (l.length+1+3) / 4*4=_;omega
  |false=>
   have:=aA hd
   rw [cond_false];omega
theorem HF (l:List Pt):(eK l).length=(l.length+3) / 4*4:=RV 4 l (by omega)
def qO (l:List Pt) (i:Nat):List Pt:=(l.drop (0+((i:Int)*4).toNat)).take ((((i:Int)+1)*4).toNat-((i:Int)*4).toNat)
def fI:Nat→ay→Int→List Pt→List Pt→Nat→List Pt→List Pt→ay×Option (List Pt×List Pt)
 |0,s,_,_,_,_,next,stays=>(s,some (next,stays))
 |f+1,s,lv,ka,l,i,next,stays=>
  bif decide ((i:Int)*4<l.length) then
   (bif !(ee s (qO l i) lv (nth ae ka i)).2.2 then ((ee s (qO l i) lv (nth ae ka i)).1,none) else
    fI f (ee s (qO l i) lv (nth ae ka i)).1 lv ka l (i+1) (next++[(ee s (qO l i) lv (nth ae ka i)).2.1])
     (bif ptrEq (ee s (qO l i) lv (nth ae ka i)).2.1 (nth ae ka i) then stays++[(ee s (qO l i) lv (nth ae ka i)).2.1] else stays))
  else (s,some (next,stays))
def mm:Nat→ay→bf→Int→Int→List Pt→List Pt→ay×Option (List Pt×List Pt)
 |0,s,_,_,_,l,stays=>(s,some (l,stays))
 |f+1,s,t,d,lv,l,stays=>bif decide (lv≤d) then
   (match fI 5 s lv (dL s t d lv) (eK l) 0 [] stays with
    |(s',none)=>(s',none)
    |(s',some (n,st))=>mm f s' t d (lv+1) n st)
  else (s,some (l,stays))
def gW (stays:List Pt) (o:Pt):Bool:=stays.any fun q=>ptrEq q o
def dX:List Pt→List Pt→ay→ay
 |[],_,s=>s
 |o::l,stays,s=>dX l stays (bif gW stays o then s else cM s o)
def rootOf (l:List Pt):Pt:=bif decide ((l.length:Int)>0) then nth ae l 0 else bM
def LY (p:Pt) (d many:Int):bf:=(p.1,p.2.1,p.2.2.1,p.2.2.2.1,p.2.2.2.2,d,many)
def ny:bf:=(0,0,0,0,0,0,0)
def akK (s0:ay) (t:bf) (many:Int):ay×Option (List Pt×List Pt)→ay×bf×Bool
 |(s',none)=>(s',ny,false)
 |(s',some (l,stays))=>(dX (bw s0 t) stays s',LY (rootOf l) (bj many) many,true)
def bQ (s:ay) (t:bf) (leaves:List Pt) (many:Int):ay×bf×Bool:=akK s t many (mm 3 s t (bj many) 1 (leaves.take many.toNat) [])
def trA (t:bf):A0:=.a [.int t.1,.int t.2.1,.int t.2.2.1,.int t.2.2.2.1,.int t.2.2.2.2.1,.int t.2.2.2.2.2.1,.int t.2.2.2.2.2.2]
structure ay.wf (s:ay):Prop where
 n:s.n64
 sz:∀x∈s.rows,x.size≤1000000
theorem ay.wf.rd {s:ay}(h:s.wf):s.rd:=⟨h.n.1,h.sz⟩
theorem U2 {l:List ByteArray}{k:Nat}{x:ByteArray}(h:∀y∈l,y.size≤1000000) (hx:x.size≤1000000):∀y∈l.set k x,y.size≤1000000:=by
 intro y hy
 rcases List.mem_or_eq_of_mem_set hy with h1 |h1
 ·exact h y h1
 ·rw [h1];exact hx
theorem jL (s:ay) (text:ByteArray) (lv:Int):(bd s text lv).2.2=false∧(bd s text lv).1=s∨∃k:Nat,(bd s text lv).2.2=true∧(bd s text lv).1=uO s text k∧text.size≤128:=by
 unfold bd
 cases hd:decide (da s text lv<0) with
 |true=>exact .inl ⟨rfl,rfl⟩
 |false=>
  cases ho:(gv (da s text lv) s.cg lv text).2 with
  |false=>exact .inl ⟨rfl,rfl⟩
  |true=>
   refine .inr ⟨(da s text lv).toNat,rfl,rfl,?_⟩
   unfold gv at ho
   cases hc:ik text.size 1 128&&aZ (da s text lv,s.cg,text.size,qN text,lv) with
   |true=>
    simp only [ZA9] at hc
    have:=cC.1 hc.1
    omega
   |false=>rw [hc] at ho;cases ho
theorem AY {s:ay}{text:ByteArray}{lv:Int}(h:s.wf):(bd s text lv).1.wf:=by
 rcases jL s text lv with ⟨_,e⟩ |⟨k,_,e,hs⟩
 ·rw [e];exact h
 ·rw [e]
  exact⟨⟨by show (List.set _ _ _).length=64;rw [ZC3];exact h.n.1,by show (List.set _ _ _).length=64;rw [ZC3];exact h.n.2.1,by show (List.set _ _ _).length=64;rw [ZC3];exact h.n.2.2⟩,U2 h.sz (by omega)⟩
theorem PQ {s:ay}{l:List Pt}{lv:Int}{o:Pt}(h:s.wf):(ee s l lv o).1.wf:=by
 unfold ee
 cases nV l with
 |true=>exact h
 |false=>
  cases fD s l o with
  |true=>exact h
  |false=>exact AY h
theorem ab3 {s:ay}{l:List Pt}{lv:Int}{o:Pt}(h:(ee s l lv o).2.2=false):(ee s l lv o).1=s:=by
 unfold ee at h ⊢
 cases hn:nV l with
 |true=>rw [hn] at h;cases h
 |false=>
  rw [hn,cond_false] at h
  show (bif fD s l o then (s,o,true) else bd s (bE l).1 lv).1=s
  cases hk:fD s l o with
  |true=>rw [hk] at h;cases h
  |false=>
   rw [hk,cond_false] at h
   show (bd s (bE l).1 lv).1=s
   rcases jL s (bE l).1 lv with ⟨_,e⟩ |⟨k,e,_⟩
   ·exact e
   ·rw [e] at h;cases h
theorem C6 (s:ay) (l:List Pt) (lv:Int) (o:Pt):(ee s l lv o).1.gone=s.gone∧(ee s l lv o).1.dead=s.dead∧(ee s l lv o).1.cg=s.cg∧(ee s l lv o).1.bZ=s.bZ∧(ee s l lv o).1.same=s.same:=by
 unfold ee
 cases nV l with
 |true=>exact⟨rfl,rfl,rfl,rfl,rfl⟩
 |false=>
  cases fD s l o with
  |true=>exact⟨rfl,rfl,rfl,rfl,rfl⟩
  |false=>
   show (bd s (bE l).1 lv).1.gone=_∧_
   rcases jL s (bE l).1 lv with ⟨_,e⟩ |⟨k,_,e,_⟩
   ·rw [cond_false,cond_false,e];exact⟨rfl,rfl,rfl,rfl,rfl⟩
   ·rw [cond_false,cond_false,e];exact⟨rfl,rfl,rfl,rfl,rfl⟩
theorem qq {s:ay}{p:Pt}(h:s.wf):(cM s p).wf:=by
 unfold cM
 cases au p with
 |true=>exact h
 |false=>
  cases decide (p.2.1≤s.bZ) with
  |true=>exact⟨h.n,h.sz⟩
  |false=>
   cases decide (p.2.1<s.cg) with
   |true=>exact⟨h.n,h.sz⟩
   |false=>
    show (gf s p.1.toNat).wf
    have hl:=xd s p.1.toNat
    refine⟨⟨hl.1.trans h.n.1,hl.2.1.trans h.n.2.1,hl.2.2.trans h.n.2.2⟩,?_⟩
    show∀x∈(bif uC s p.1.toNat then s.rows.set p.1.toNat ByteArray.empty else s.rows),_
    cases uC s p.1.toNat with
    |true=>exact U2 h.sz (ZA7 _)
    |false=>exact h.sz
theorem pg (s:ay) (p:Pt):(cM s p).gone.length≤s.gone.length+1∧(cM s p).dead.length≤s.dead.length+1:=by
 unfold cM
 cases au p with
 |true=>exact⟨Nat.le_succ _,Nat.le_succ _⟩
 |false=>
  cases decide (p.2.1≤s.bZ) with
  |true=>exact⟨Nat.le_succ _,by show (s.dead++[p]).length≤_;rw [ZA0];exact ZB5 _⟩
  |false=>
   cases decide (p.2.1<s.cg) with
   |true=>exact⟨by show (s.gone++[p]).length≤_;rw [ZA0];exact ZB5 _,Nat.le_succ _⟩
   |false=>exact⟨Nat.le_succ _,Nat.le_succ _⟩
theorem Y7 {s:ay}{t:bf}{d lv:Int}(h:t.rd):∀q∈dL s t d lv,aZ q=true:=by
 unfold dL
 cases decide (t.depth≠d) with
 |true=>exact wU 4
 |false=>
  cases decide (lv=d) with
  |true=>
   intro q hq
   simp only [cond_false,cond_true,ZB8,ZF6,or_false] at hq
   subst hq;exact h.ok
  |false=>
   cases !(bg s t.root d).2 with
   |true=>exact wU 4
   |false=>exact sP s t.root d
theorem adi (s:ay) (t:bf) (d lv:Int):1≤(dL s t d lv).length∧(lv≠d→(dL s t d lv).length=4)∧(dL s t d lv).length≤4:=by
 unfold dL
 cases decide (t.depth≠d) with
 |true=>exact⟨by show 1≤4;omega,fun _=>rfl,ZB5 _⟩
 |false=>
  cases hd:decide (lv=d) with
  |true=>exact⟨ZB5 _,fun h=>absurd (aJ hd) h,by show 1≤4;omega⟩
  |false=>
   cases hb: !(bg s t.root d).2 with
   |true=>exact⟨by show 1≤4;omega,fun _=>rfl,ZB5 _⟩
   |false=>
    have:=(iG s t.root d).2 (cL hb)
    show 1≤(bg s t.root d).1.length∧(_→(bg s t.root d).1.length=4)∧(bg s t.root d).1.length≤4
    omega
theorem ML {s:ay}{t:bf}(h:t.rd):∀q∈bw s t,aZ q=true:=by
 unfold bw
 cases decide (t.depth=0)||au t.root with
 |true=>intro q hq;cases hq
 |false=>
  cases decide (t.depth=2) with
  |true=>
   intro q hq
   rcases ZB8.1 hq with hq |hq
   ·rw [hq];exact h.ok
   ·exact sP s t.root 2 q (ZF4.1 hq).1
  |false=>
   intro q hq
   simp only [cond_false,ZB8,ZF6,or_false] at hq
   subst hq;exact h.ok
theorem IT (s:ay) (t:bf):(bw s t).length≤5:=by
 unfold bw
 cases decide (t.depth=0)||au t.root with
 |true=>exact ZA7 _
 |false=>
  cases decide (t.depth=2) with
  |true=>
   have h1:=(iG s t.root 2).1
   have h2:=List.length_filter_le (fun p=> !(au p)) (bg s t.root 2).1
   show (t.root::(bg s t.root 2).1.filter (fun p=> !(au p))).length≤5
   rw [ZA1];omega
  |false=>show 1≤5;omega
end GL
end Go.Proofs.YtnkbdhldiinfdaaGreatDoor
