/- A drawn law returns true for every code (its row lists package variables, tied by the card): part 20. -/
import Derived.Test.YtkgpljpmdkflmaaGreatDoorPas
set_option maxHeartbeats 20000000
set_option maxRecDepth 100000
set_option linter.all false
namespace Go.Proofs.YtkgpljpmdkflmaaGreatDoor
namespace GL
theorem T1:∀{l:List Pt}{i:Nat}{out o:ByteArray}{sm m:Bool},gZ l i out sm=some (o,m)→o.size≤out.size+65*l.length
 |[],i,out,o,sm,m,h=>by cases h;exact ZB5 _
 |p::l,i,out,o,sm,m,h=>by
  unfold gZ at h
  cases hb:aZ p with
  |true=>
   rw [hb,cond_true] at h
   have h1:=T1 h
   have h2:=gv p
   rw [ZB2] at h1
   rw [ZA1]
   cases hd:decide ((i:Int)>0) with
   |true=>rw [hd,cond_true,ZB2,sz1] at h1;omega
   |false=>rw [hd,cond_false] at h1;omega
  |false=>rw [hb] at h;cases h
theorem XJ (l:List Pt):(bF l).1.size≤1000:=by
 unfold bF
 cases hc:decide ((l.length:Int)≠4) with
 |true=>exact ZA7 _
 |false=>
  have h4:=aA hc
  show (rn l).1.size≤1000
  unfold rn
  cases hf:gZ l 0 ⟨#[]⟩ false with
  |none=>exact ZA7 _
  |some r=>
   obtain⟨o,sm⟩:=r
   have h1:=T1 hf
   rw [sz0] at h1
   show (rq o sm).1.size≤1000
   unfold rq
   cases !sm with
   |true=>exact ZA7 _
   |false=>show o.size≤1000;omega
def fE (s:ay) (l:List Pt) (old:Pt):Bool:= !(au old)&&(iZ old (bF l).1&&decide (nth ab s.rows old.1.toNat=(bF l).1))
def ef (s:ay) (l:List Pt) (lv:Int) (old:Pt):ay×Pt×Bool:=
 bif nY l then (s,bN,true) else bif fE s l old then (s,old,true) else bd s (bF l).1 lv
theorem JF {s:ay}{l:List Pt}{lv:Int}{old:Pt}(h:nY l=true):ef s l lv old=(s,bN,true):=by unfold ef;rw [h];rfl
theorem JE {s:ay}{l:List Pt}{lv:Int}{old:Pt}(h:nY l=false) (h2:fE s l old=true):ef s l lv old=(s,old,true):=by unfold ef;rw [h,h2];rfl
theorem tU {s:ay}{l:List Pt}{lv:Int}{old:Pt}(h:nY l=false) (h2:fE s l old=false):ef s l lv old=bd s (bF l).1 lv:=by unfold ef;rw [h,h2];rfl
theorem M0 {s:ay}{l:List Pt}{old:Pt}(h1:(!(au old))=true) (h2:iZ old (bF l).1=true) (h3:decide (nth ab s.rows old.1.toNat=(bF l).1)=true):fE s l old=true:=by unfold fE;rw [h1,h2,h3];rfl
theorem M4 {s:ay}{l:List Pt}{old:Pt}(h1:(!(au old))=false):fE s l old=false:=by unfold fE;rw [h1];rfl
theorem M3 {s:ay}{l:List Pt}{old:Pt}(h2:iZ old (bF l).1=false):fE s l old=false:=by unfold fE;rw [h2,Bool.false_and,ZD7]
theorem M1 {s:ay}{l:List Pt}{old:Pt}(h3:decide (nth ab s.rows old.1.toNat=(bF l).1)=false):fE s l old=false:=by unfold fE;rw [h3,ZD7,ZD7]
structure ay.akB (s:ay):Prop where
 ok:s.n64
def k9 (S:ay) (l:List Pt) (lv:Int) (o:Pt):Prop:=S.akB∧l.length≤1000000∧0≤o.1∧o.1<64
def gT (S:ay) (l:List Pt) (lv:Int) (o:Pt):AV:=.t [.a (kZ 0 1 2 3 4 (ef S l lv o).1),ptA (ef S l lv o).2.1,.s (.q (ef S l lv o).2.2)]
def js (S:ay) (l:List Pt) (lv:Int) (o:Pt):List AV:=GD (ef S l lv o).1
def j6:ct where
 A:=[.a (stB 0 1 2 3 4),.s (.vz ae),.s .int,.a [.int,.int,.int,.int,.int]]
 B:=[.r ab,.r ag,.r ag,.r ae,.r ae]
 pre:=fun x b=>stW x.1 b∧k9 (gQ x.1 b) (x.2.1) (x.2.2.1) (x.2.2.2)
 r:=fun x b _=>gT (gQ x.1 b) (x.2.1) (x.2.2.1) (x.2.2.2)
 o:=fun x b _=>js (gQ x.1 b) (x.2.1) (x.2.2.1) (x.2.2.2)
theorem wT:Has Tryz.prog 166 j6:=by
 refine Has.fu zT zF zF (l:=[(198,JW),(199,J5),(83,bl),(160,sQ),(120,ni)]) ⟨adO,adZ,cz,MH,CQ,aa⟩ Tryz.func166 ?_
 rintro⟨⟨(AU:Nat),(AT:Nat),(AS:Nat),(ao:Int),(AR:Nat),(aq:Int),(AQ:Nat),(ar:Bool)⟩,(l:List Pt),(lv:Int),⟨(o1:Int),(o2:Int),(o3:Int),(o4:Int),(o5:Int)⟩⟩ ⟨(aj:List ByteArray),(ak:List Int),(an:List Int),(ah:List Pt),(ai:List Pt)⟩ ⟨⟨(gD:AU=List.length aj),(gC:AT=List.length ak),(gB:AS=List.length an),(gA:AR=List.length ah),(gz:AQ=List.length ai)⟩,(hp:k9 (aj,ak,an,ao,ah,aq,ai,ar) l lv (o1,o2,o3,o4,o5))⟩
 subst gD gC gB gA gz
 show vc _ _ _ _ (entry [.a [.xs 0 1 0 aj.length,.xs 1 1 0 ak.length,.xs 2 1 0 an.length,.int ao,.xs 3 5 0 ah.length,.int aq,.xs 4 5 0 ai.length,.q ar],.s (.vz ae l),.int lv,.a [.int o1,.int o2,.int o3,.int o4,.int o5]] [.rs ab aj,.rs ag ak,.rs ag an,.rs ae ah,.rs ae ai]) _
 obtain⟨⟨⟨l1,l2,l3⟩⟩,h2,(h3:0≤o1),(h4:o1<64)⟩:=hp
 dsimp only [ay.rows,ay.refs,ay.last] at l1 l2 l3
 have dj:=XJ l
 refine⟨⟨⟨aa,aa⟩,?_⟩,fun x1 w2=>⟨fun w3=>?_,fun w4=>⟨⟨⟨aa,aa⟩,aa⟩,fun x5 w6=>⟨⟨⟨⟨aa,aa,aa,aa,aa,aa⟩,aa⟩,aa⟩,fun x7 w8=>⟨aa,fun w9=>⟨⟨⟨⟨aa,aa,aa,aa,aa,aa⟩,aa,aa⟩,?_⟩,fun x10 kC=>⟨aa,fun dK=>⟨⟨?_,?_⟩,?_,fun iV=>⟨[.s 4,.b 1004],Sq40,rfl,[.s 7,.b 1007],Sq41,rfl,[.s 8,.s 40,.b 1008],[.b 1008],rfl,[.s 9,.s 41,.b 1009],[.b 1009],rfl,[],Sq10,rfl,?_⟩,fun gP=>⟨⟨⟨⟨aa,aa,aa,aa,aa,aa,aa,aa,aa⟩,aa,aa,aa⟩,⟨?_,?_,?_,?_,?_⟩,⟨?_,?_,?_⟩,?_⟩,fun kA ki=>?_⟩⟩,fun xk=>⟨⟨⟨⟨aa,aa,aa,aa,aa,aa,aa,aa,aa⟩,aa,aa,aa⟩,⟨?_,?_,?_,?_,?_⟩,⟨?_,?_,?_⟩,?_⟩,fun qK oN=>?_⟩⟩⟩,fun uL=>⟨⟨⟨⟨aa,aa,aa,aa,aa,aa,aa,aa,aa⟩,aa,aa,aa⟩,⟨?_,?_,?_,?_,?_⟩,⟨?_,?_,?_⟩,?_⟩,fun x21 A3=>?_⟩⟩⟩⟩⟩⟩
 all_goals first|refine aw ?_|refine ax ?_|exact a8|(dsimp only [JW,ti,J5,yo,sQ,nS,ni,nP,gQ];omega)|exact a7|(show ((bF l).1.size:Int)≤1000000000000;omega)|exact l1|exact l2|exact l3|exact h2|skip
 ·refine⟨[],[],_,_,_,rfl,az,(),aa,?_,?_,rfl⟩
  ·(show _=gT (aj,ak,an,ao,ah,aq,ai,ar) l lv (o1,o2,o3,o4,o5));unfold gT;first|(rw [JF (s:=(aj,ak,an,ao,ah,aq,ai,ar)) (l:=l) (lv:=lv) (old:=(o1,o2,o3,o4,o5)) w3];rfl)|rfl
  ·(show _=js (aj,ak,an,ao,ah,aq,ai,ar) l lv (o1,o2,o3,o4,o5));unfold js;first|(rw [JF (s:=(aj,ak,an,ao,ah,aq,ai,ar)) (l:=l) (lv:=lv) (old:=(o1,o2,o3,o4,o5)) w3];rfl)|rfl
 ·refine⟨[],[],_,_,_,rfl,az,(),aa,?_,?_,rfl⟩
  ·(show _=gT (aj,ak,an,ao,ah,aq,ai,ar) l lv (o1,o2,o3,o4,o5));unfold gT;first|(rw [JE (s:=(aj,ak,an,ao,ah,aq,ai,ar)) (l:=l) (lv:=lv) (old:=(o1,o2,o3,o4,o5)) w4 (M0 (s:=(aj,ak,an,ao,ah,aq,ai,ar)) (l:=l) (old:=(o1,o2,o3,o4,o5)) w9 dK iV)];rfl)|rfl
  ·(show _=js (aj,ak,an,ao,ah,aq,ai,ar) l lv (o1,o2,o3,o4,o5));unfold js;first|(rw [JE (s:=(aj,ak,an,ao,ah,aq,ai,ar)) (l:=l) (lv:=lv) (old:=(o1,o2,o3,o4,o5)) w4 (M0 (s:=(aj,ak,an,ao,ah,aq,ai,ar)) (l:=l) (old:=(o1,o2,o3,o4,o5)) w9 dK iV)];rfl)|rfl
 ·refine⟨[],[],_,_,_,rfl,az,(),aa,?_,?_,rfl⟩
  ·(show _=gT (aj,ak,an,ao,ah,aq,ai,ar) l lv (o1,o2,o3,o4,o5));unfold gT;first|(rw [tU (s:=(aj,ak,an,ao,ah,aq,ai,ar)) (l:=l) (lv:=lv) (old:=(o1,o2,o3,o4,o5)) w4 (M1 (s:=(aj,ak,an,ao,ah,aq,ai,ar)) (l:=l) (old:=(o1,o2,o3,o4,o5)) gP)];rfl)|rfl
  ·(show _=js (aj,ak,an,ao,ah,aq,ai,ar) l lv (o1,o2,o3,o4,o5));unfold js;first|(rw [tU (s:=(aj,ak,an,ao,ah,aq,ai,ar)) (l:=l) (lv:=lv) (old:=(o1,o2,o3,o4,o5)) w4 (M1 (s:=(aj,ak,an,ao,ah,aq,ai,ar)) (l:=l) (old:=(o1,o2,o3,o4,o5)) gP)];rfl)|rfl
 ·refine⟨[],[],_,_,_,rfl,az,(),aa,?_,?_,rfl⟩
  ·(show _=gT (aj,ak,an,ao,ah,aq,ai,ar) l lv (o1,o2,o3,o4,o5));unfold gT;first|(rw [tU (s:=(aj,ak,an,ao,ah,aq,ai,ar)) (l:=l) (lv:=lv) (old:=(o1,o2,o3,o4,o5)) w4 (M3 (s:=(aj,ak,an,ao,ah,aq,ai,ar)) (l:=l) (old:=(o1,o2,o3,o4,o5)) xk)];rfl)|rfl
  ·(show _=js (aj,ak,an,ao,ah,aq,ai,ar) l lv (o1,o2,o3,o4,o5));unfold js;first|(rw [tU (s:=(aj,ak,an,ao,ah,aq,ai,ar)) (l:=l) (lv:=lv) (old:=(o1,o2,o3,o4,o5)) w4 (M3 (s:=(aj,ak,an,ao,ah,aq,ai,ar)) (l:=l) (old:=(o1,o2,o3,o4,o5)) xk)];rfl)|rfl
 ·refine⟨[],[],_,_,_,rfl,az,(),aa,?_,?_,rfl⟩
  ·(show _=gT (aj,ak,an,ao,ah,aq,ai,ar) l lv (o1,o2,o3,o4,o5));unfold gT;first|(rw [tU (s:=(aj,ak,an,ao,ah,aq,ai,ar)) (l:=l) (lv:=lv) (old:=(o1,o2,o3,o4,o5)) w4 (M4 (s:=(aj,ak,an,ao,ah,aq,ai,ar)) (l:=l) (old:=(o1,o2,o3,o4,o5)) uL)];rfl)|rfl
  ·(show _=js (aj,ak,an,ao,ah,aq,ai,ar) l lv (o1,o2,o3,o4,o5));unfold js;first|(rw [tU (s:=(aj,ak,an,ao,ah,aq,ai,ar)) (l:=l) (lv:=lv) (old:=(o1,o2,o3,o4,o5)) w4 (M4 (s:=(aj,ak,an,ao,ah,aq,ai,ar)) (l:=l) (old:=(o1,o2,o3,o4,o5)) uL)];rfl)|rfl
def bz (s:ay) (t:bf):List Pt:=
 bif decide (t.depth=0)||au t.root then [] else
 bif decide (t.depth=2) then t.root::(bg s t.root 2).1.filter (fun p=> !(au p)) else [t.root]
theorem IU {s:ay}{t:bf}(h:decide (t.depth=0)=true):bz s t=[]:=by unfold bz;rw [h];rfl
theorem zR {s:ay}{t:bf}(h:au t.root=true):bz s t=[]:=by unfold bz;rw [h,ZC4];rfl
theorem zQ {s:ay}{t:bf}(h:decide (t.depth=0)=false) (h2:au t.root=false) (h3:decide (t.depth=2)=false):bz s t=[t.root]:=by unfold bz;rw [h,h2,h3];rfl
theorem IT {s:ay}{t:bf}(h:decide (t.depth=0)=false) (h2:au t.root=false) (h3:decide (t.depth=2)=true):bz s t=t.root::(bg s t.root 2).1.filter (fun p=> !(au p)):=by unfold bz;rw [h,h2,h3];rfl
theorem aet {l:List Pt}{f:Pt→Bool}{i:Nat}(hi:i<l.length) (h:f (nth ae l i)=true):(l.take (i+1)).filter f=(l.take i).filter f++[nth ae l i]:=by
 rw [GA hi,List.filter_append,List.filter_cons,h];rfl
theorem aeu {l:List Pt}{f:Pt→Bool}{i:Nat}(hi:i<l.length) (h:f (nth ae l i)=false):(l.take (i+1)).filter f=(l.take i).filter f:=by
 rw [GA hi,List.filter_append,List.filter_cons,h];simp
def ig (S:ay) (t:bf):Prop:=S.rd
def gr (S:ay) (t:bf):AV:=.s (.xs 0 5 0 (bz S t).length)
def iv (S:ay) (t:bf):List AV:=[.rs ae (bz S t)]
def fO:ct where
 A:=[.a xy,.a [.int,.int,.int,.int,.int,.int,.int]]
 B:=[]
 pre:=fun x b=>ig (x.1) (x.2)
 r:=fun x b _=>gr (x.1) (x.2)
 o:=fun x b _=>iv (x.1) (x.2)
 nf:=1
theorem pg:Has Tryz.prog 164 fO:=by
 refine Has.fu zT zF zF (l:=[(83,bl),(109,eg)]) ⟨cz,lr,aa⟩ Tryz.func164 ?_
 rintro⟨⟨(aj:List ByteArray),(ak:List Int),(an:List Int),(ao:Int),(ah:List Pt),(aq:Int),(ai:List Pt),(ar:Bool)⟩,⟨(t1:Int),(t2:Int),(t3:Int),(t4:Int),(t5:Int),(t6:Int),(t7:Int)⟩⟩ _ (hp:ig (aj,ak,an,ao,ah,aq,ai,ar) (t1,t2,t3,t4,t5,t6,t7))
 show vc _ _ _ _ (entry [.a [.vz ab aj,.vz ag ak,.vz ag an,.int ao,.vz ae ah,.int aq,.vz ae ai,.q ar],.a [.int t1,.int t2,.int t3,.int t4,.int t5,.int t6,.int t7]] []) _
 have dG:ay.rd (aj,ak,an,ao,ah,aq,ai,ar):=hp
 refine⟨aa,aa,fun w1=>?_,fun w2=>⟨⟨⟨⟨aa,aa,aa,aa,aa,aa⟩,aa⟩,aa⟩,fun x3 w4=>⟨fun w5=>?_,fun w6=>⟨aa,⟨⟨?_,?_⟩,?_,?_⟩,fun w7=>⟨⟨⟨⟨aa,aa,aa,aa,aa,aa,aa,aa,aa⟩,⟨aa,aa,aa,aa,aa,aa⟩,aa,aa⟩,?_⟩,fun x8 w9=>?_⟩,fun dy=>?_⟩⟩⟩⟩
 all_goals first|refine aw ?_|refine ax ?_|exact a8|(dsimp only [eg,fG];omega)|exact a7|exact dG|skip
 ·refine⟨[1009],[],_,_,_,rfl,az,(),aa,?_,?_,rfl⟩
  ·(show _=gr (aj,ak,an,ao,ah,aq,ai,ar) (t1,t2,t3,t4,t5,t6,t7));unfold gr;first|(rw [IU (s:=(aj,ak,an,ao,ah,aq,ai,ar)) (t:=(t1,t2,t3,t4,t5,t6,t7)) w1];rfl)|rfl
  ·(show _=iv (aj,ak,an,ao,ah,aq,ai,ar) (t1,t2,t3,t4,t5,t6,t7));unfold iv;first|(rw [IU (s:=(aj,ak,an,ao,ah,aq,ai,ar)) (t:=(t1,t2,t3,t4,t5,t6,t7)) w1];rfl)|rfl
 ·refine⟨[1009],[],_,_,_,rfl,az,(),aa,?_,?_,rfl⟩
  ·(show _=gr (aj,ak,an,ao,ah,aq,ai,ar) (t1,t2,t3,t4,t5,t6,t7));unfold gr;first|(rw [zR (s:=(aj,ak,an,ao,ah,aq,ai,ar)) (t:=(t1,t2,t3,t4,t5,t6,t7)) w5];rfl)|rfl
  ·(show _=iv (aj,ak,an,ao,ah,aq,ai,ar) (t1,t2,t3,t4,t5,t6,t7));unfold iv;first|(rw [zR (s:=(aj,ak,an,ao,ah,aq,ai,ar)) (t:=(t1,t2,t3,t4,t5,t6,t7)) w5];rfl)|rfl
 ·have hB:=(iH (aj,ak,an,ao,ah,aq,ai,ar) (t1,t2,t3,t4,t5) 2).1
  have hM:=IT (s:=(aj,ak,an,ao,ah,aq,ai,ar)) (t:=(t1,t2,t3,t4,t5,t6,t7)) w2 w6 w7
  refine cO (l:=[(83,bl),(109,eg)]) (ex:=zT) (wr:=zF) (pt:=zF) ⟨cz,lr,aa⟩ [.s 6,.b 320000] (fun y:Nat×List Pt=>[(.s 5,.s (.xs 1023 5 0 y.2.length)),(.s 8,.int y.1),(.b 1023,.rs ae y.2)]) (fun y=>y.1≤(bg (aj,ak,an,ao,ah,aq,ai,ar) (t1,t2,t3,t4,t5) 2).1.length∧y.2.length≤y.1+1∧y.2=(t1,t2,t3,t4,t5)::((bg (aj,ak,an,ao,ah,aq,ai,ar) (t1,t2,t3,t4,t5) 2).1.take y.1).filter (fun p=> !(au p))) (fun y=>(bg (aj,ak,an,ao,ah,aq,ai,ar) (t1,t2,t3,t4,t5) 2).1.length-y.1) (0,[(t1,t2,t3,t4,t5)]) [] ⟨ZA7 _,ZB5 _,rfl⟩ dN ?_
  rintro⟨i,out⟩ ⟨(hi:i≤(bg (aj,ak,an,ao,ah,aq,ai,ar) (t1,t2,t3,t4,t5) 2).1.length),(hlo:out.length≤i+1),(he:out=(t1,t2,t3,t4,t5)::((bg (aj,ak,an,ao,ah,aq,ai,ar) (t1,t2,t3,t4,t5) 2).1.take i).filter (fun p=> !(au p)))⟩
  have cq:decide ((i:Int)<((bg (aj,ak,an,ao,ah,aq,ai,ar) (t1,t2,t3,t4,t5) 2).1.length:Int))=true→i<(bg (aj,ak,an,ao,ah,aq,ai,ar) (t1,t2,t3,t4,t5) 2).1.length:=fun h=>by have:=aJ h;omega
  refine⟨fun w1=>⟨⟨?_,?_⟩,?_,⟨⟨⟨aa,aa,aa,aa,aa,aa⟩,aa⟩,aa⟩,fun x2 w3=>⟨fun w4=>⟨⟨?_,?_⟩,?_,aa,⟨⟨?_,?_⟩,?_,?_⟩,⟨?_,?_⟩,?_⟩,fun w5=>⟨⟨?_,?_⟩,?_⟩⟩⟩,fun w6=>?_⟩
  all_goals first|refine aw ?_|refine ax ?_|exact a8|(dsimp only [eg,fG];omega)|exact a7|exact cq w1|exact aJ w1|(show out.length+1≤1048576;omega)|skip
  ·refine⟨(i+1,out++[nth ae (bg (aj,ak,an,ao,ah,aq,ai,ar) (t1,t2,t3,t4,t5) 2).1 i]),[(1023,1052)],?_,?_,?_⟩
   rotate_right
   ·exact bW
   ·exact⟨cq w1,by show List.length (_++_)≤_;rw [ZA0];show out.length+1≤i+1+1;omega,by show _=_::_;rw [aet (l:=(bg (aj,ak,an,ao,ah,aq,ai,ar) (t1,t2,t3,t4,t5) 2).1) (cq w1) w4,he];rfl⟩
   ·show (bg (aj,ak,an,ao,ah,aq,ai,ar) (t1,t2,t3,t4,t5) 2).1.length-(i+1)<(bg (aj,ak,an,ao,ah,aq,ai,ar) (t1,t2,t3,t4,t5) 2).1.length-i;have:=cq w1;omega
  ·refine⟨(i+1,out),[],?_,?_,?_⟩
   rotate_right
   ·exact bW
   ·exact⟨cq w1,by show out.length≤i+1+1;omega,by show _=_::_;rw [aeu (l:=(bg (aj,ak,an,ao,ah,aq,ai,ar) (t1,t2,t3,t4,t5) 2).1) (cq w1) w5];exact he⟩
   ·show (bg (aj,ak,an,ao,ah,aq,ai,ar) (t1,t2,t3,t4,t5) 2).1.length-(i+1)<(bg (aj,ak,an,ao,ah,aq,ai,ar) (t1,t2,t3,t4,t5) 2).1.length-i;have:=cq w1;omega
  ·have FK:¬i<(bg (aj,ak,an,ao,ah,aq,ai,ar) (t1,t2,t3,t4,t5) 2).1.length:=by have:=aA (p:=(i:Int)<((bg (aj,ak,an,ao,ah,aq,ai,ar) (t1,t2,t3,t4,t5) 2).1.length:Int)) w6;omega
   have e:bz (aj,ak,an,ao,ah,aq,ai,ar) (t1,t2,t3,t4,t5,t6,t7)=out:=by rw [hM,he,ZD1 (by omega)]
   refine⟨[1023],[],_,_,_,rfl,az,(),aa,?_,?_,rfl⟩
   ·(show _=gr (aj,ak,an,ao,ah,aq,ai,ar) (t1,t2,t3,t4,t5,t6,t7));unfold gr;first|(rw [e];rfl)|rfl
   ·(show _=iv (aj,ak,an,ao,ah,aq,ai,ar) (t1,t2,t3,t4,t5,t6,t7));unfold iv;first|(rw [e];rfl)|rfl
 ·refine⟨[1023],[],_,_,_,rfl,az,(),aa,?_,?_,rfl⟩
  ·(show _=gr (aj,ak,an,ao,ah,aq,ai,ar) (t1,t2,t3,t4,t5,t6,t7));unfold gr;first|(rw [zQ (s:=(aj,ak,an,ao,ah,aq,ai,ar)) (t:=(t1,t2,t3,t4,t5,t6,t7)) w2 w6 dy];rfl)|rfl
  ·(show _=iv (aj,ak,an,ao,ah,aq,ai,ar) (t1,t2,t3,t4,t5,t6,t7));unfold iv;first|(rw [zQ (s:=(aj,ak,an,ao,ah,aq,ai,ar)) (t:=(t1,t2,t3,t4,t5,t6,t7)) w2 w6 dy];rfl)|rfl
def dM (s:ay) (t:bf) (d lv:Int):List Pt:=
 bif decide (t.depth≠d) then cw 4 else bif decide (lv=d) then [t.root] else bif !(bg s t.root d).2 then cw 4 else (bg s t.root d).1
theorem CA {s:ay}{t:bf}{d lv:Int}(h:decide (t.depth≠d)=true):dM s t d lv=cw 4:=by unfold dM;rw [h];rfl
theorem HM {s:ay}{t:bf}{d lv:Int}(h:decide (t.depth≠d)=false) (h2:decide (lv=d)=true):dM s t d lv=[t.root]:=by unfold dM;rw [h,h2];rfl
theorem OT {s:ay}{t:bf}{d lv:Int}(h:decide (t.depth≠d)=false) (h2:decide (lv=d)=false) (h3:(!(bg s t.root d).2)=true):dM s t d lv=cw 4:=by unfold dM;rw [h,h2,h3];rfl
theorem HL {s:ay}{t:bf}{d lv:Int}(h:decide (t.depth≠d)=false) (h2:decide (lv=d)=false) (h3:(!(bg s t.root d).2)=false):dM s t d lv=(bg s t.root d).1:=by unfold dM;rw [h,h2,h3];rfl
def k6 (S:ay) (t:bf) (d:Int) (lv:Int):Prop:=S.rd
def jO (S:ay) (t:bf) (d:Int) (lv:Int):AV:=.s (.xs 0 5 0 (dM S t d lv).length)
def lX (S:ay) (t:bf) (d:Int) (lv:Int):List AV:=[.rs ae (dM S t d lv)]
def j3:ct where
 A:=[.a xy,.a [.int,.int,.int,.int,.int,.int,.int],.s .int,.s .int]
 B:=[]
 pre:=fun x b=>k6 (x.1) (x.2.1) (x.2.2.1) (x.2.2.2)
 r:=fun x b _=>jO (x.1) (x.2.1) (x.2.2.1) (x.2.2.2)
 o:=fun x b _=>lX (x.1) (x.2.1) (x.2.2.1) (x.2.2.2)
 nf:=1
theorem wQ:Has Tryz.prog 165 j3:=by
 refine Has.fu zT zF zF (l:=[(137,j5),(109,eg)]) ⟨wS,lr,aa⟩ Tryz.func165 ?_
 rintro⟨⟨(aj:List ByteArray),(ak:List Int),(an:List Int),(ao:Int),(ah:List Pt),(aq:Int),(ai:List Pt),(ar:Bool)⟩,⟨(t1:Int),(t2:Int),(t3:Int),(t4:Int),(t5:Int),(t6:Int),(t7:Int)⟩,(d:Int),(lv:Int)⟩ _ (hp:k6 (aj,ak,an,ao,ah,aq,ai,ar) (t1,t2,t3,t4,t5,t6,t7) d lv)
 show vc _ _ _ _ (entry [.a [.vz ab aj,.vz ag ak,.vz ag an,.int ao,.vz ae ah,.int aq,.vz ae ai,.q ar],.a [.int t1,.int t2,.int t3,.int t4,.int t5,.int t6,.int t7],.int d,.int lv] []) _
 have dG:ay.rd (aj,ak,an,ao,ah,aq,ai,ar):=hp
 refine⟨fun w1=>⟨⟨⟨aa,aa⟩,?_,?_⟩,fun x2 w3=>?_⟩,fun w4=>⟨fun w5=>⟨aa,?_⟩,fun w6=>⟨⟨⟨⟨aa,aa,aa,aa,aa,aa,aa,aa,aa⟩,⟨aa,aa,aa,aa,aa,aa⟩,aa,aa⟩,?_⟩,fun x7 w8=>⟨fun w9=>⟨⟨⟨aa,aa⟩,?_,?_⟩,fun x10 kC=>?_⟩,fun dK=>?_⟩⟩⟩⟩
 all_goals first|refine aw ?_|refine ax ?_|exact a8|(dsimp only [j5,k8,eg,fG];omega)|exact a7|exact dG|skip
 ·refine⟨[160000],[],_,_,_,rfl,az,(),aa,?_,?_,rfl⟩
  ·(show _=jO (aj,ak,an,ao,ah,aq,ai,ar) (t1,t2,t3,t4,t5,t6,t7) d lv);unfold jO;first|(rw [CA (s:=(aj,ak,an,ao,ah,aq,ai,ar)) (t:=(t1,t2,t3,t4,t5,t6,t7)) (d:=d) (lv:=lv) w1];rfl)|rfl
  ·(show _=lX (aj,ak,an,ao,ah,aq,ai,ar) (t1,t2,t3,t4,t5,t6,t7) d lv);unfold lX;first|(rw [CA (s:=(aj,ak,an,ao,ah,aq,ai,ar)) (t:=(t1,t2,t3,t4,t5,t6,t7)) (d:=d) (lv:=lv) w1];rfl)|rfl
 ·refine⟨[1021],[],_,_,_,rfl,az,(),aa,?_,?_,rfl⟩
  ·(show _=jO (aj,ak,an,ao,ah,aq,ai,ar) (t1,t2,t3,t4,t5,t6,t7) d lv);unfold jO;first|(rw [HM (s:=(aj,ak,an,ao,ah,aq,ai,ar)) (t:=(t1,t2,t3,t4,t5,t6,t7)) (d:=d) (lv:=lv) w4 w5];rfl)|rfl
  ·(show _=lX (aj,ak,an,ao,ah,aq,ai,ar) (t1,t2,t3,t4,t5,t6,t7) d lv);unfold lX;first|(rw [HM (s:=(aj,ak,an,ao,ah,aq,ai,ar)) (t:=(t1,t2,t3,t4,t5,t6,t7)) (d:=d) (lv:=lv) w4 w5];rfl)|rfl
 ·trace_state
  refine⟨[330000],[],_,_,_,rfl,az,(),aa,?_,?_,rfl⟩
  ·(show _=jO (aj,ak,an,ao,ah,aq,ai,ar) (t1,t2,t3,t4,t5,t6,t7) d lv);unfold jO;first|(rw [OT (s:=(aj,ak,an,ao,ah,aq,ai,ar)) (t:=(t1,t2,t3,t4,t5,t6,t7)) (d:=d) (lv:=lv) w4 w6 w9];rfl)|rfl
  ·(show _=lX (aj,ak,an,ao,ah,aq,ai,ar) (t1,t2,t3,t4,t5,t6,t7) d lv);unfold lX;first|(rw [OT (s:=(aj,ak,an,ao,ah,aq,ai,ar)) (t:=(t1,t2,t3,t4,t5,t6,t7)) (d:=d) (lv:=lv) w4 w6 w9];rfl)|rfl
 ·refine⟨[280000],[],_,_,_,rfl,az,(),aa,?_,?_,rfl⟩
  ·(show _=jO (aj,ak,an,ao,ah,aq,ai,ar) (t1,t2,t3,t4,t5,t6,t7) d lv);unfold jO;first|(rw [HL (s:=(aj,ak,an,ao,ah,aq,ai,ar)) (t:=(t1,t2,t3,t4,t5,t6,t7)) (d:=d) (lv:=lv) w4 w6 dK];rfl)|rfl
  ·(show _=lX (aj,ak,an,ao,ah,aq,ai,ar) (t1,t2,t3,t4,t5,t6,t7) d lv);unfold lX;first|(rw [HL (s:=(aj,ak,an,ao,ah,aq,ai,ar)) (t:=(t1,t2,t3,t4,t5,t6,t7)) (d:=d) (lv:=lv) w4 w6 dK];rfl)|rfl
end GL
namespace GL
def ptrEq (p q:Pt):Bool:=decide (p.1=q.1)&&(decide (p.2.1=q.2.1)&&(decide (p.2.2.1=q.2.2.1)&&(decide (p.2.2.2.1=q.2.2.2.1)&&decide (p.2.2.2.2=q.2.2.2.2))))
theorem se {p q:Pt}:ptrEq p q=true↔p=q:=by
 unfold ptrEq
 simp only [ZA9,decide_eq_true_eq]
 constructor
 ·rintro⟨h1,h2,h3,h4,h5⟩
  obtain⟨a,b,c,d,e⟩:=p
  obtain⟨a',b',c',d',e'⟩:=q
  simp only at h1 h2 h3 h4 h5
  subst h1 h2 h3 h4 h5;rfl
 ·rintro rfl;exact⟨rfl,rfl,rfl,rfl,rfl⟩
def B6:Nat→List Pt→List Pt
 |0,l=>l
 |f+1,l=>bif decide ((l.length:Int) % 4≠0) then B6 f (l++[bN]) else l
def eL (l:List Pt):List Pt:=B6 4 l
theorem acT {f:Nat}{l:List Pt}(h:decide ((l.length:Int) % 4≠0)=true):B6 (f+1) l=B6 f (l++[bN]):=by rw [B6,h];rfl
theorem acU {f:Nat}{l:List Pt}(h:decide ((l.length:Int) % 4≠0)=false):B6 f l=l:=by
 cases f with
 |zero=>rfl
 |succ f=>rw [B6,h];rfl
theorem RT:∀(f:Nat) (l:List Pt),4≤f+(l.length % 4)∨l.length % 4=0→(B6 f l).length=(l.length+3) / 4*4
 |0,l,h=>by show l.length=_;omega
 |f+1,l,h=>by
  unfold B6
  cases hd:decide ((l.length:Int) % 4≠0) with
  |true=>
   have:=aJ hd
   rw [cond_true,RT f _ (by rw [ZA0];show 4≤f+(l.length+1) % 4∨(l.length+1) % 4=0;omega),ZA0]
   show (l.length+1+3) / 4*4=_;omega
  |false=>
   have:=aA hd
   rw [cond_false];omega
theorem HE (l:List Pt):(eL l).length=(l.length+3) / 4*4:=RT 4 l (by omega)
def qR (l:List Pt) (i:Nat):List Pt:=(l.drop (0+((i:Int)*4).toNat)).take ((((i:Int)+1)*4).toNat-((i:Int)*4).toNat)
def fJ:Nat→ay→Int→List Pt→List Pt→Nat→List Pt→List Pt→ay×Option (List Pt×List Pt)
 |0,s,_,_,_,_,next,stays=>(s,some (next,stays))
 |f+1,s,lv,kc,l,i,next,stays=>
  bif decide ((i:Int)*4<l.length) then
   (bif !(ef s (qR l i) lv (nth ae kc i)).2.2 then ((ef s (qR l i) lv (nth ae kc i)).1,none) else
    fJ f (ef s (qR l i) lv (nth ae kc i)).1 lv kc l (i+1) (next++[(ef s (qR l i) lv (nth ae kc i)).2.1])
     (bif ptrEq (ef s (qR l i) lv (nth ae kc i)).2.1 (nth ae kc i) then stays++[(ef s (qR l i) lv (nth ae kc i)).2.1] else stays))
  else (s,some (next,stays))
def mr:Nat→ay→bf→Int→Int→List Pt→List Pt→ay×Option (List Pt×List Pt)
 |0,s,_,_,_,l,stays=>(s,some (l,stays))
 |f+1,s,t,d,lv,l,stays=>bif decide (lv≤d) then
   (match fJ 5 s lv (dM s t d lv) (eL l) 0 [] stays with
    |(s',none)=>(s',none)
    |(s',some (n,st))=>mr f s' t d (lv+1) n st)
  else (s,some (l,stays))
def gY (stays:List Pt) (o:Pt):Bool:=stays.any fun q=>ptrEq q o
def dY:List Pt→List Pt→ay→ay
 |[],_,s=>s
 |o::l,stays,s=>dY l stays (bif gY stays o then s else cN s o)
def rootOf (l:List Pt):Pt:=bif decide ((l.length:Int)>0) then nth ae l 0 else bN
def LW (p:Pt) (d many:Int):bf:=(p.1,p.2.1,p.2.2.1,p.2.2.2.1,p.2.2.2.2,d,many)
def nB:bf:=(0,0,0,0,0,0,0)
def akE (s0:ay) (t:bf) (many:Int):ay×Option (List Pt×List Pt)→ay×bf×Bool
 |(s',none)=>(s',nB,false)
 |(s',some (l,stays))=>(dY (bz s0 t) stays s',LW (rootOf l) (bj many) many,true)
def bR (s:ay) (t:bf) (leaves:List Pt) (many:Int):ay×bf×Bool:=akE s t many (mr 3 s t (bj many) 1 (leaves.take many.toNat) [])
def trA (t:bf):A0:=.a [.int t.1,.int t.2.1,.int t.2.2.1,.int t.2.2.2.1,.int t.2.2.2.2.1,.int t.2.2.2.2.2.1,.int t.2.2.2.2.2.2]
structure ay.wf (s:ay):Prop where
 n:s.n64
 sz:∀x∈s.rows,x.size≤1000000
theorem ay.wf.rd {s:ay}(h:s.wf):s.rd:=⟨h.n.1,h.sz⟩
theorem UY {l:List ByteArray}{k:Nat}{x:ByteArray}(h:∀y∈l,y.size≤1000000) (hx:x.size≤1000000):∀y∈l.set k x,y.size≤1000000:=by
 intro y hy
 rcases List.mem_or_eq_of_mem_set hy with h1 |h1
 ·exact h y h1
 ·rw [h1];exact hx
theorem jM (s:ay) (text:ByteArray) (lv:Int):(bd s text lv).2.2=false∧(bd s text lv).1=s∨∃k:Nat,(bd s text lv).2.2=true∧(bd s text lv).1=uR s text k∧text.size≤128:=by
 unfold bd
 cases hd:decide (db s text lv<0) with
 |true=>exact .inl ⟨rfl,rfl⟩
 |false=>
  cases ho:(gw (db s text lv) s.cj lv text).2 with
  |false=>exact .inl ⟨rfl,rfl⟩
  |true=>
   refine .inr ⟨(db s text lv).toNat,rfl,rfl,?_⟩
   unfold gw at ho
   cases hc:iB text.size 1 128&&aZ (db s text lv,s.cj,text.size,qQ text,lv) with
   |true=>
    simp only [ZA9] at hc
    have:=cD.1 hc.1
    omega
   |false=>rw [hc] at ho;cases ho
theorem AY {s:ay}{text:ByteArray}{lv:Int}(h:s.wf):(bd s text lv).1.wf:=by
 rcases jM s text lv with ⟨_,e⟩ |⟨k,_,e,hs⟩
 ·rw [e];exact h
 ·rw [e]
  exact⟨⟨by show (List.set _ _ _).length=64;rw [ZC3];exact h.n.1,by show (List.set _ _ _).length=64;rw [ZC3];exact h.n.2.1,by show (List.set _ _ _).length=64;rw [ZC3];exact h.n.2.2⟩,UY h.sz (by omega)⟩
theorem PN {s:ay}{l:List Pt}{lv:Int}{o:Pt}(h:s.wf):(ef s l lv o).1.wf:=by
 unfold ef
 cases nY l with
 |true=>exact h
 |false=>
  cases fE s l o with
  |true=>exact h
  |false=>exact AY h
theorem ab0 {s:ay}{l:List Pt}{lv:Int}{o:Pt}(h:(ef s l lv o).2.2=false):(ef s l lv o).1=s:=by
 unfold ef at h ⊢
 cases hn:nY l with
 |true=>rw [hn] at h;cases h
 |false=>
  rw [hn,cond_false] at h
  show (bif fE s l o then (s,o,true) else bd s (bF l).1 lv).1=s
  cases hk:fE s l o with
  |true=>rw [hk] at h;cases h
  |false=>
   rw [hk,cond_false] at h
   show (bd s (bF l).1 lv).1=s
   rcases jM s (bF l).1 lv with ⟨_,e⟩ |⟨k,e,_⟩
   ·exact e
   ·rw [e] at h;cases h
theorem C7 (s:ay) (l:List Pt) (lv:Int) (o:Pt):(ef s l lv o).1.gone=s.gone∧(ef s l lv o).1.dead=s.dead∧(ef s l lv o).1.cj=s.cj∧(ef s l lv o).1.ca=s.ca∧(ef s l lv o).1.same=s.same:=by
 unfold ef
 cases nY l with
 |true=>exact⟨rfl,rfl,rfl,rfl,rfl⟩
 |false=>
  cases fE s l o with
  |true=>exact⟨rfl,rfl,rfl,rfl,rfl⟩
  |false=>
   show (bd s (bF l).1 lv).1.gone=_∧_
   rcases jM s (bF l).1 lv with ⟨_,e⟩ |⟨k,_,e,_⟩
   ·rw [cond_false,cond_false,e];exact⟨rfl,rfl,rfl,rfl,rfl⟩
   ·rw [cond_false,cond_false,e];exact⟨rfl,rfl,rfl,rfl,rfl⟩
theorem qt {s:ay}{p:Pt}(h:s.wf):(cN s p).wf:=by
 unfold cN
 cases au p with
 |true=>exact h
 |false=>
  cases decide (p.2.1≤s.ca) with
  |true=>exact⟨h.n,h.sz⟩
  |false=>
   cases decide (p.2.1<s.cj) with
   |true=>exact⟨h.n,h.sz⟩
   |false=>
    show (gf s p.1.toNat).wf
    have hl:=xg s p.1.toNat
    refine⟨⟨hl.1.trans h.n.1,hl.2.1.trans h.n.2.1,hl.2.2.trans h.n.2.2⟩,?_⟩
    show∀x∈(bif uE s p.1.toNat then s.rows.set p.1.toNat ByteArray.empty else s.rows),_
    cases uE s p.1.toNat with
    |true=>exact UY h.sz (ZA7 _)
    |false=>exact h.sz
theorem pj (s:ay) (p:Pt):(cN s p).gone.length≤s.gone.length+1∧(cN s p).dead.length≤s.dead.length+1:=by
 unfold cN
 cases au p with
 |true=>exact⟨Nat.le_succ _,Nat.le_succ _⟩
 |false=>
  cases decide (p.2.1≤s.ca) with
  |true=>exact⟨Nat.le_succ _,by show (s.dead++[p]).length≤_;rw [ZA0];exact ZB5 _⟩
  |false=>
   cases decide (p.2.1<s.cj) with
   |true=>exact⟨by show (s.gone++[p]).length≤_;rw [ZA0];exact ZB5 _,Nat.le_succ _⟩
   |false=>exact⟨Nat.le_succ _,Nat.le_succ _⟩
theorem Y4 {s:ay}{t:bf}{d lv:Int}(h:t.rd):∀q∈dM s t d lv,aZ q=true:=by
 unfold dM
 cases decide (t.depth≠d) with
 |true=>exact wX 4
 |false=>
  cases decide (lv=d) with
  |true=>
   intro q hq
   simp only [cond_false,cond_true,ZB8,ZF6,or_false] at hq
   subst hq;exact h.ok
  |false=>
   cases !(bg s t.root d).2 with
   |true=>exact wX 4
   |false=>exact sS s t.root d
theorem ade (s:ay) (t:bf) (d lv:Int):1≤(dM s t d lv).length∧(lv≠d→(dM s t d lv).length=4)∧(dM s t d lv).length≤4:=by
 unfold dM
 cases decide (t.depth≠d) with
 |true=>exact⟨by show 1≤4;omega,fun _=>rfl,ZB5 _⟩
 |false=>
  cases hd:decide (lv=d) with
  |true=>exact⟨ZB5 _,fun h=>absurd (aJ hd) h,by show 1≤4;omega⟩
  |false=>
   cases hb: !(bg s t.root d).2 with
   |true=>exact⟨by show 1≤4;omega,fun _=>rfl,ZB5 _⟩
   |false=>
    have:=(iH s t.root d).2 (cM hb)
    show 1≤(bg s t.root d).1.length∧(_→(bg s t.root d).1.length=4)∧(bg s t.root d).1.length≤4
    omega
theorem MJ {s:ay}{t:bf}(h:t.rd):∀q∈bz s t,aZ q=true:=by
 unfold bz
 cases decide (t.depth=0)||au t.root with
 |true=>intro q hq;cases hq
 |false=>
  cases decide (t.depth=2) with
  |true=>
   intro q hq
   rcases ZB8.1 hq with hq |hq
   ·rw [hq];exact h.ok
   ·exact sS s t.root 2 q (ZF4.1 hq).1
  |false=>
   intro q hq
   simp only [cond_false,ZB8,ZF6,or_false] at hq
   subst hq;exact h.ok
theorem IS (s:ay) (t:bf):(bz s t).length≤5:=by
 unfold bz
 cases decide (t.depth=0)||au t.root with
 |true=>exact ZA7 _
 |false=>
  cases decide (t.depth=2) with
  |true=>
   have h1:=(iH s t.root 2).1
   have h2:=List.length_filter_le (fun p=> !(au p)) (bg s t.root 2).1
   show (t.root::(bg s t.root 2).1.filter (fun p=> !(au p))).length≤5
   rw [ZA1];omega
  |false=>show 1≤5;omega
end GL
end Go.Proofs.YtkgpljpmdkflmaaGreatDoor
