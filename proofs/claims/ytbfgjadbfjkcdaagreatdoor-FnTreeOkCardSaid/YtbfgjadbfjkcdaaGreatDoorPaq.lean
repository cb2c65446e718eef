/- FnTreeOk returns true for every code (its row lists package variables, tied by the card): part 17. -/
import Derived.Test.YtbfgjadbfjkcdaaGreatDoorPap
set_option maxHeartbeats 20000000
set_option linter.all false
namespace Go.Proofs.YtbfgjadbfjkcdaaGreatDoor
namespace GL
theorem UK:∀{l:List Pt}{i:Nat}{out o:ByteArray}{sm m:Bool},hZ l i out sm=some (o,m)→o.size≤out.size+65*l.length
 |[],i,out,o,sm,m,h=>by cases h;exact ZB6 _
 |p::l,i,out,o,sm,m,h=>by
  unfold hZ at h
  cases hb:a6 p with
  |true=>
   rw [hb,cond_true] at h
   have h1:=UK h
   have h2:=gw p
   rw [ZB3] at h1
   rw [ZA1]
   cases hd:decide ((i:Int)>0) with
   |true=>rw [hd,cond_true,ZB3,sz1] at h1;omega
   |false=>rw [hd,cond_false] at h1;omega
  |false=>rw [hb] at h;cases h
theorem X4 (l:List Pt):(bG l).1.size≤1000:=by
 unfold bG
 cases hc:decide ((l.length:Int)≠4) with
 |true=>exact ZA8 _
 |false=>
  have h4:=aA hc
  show (rv l).1.size≤1000
  unfold rv
  cases hf:hZ l 0 ⟨#[]⟩ false with
  |none=>exact ZA8 _
  |some r=>
   obtain⟨o,sm⟩:=r
   have h1:=UK hf
   rw [sz0] at h1
   show (ry o sm).1.size≤1000
   unfold ry
   cases !sm with
   |true=>exact ZA8 _
   |false=>show o.size≤1000;omega
def fE (s:ay) (l:List Pt) (old:Pt):Bool:= !(au old)&&(iY old (bG l).1&&decide (nth ab s.rows old.1.toNat=(bG l).1))
def ef (s:ay) (l:List Pt) (lv:Int) (old:Pt):ay×Pt×Bool:=
 bif ob l then (s,bO,true) else bif fE s l old then (s,old,true) else bg s (bG l).1 lv
theorem JQ {s:ay}{l:List Pt}{lv:Int}{old:Pt}(h:ob l=true):ef s l lv old=(s,bO,true):=by unfold ef;rw [h];rfl
theorem JP {s:ay}{l:List Pt}{lv:Int}{old:Pt}(h:ob l=false) (h2:fE s l old=true):ef s l lv old=(s,old,true):=by unfold ef;rw [h,h2];rfl
theorem tW {s:ay}{l:List Pt}{lv:Int}{old:Pt}(h:ob l=false) (h2:fE s l old=false):ef s l lv old=bg s (bG l).1 lv:=by unfold ef;rw [h,h2];rfl
theorem NF {s:ay}{l:List Pt}{old:Pt}(h1:(!(au old))=true) (h2:iY old (bG l).1=true) (h3:decide (nth ab s.rows old.1.toNat=(bG l).1)=true):fE s l old=true:=by unfold fE;rw [h1,h2,h3];rfl
theorem NI {s:ay}{l:List Pt}{old:Pt}(h1:(!(au old))=false):fE s l old=false:=by unfold fE;rw [h1];rfl
theorem NH {s:ay}{l:List Pt}{old:Pt}(h2:iY old (bG l).1=false):fE s l old=false:=by unfold fE;rw [h2,Bool.false_and,ZD8]
theorem NG {s:ay}{l:List Pt}{old:Pt}(h3:decide (nth ab s.rows old.1.toNat=(bG l).1)=false):fE s l old=false:=by unfold fE;rw [h3,ZD8,ZD8]
structure ay.akY (s:ay):Prop where
 ok:s.n64
def lh (S:ay) (l:List Pt) (lv:Int) (o:Pt):Prop:=S.akY∧l.length≤1000000∧0≤o.1∧o.1<64
def gU (S:ay) (l:List Pt) (lv:Int) (o:Pt):AV:=.t [.a (k9 0 1 2 3 4 (ef S l lv o).1),ptA (ef S l lv o).2.1,.s (.q (ef S l lv o).2.2)]
def js (S:ay) (l:List Pt) (lv:Int) (o:Pt):List AV:=GR (ef S l lv o).1
def j5:Con where
 A:=[.a (stB 0 1 2 3 4),.s (.vz ae),.s .int,.a [.int,.int,.int,.int,.int]]
 B:=[.r ab,.r ag,.r ag,.r ae,.r ae]
 pre:=fun x b=>whole x.1.1 x.1.2.1 x.1.2.2.1 x.1.2.2.2.2.1 x.1.2.2.2.2.2.2.1 (b.1) (b.2.1) (b.2.2.1) (b.2.2.2.1) (b.2.2.2.2)∧lh ((b.1,b.2.1,b.2.2.1,x.1.2.2.2.1,b.2.2.2.1,x.1.2.2.2.2.2.1,b.2.2.2.2,x.1.2.2.2.2.2.2.2)) (x.2.1) (x.2.2.1) (x.2.2.2)
 α:=fun _ _=>Unit
 φ:=fun _ _ _=>True
 r:=fun x b _=>gU ((b.1,b.2.1,b.2.2.1,x.1.2.2.2.1,b.2.2.2.1,x.1.2.2.2.2.2.1,b.2.2.2.2,x.1.2.2.2.2.2.2.2)) (x.2.1) (x.2.2.1) (x.2.2.2)
 o:=fun x b _=>js ((b.1,b.2.1,b.2.2.1,x.1.2.2.2.1,b.2.2.2.1,x.1.2.2.2.2.2.1,b.2.2.2.2,x.1.2.2.2.2.2.2.2)) (x.2.1) (x.2.2.1) (x.2.2.2)
 nf:=0
set_option maxRecDepth 100000 in
theorem wY:Has Tryz.prog 83 j5:=by
 refine Has.ofE (fun _=>true) (fun _=>false) (fun _=>false) (l:=[(120,J7),(121,KI),(26,bm),(57,sS),(48,nq)]) ⟨ad9,aem,cB,MU,CW,trivial⟩ (fn:=Tryz.f83) Tryz.func83 rfl (by decide) (aZ rfl) ?_
 rintro⟨⟨(A3:Nat),(A2:Nat),(A1:Nat),(ao:Int),(AZ:Nat),(aq:Int),(AY:Nat),(ar:Bool)⟩,(l:List Pt),(lv:Int),⟨(o1:Int),(o2:Int),(o3:Int),(o4:Int),(o5:Int)⟩⟩ ⟨(aj:List ByteArray),(ak:List Int),(an:List Int),(ah:List Pt),(ai:List Pt)⟩ ⟨⟨(gE:A3=List.length aj),(gD:A2=List.length ak),(gC:A1=List.length an),(gB:AZ=List.length ah),(gA:AY=List.length ai)⟩,(hp:lh (aj,ak,an,ao,ah,aq,ai,ar) l lv (o1,o2,o3,o4,o5))⟩
 subst gE gD gC gB gA
 show vc _ _ _ _ (entry [.a [.xs 0 1 0 aj.length,.xs 1 1 0 ak.length,.xs 2 1 0 an.length,.int ao,.xs 3 5 0 ah.length,.int aq,.xs 4 5 0 ai.length,.q ar],.s (.vz ae l),.int lv,.a [.int o1,.int o2,.int o3,.int o4,.int o5]] [.rs ab aj,.rs ag ak,.rs ag an,.rs ae ah,.rs ae ai]) _
 obtain⟨⟨⟨l1,l2,l3⟩⟩,h2,(h3:0≤o1),(h4:o1<64)⟩:=hp
 dsimp only [ay.rows,ay.refs,ay.last] at l1 l2 l3
 have dk:=X4 l
 refine⟨⟨⟨aa,aa⟩,?_⟩,fun x1 w2=>⟨fun w3=>?_,fun w4=>⟨⟨⟨aa,aa⟩,aa⟩,fun x5 w6=>⟨⟨⟨⟨aa,aa,aa,aa,aa,aa⟩,aa⟩,aa⟩,fun x7 w8=>⟨aa,fun w9=>⟨⟨⟨⟨aa,aa,aa,aa,aa,aa⟩,aa,aa⟩,?_⟩,fun x10 kk=>⟨aa,fun dI=>⟨⟨?_,?_⟩,?_,fun iJ=>⟨[.s 4,.b 1004],[.s 40],rfl,[.s 7,.b 1007],[.s 41],rfl,[.s 8,.s 40,.b 1008],[.b 1008],rfl,[.s 9,.s 41,.b 1009],[.b 1009],rfl,[],[.s 10],rfl,?_⟩,fun gI=>⟨⟨⟨⟨aa,aa,aa,aa,aa,aa,aa,aa,aa⟩,aa,aa,aa⟩,⟨?_,?_,?_,?_,?_⟩,⟨?_,?_,?_⟩,?_⟩,fun kD kj=>?_⟩⟩,fun wC=>⟨⟨⟨⟨aa,aa,aa,aa,aa,aa,aa,aa,aa⟩,aa,aa,aa⟩,⟨?_,?_,?_,?_,?_⟩,⟨?_,?_,?_⟩,?_⟩,fun qN oB=>?_⟩⟩⟩,fun uw=>⟨⟨⟨⟨aa,aa,aa,aa,aa,aa,aa,aa,aa⟩,aa,aa,aa⟩,⟨?_,?_,?_,?_,?_⟩,⟨?_,?_,?_⟩,?_⟩,fun x21 zl=>?_⟩⟩⟩⟩⟩⟩
 all_goals first|refine aw ?_|refine ax ?_|exact ba|(dsimp only [J7,tk];omega)|(dsimp only [KI,yx];omega)|(dsimp only [bm,cj];omega)|(dsimp only [sS,nW];omega)|(dsimp only [nq,nT];omega)|exact a8|(show ((bG l).1.size:Int)≤1000000000000;omega)|exact l1|exact l2|exact l3|exact h2|skip
 ·refine⟨[],[],_,_,_,rfl,az,(),aa,?_,?_,rfl⟩
  ·(show _=gU (aj,ak,an,ao,ah,aq,ai,ar) l lv (o1,o2,o3,o4,o5));unfold gU;first|(rw [JQ (s:=(aj,ak,an,ao,ah,aq,ai,ar)) (l:=l) (lv:=lv) (old:=(o1,o2,o3,o4,o5)) w3];rfl)|rfl
  ·(show _=js (aj,ak,an,ao,ah,aq,ai,ar) l lv (o1,o2,o3,o4,o5));unfold js;first|(rw [JQ (s:=(aj,ak,an,ao,ah,aq,ai,ar)) (l:=l) (lv:=lv) (old:=(o1,o2,o3,o4,o5)) w3];rfl)|rfl
 ·refine⟨[],[],_,_,_,rfl,az,(),aa,?_,?_,rfl⟩
  ·(show _=gU (aj,ak,an,ao,ah,aq,ai,ar) l lv (o1,o2,o3,o4,o5));unfold gU;first|(rw [JP (s:=(aj,ak,an,ao,ah,aq,ai,ar)) (l:=l) (lv:=lv) (old:=(o1,o2,o3,o4,o5)) w4 (NF (s:=(aj,ak,an,ao,ah,aq,ai,ar)) (l:=l) (old:=(o1,o2,o3,o4,o5)) w9 dI iJ)];rfl)|rfl
  ·(show _=js (aj,ak,an,ao,ah,aq,ai,ar) l lv (o1,o2,o3,o4,o5));unfold js;first|(rw [JP (s:=(aj,ak,an,ao,ah,aq,ai,ar)) (l:=l) (lv:=lv) (old:=(o1,o2,o3,o4,o5)) w4 (NF (s:=(aj,ak,an,ao,ah,aq,ai,ar)) (l:=l) (old:=(o1,o2,o3,o4,o5)) w9 dI iJ)];rfl)|rfl
 ·refine⟨[],[],_,_,_,rfl,az,(),aa,?_,?_,rfl⟩
  ·(show _=gU (aj,ak,an,ao,ah,aq,ai,ar) l lv (o1,o2,o3,o4,o5));unfold gU;first|(rw [tW (s:=(aj,ak,an,ao,ah,aq,ai,ar)) (l:=l) (lv:=lv) (old:=(o1,o2,o3,o4,o5)) w4 (NG (s:=(aj,ak,an,ao,ah,aq,ai,ar)) (l:=l) (old:=(o1,o2,o3,o4,o5)) gI)];rfl)|rfl
  ·(show _=js (aj,ak,an,ao,ah,aq,ai,ar) l lv (o1,o2,o3,o4,o5));unfold js;first|(rw [tW (s:=(aj,ak,an,ao,ah,aq,ai,ar)) (l:=l) (lv:=lv) (old:=(o1,o2,o3,o4,o5)) w4 (NG (s:=(aj,ak,an,ao,ah,aq,ai,ar)) (l:=l) (old:=(o1,o2,o3,o4,o5)) gI)];rfl)|rfl
 ·refine⟨[],[],_,_,_,rfl,az,(),aa,?_,?_,rfl⟩
  ·(show _=gU (aj,ak,an,ao,ah,aq,ai,ar) l lv (o1,o2,o3,o4,o5));unfold gU;first|(rw [tW (s:=(aj,ak,an,ao,ah,aq,ai,ar)) (l:=l) (lv:=lv) (old:=(o1,o2,o3,o4,o5)) w4 (NH (s:=(aj,ak,an,ao,ah,aq,ai,ar)) (l:=l) (old:=(o1,o2,o3,o4,o5)) wC)];rfl)|rfl
  ·(show _=js (aj,ak,an,ao,ah,aq,ai,ar) l lv (o1,o2,o3,o4,o5));unfold js;first|(rw [tW (s:=(aj,ak,an,ao,ah,aq,ai,ar)) (l:=l) (lv:=lv) (old:=(o1,o2,o3,o4,o5)) w4 (NH (s:=(aj,ak,an,ao,ah,aq,ai,ar)) (l:=l) (old:=(o1,o2,o3,o4,o5)) wC)];rfl)|rfl
 ·refine⟨[],[],_,_,_,rfl,az,(),aa,?_,?_,rfl⟩
  ·(show _=gU (aj,ak,an,ao,ah,aq,ai,ar) l lv (o1,o2,o3,o4,o5));unfold gU;first|(rw [tW (s:=(aj,ak,an,ao,ah,aq,ai,ar)) (l:=l) (lv:=lv) (old:=(o1,o2,o3,o4,o5)) w4 (NI (s:=(aj,ak,an,ao,ah,aq,ai,ar)) (l:=l) (old:=(o1,o2,o3,o4,o5)) uw)];rfl)|rfl
  ·(show _=js (aj,ak,an,ao,ah,aq,ai,ar) l lv (o1,o2,o3,o4,o5));unfold js;first|(rw [tW (s:=(aj,ak,an,ao,ah,aq,ai,ar)) (l:=l) (lv:=lv) (old:=(o1,o2,o3,o4,o5)) w4 (NI (s:=(aj,ak,an,ao,ah,aq,ai,ar)) (l:=l) (old:=(o1,o2,o3,o4,o5)) uw)];rfl)|rfl
def bA (s:ay) (t:bf):List Pt:=
 bif decide (t.depth=0)||au t.root then [] else
 bif decide (t.depth=2) then t.root::(bh s t.root 2).1.filter (fun p=> !(au p)) else [t.root]
theorem I5 {s:ay}{t:bf}(h:decide (t.depth=0)=true):bA s t=[]:=by unfold bA;rw [h];rfl
theorem z1 {s:ay}{t:bf}(h:au t.root=true):bA s t=[]:=by unfold bA;rw [h,ZC4];rfl
theorem zZ {s:ay}{t:bf}(h:decide (t.depth=0)=false) (h2:au t.root=false) (h3:decide (t.depth=2)=false):bA s t=[t.root]:=by unfold bA;rw [h,h2,h3];rfl
theorem I4 {s:ay}{t:bf}(h:decide (t.depth=0)=false) (h2:au t.root=false) (h3:decide (t.depth=2)=true):bA s t=t.root::(bh s t.root 2).1.filter (fun p=> !(au p)):=by unfold bA;rw [h,h2,h3];rfl
theorem aeS {l:List Pt}{f:Pt→Bool}{i:Nat}(hi:i<l.length) (h:f (nth ae l i)=true):(l.take (i+1)).filter f=(l.take i).filter f++[nth ae l i]:=by
 rw [GO hi,List.filter_append,List.filter_cons,h];rfl
theorem aeT {l:List Pt}{f:Pt→Bool}{i:Nat}(hi:i<l.length) (h:f (nth ae l i)=false):(l.take (i+1)).filter f=(l.take i).filter f:=by
 rw [GO hi,List.filter_append,List.filter_cons,h];simp
def ij (S:ay) (t:bf):Prop:=S.rd
def gu (S:ay) (t:bf):AV:=.s (.xs 0 5 0 (bA S t).length)
def iw (S:ay) (t:bf):List AV:=[.rs ae (bA S t)]
def fO:Con where
 A:=[.a xE,.a [.int,.int,.int,.int,.int,.int,.int]]
 B:=[]
 pre:=fun x b=>ij (x.1) (x.2)
 α:=fun _ _=>Unit
 φ:=fun _ _ _=>True
 r:=fun x b _=>gu (x.1) (x.2)
 o:=fun x b _=>iw (x.1) (x.2)
 nf:=1
set_option maxRecDepth 100000 in
theorem po:Has Tryz.prog 81 fO:=by
 refine Has.ofE (fun _=>true) (fun _=>false) (fun _=>false) (l:=[(26,bm),(56,eg)]) ⟨cB,lA,trivial⟩ (fn:=Tryz.f81) Tryz.func81 rfl (by decide) (aZ rfl) ?_
 rintro⟨⟨(aj:List ByteArray),(ak:List Int),(an:List Int),(ao:Int),(ah:List Pt),(aq:Int),(ai:List Pt),(ar:Bool)⟩,⟨(t1:Int),(t2:Int),(t3:Int),(t4:Int),(t5:Int),(t6:Int),(t7:Int)⟩⟩ _ (hp:ij (aj,ak,an,ao,ah,aq,ai,ar) (t1,t2,t3,t4,t5,t6,t7))
 show vc _ _ _ _ (entry [.a [.vz ab aj,.vz ag ak,.vz ag an,.int ao,.vz ae ah,.int aq,.vz ae ai,.q ar],.a [.int t1,.int t2,.int t3,.int t4,.int t5,.int t6,.int t7]] []) _
 have dG:ay.rd (aj,ak,an,ao,ah,aq,ai,ar):=hp
 refine⟨aa,aa,fun w1=>?_,fun w2=>⟨⟨⟨⟨aa,aa,aa,aa,aa,aa⟩,aa⟩,aa⟩,fun x3 w4=>⟨fun w5=>?_,fun w6=>⟨aa,⟨⟨?_,?_⟩,?_,?_⟩,fun w7=>⟨⟨⟨⟨aa,aa,aa,aa,aa,aa,aa,aa,aa⟩,⟨aa,aa,aa,aa,aa,aa⟩,aa,aa⟩,?_⟩,fun x8 w9=>?_⟩,fun dq=>?_⟩⟩⟩⟩
 all_goals first|refine aw ?_|refine ax ?_|exact ba|(dsimp only [bm,cj];omega)|(dsimp only [eg,fG];omega)|exact a8|exact dG|skip
 ·refine⟨[1009],[],_,_,_,rfl,az,(),aa,?_,?_,rfl⟩
  ·(show _=gu (aj,ak,an,ao,ah,aq,ai,ar) (t1,t2,t3,t4,t5,t6,t7));unfold gu;first|(rw [I5 (s:=(aj,ak,an,ao,ah,aq,ai,ar)) (t:=(t1,t2,t3,t4,t5,t6,t7)) w1];rfl)|rfl
  ·(show _=iw (aj,ak,an,ao,ah,aq,ai,ar) (t1,t2,t3,t4,t5,t6,t7));unfold iw;first|(rw [I5 (s:=(aj,ak,an,ao,ah,aq,ai,ar)) (t:=(t1,t2,t3,t4,t5,t6,t7)) w1];rfl)|rfl
 ·refine⟨[1009],[],_,_,_,rfl,az,(),aa,?_,?_,rfl⟩
  ·(show _=gu (aj,ak,an,ao,ah,aq,ai,ar) (t1,t2,t3,t4,t5,t6,t7));unfold gu;first|(rw [z1 (s:=(aj,ak,an,ao,ah,aq,ai,ar)) (t:=(t1,t2,t3,t4,t5,t6,t7)) w5];rfl)|rfl
  ·(show _=iw (aj,ak,an,ao,ah,aq,ai,ar) (t1,t2,t3,t4,t5,t6,t7));unfold iw;first|(rw [z1 (s:=(aj,ak,an,ao,ah,aq,ai,ar)) (t:=(t1,t2,t3,t4,t5,t6,t7)) w5];rfl)|rfl
 ·have hB:=(iI (aj,ak,an,ao,ah,aq,ai,ar) (t1,t2,t3,t4,t5) 2).1
  have hM:=I4 (s:=(aj,ak,an,ao,ah,aq,ai,ar)) (t:=(t1,t2,t3,t4,t5,t6,t7)) w2 w6 w7
  refine cO (l:=[(26,bm),(56,eg)]) (ex:=fun _=>true) (wr:=fun _=>false) (pt:=fun _=>false) ⟨cB,lA,aa⟩ [.s 6,.b 320000] (fun y:Nat×List Pt=>[(.s 5,.s (.xs 1023 5 0 y.2.length)),(.s 8,.int y.1),(.b 1023,.rs ae y.2)]) (fun y=>y.1≤(bh (aj,ak,an,ao,ah,aq,ai,ar) (t1,t2,t3,t4,t5) 2).1.length∧y.2.length≤y.1+1∧y.2=(t1,t2,t3,t4,t5)::((bh (aj,ak,an,ao,ah,aq,ai,ar) (t1,t2,t3,t4,t5) 2).1.take y.1).filter (fun p=> !(au p))) (fun y=>(bh (aj,ak,an,ao,ah,aq,ai,ar) (t1,t2,t3,t4,t5) 2).1.length-y.1) (0,[(t1,t2,t3,t4,t5)]) [] ⟨ZA8 _,ZB6 _,rfl⟩ dN ?_
  rintro⟨i,out⟩ ⟨(hi:i≤(bh (aj,ak,an,ao,ah,aq,ai,ar) (t1,t2,t3,t4,t5) 2).1.length),(hlo:out.length≤i+1),(he:out=(t1,t2,t3,t4,t5)::((bh (aj,ak,an,ao,ah,aq,ai,ar) (t1,t2,t3,t4,t5) 2).1.take i).filter (fun p=> !(au p)))⟩
  have cr:decide ((i:Int)<((bh (aj,ak,an,ao,ah,aq,ai,ar) (t1,t2,t3,t4,t5) 2).1.length:Int))=true→i<(bh (aj,ak,an,ao,ah,aq,ai,ar) (t1,t2,t3,t4,t5) 2).1.length:=fun h=>by have:=aE h;omega
  refine⟨fun w1=>⟨⟨?_,?_⟩,?_,⟨⟨⟨aa,aa,aa,aa,aa,aa⟩,aa⟩,aa⟩,fun x2 w3=>⟨fun w4=>⟨⟨?_,?_⟩,?_,aa,⟨⟨?_,?_⟩,?_,?_⟩,⟨?_,?_⟩,?_⟩,fun w5=>⟨⟨?_,?_⟩,?_⟩⟩⟩,fun w6=>?_⟩
  all_goals first|refine aw ?_|refine ax ?_|exact ba|(dsimp only [bm,cj];omega)|(dsimp only [eg,fG];omega)|exact a8|exact cr w1|exact aE w1|(show out.length+1≤1048576;omega)|skip
  ·refine⟨(i+1,out++[nth ae (bh (aj,ak,an,ao,ah,aq,ai,ar) (t1,t2,t3,t4,t5) 2).1 i]),[(1023,1052)],?_,?_,?_⟩
   rotate_right
   ·exact bX
   ·exact⟨cr w1,by show List.length (_++_)≤_;rw [ZA0];show out.length+1≤i+1+1;omega,by show _=_::_;rw [aeS (l:=(bh (aj,ak,an,ao,ah,aq,ai,ar) (t1,t2,t3,t4,t5) 2).1) (cr w1) w4,he];rfl⟩
   ·show (bh (aj,ak,an,ao,ah,aq,ai,ar) (t1,t2,t3,t4,t5) 2).1.length-(i+1)<(bh (aj,ak,an,ao,ah,aq,ai,ar) (t1,t2,t3,t4,t5) 2).1.length-i;have:=cr w1;omega
  ·refine⟨(i+1,out),[],?_,?_,?_⟩
   rotate_right
   ·exact bX
   ·exact⟨cr w1,by show out.length≤i+1+1;omega,by show _=_::_;rw [aeT (l:=(bh (aj,ak,an,ao,ah,aq,ai,ar) (t1,t2,t3,t4,t5) 2).1) (cr w1) w5];exact he⟩
   ·show (bh (aj,ak,an,ao,ah,aq,ai,ar) (t1,t2,t3,t4,t5) 2).1.length-(i+1)<(bh (aj,ak,an,ao,ah,aq,ai,ar) (t1,t2,t3,t4,t5) 2).1.length-i;have:=cr w1;omega
  ·have FX:¬i<(bh (aj,ak,an,ao,ah,aq,ai,ar) (t1,t2,t3,t4,t5) 2).1.length:=by have:=aA (p:=(i:Int)<((bh (aj,ak,an,ao,ah,aq,ai,ar) (t1,t2,t3,t4,t5) 2).1.length:Int)) w6;omega
   have e:bA (aj,ak,an,ao,ah,aq,ai,ar) (t1,t2,t3,t4,t5,t6,t7)=out:=by rw [hM,he,ZD1 (by omega)]
   refine⟨[1023],[],_,_,_,rfl,az,(),aa,?_,?_,rfl⟩
   ·(show _=gu (aj,ak,an,ao,ah,aq,ai,ar) (t1,t2,t3,t4,t5,t6,t7));unfold gu;first|(rw [e];rfl)|rfl
   ·(show _=iw (aj,ak,an,ao,ah,aq,ai,ar) (t1,t2,t3,t4,t5,t6,t7));unfold iw;first|(rw [e];rfl)|rfl
 ·refine⟨[1023],[],_,_,_,rfl,az,(),aa,?_,?_,rfl⟩
  ·(show _=gu (aj,ak,an,ao,ah,aq,ai,ar) (t1,t2,t3,t4,t5,t6,t7));unfold gu;first|(rw [zZ (s:=(aj,ak,an,ao,ah,aq,ai,ar)) (t:=(t1,t2,t3,t4,t5,t6,t7)) w2 w6 dq];rfl)|rfl
  ·(show _=iw (aj,ak,an,ao,ah,aq,ai,ar) (t1,t2,t3,t4,t5,t6,t7));unfold iw;first|(rw [zZ (s:=(aj,ak,an,ao,ah,aq,ai,ar)) (t:=(t1,t2,t3,t4,t5,t6,t7)) w2 w6 dq];rfl)|rfl
def dM (s:ay) (t:bf) (d lv:Int):List Pt:=
 bif decide (t.depth≠d) then cw 4 else bif decide (lv=d) then [t.root] else bif !(bh s t.root d).2 then cw 4 else (bh s t.root d).1
theorem CF {s:ay}{t:bf}{d lv:Int}(h:decide (t.depth≠d)=true):dM s t d lv=cw 4:=by unfold dM;rw [h];rfl
theorem HY {s:ay}{t:bf}{d lv:Int}(h:decide (t.depth≠d)=false) (h2:decide (lv=d)=true):dM s t d lv=[t.root]:=by unfold dM;rw [h,h2];rfl
theorem O7 {s:ay}{t:bf}{d lv:Int}(h:decide (t.depth≠d)=false) (h2:decide (lv=d)=false) (h3:(!(bh s t.root d).2)=true):dM s t d lv=cw 4:=by unfold dM;rw [h,h2,h3];rfl
theorem HX {s:ay}{t:bf}{d lv:Int}(h:decide (t.depth≠d)=false) (h2:decide (lv=d)=false) (h3:(!(bh s t.root d).2)=false):dM s t d lv=(bh s t.root d).1:=by unfold dM;rw [h,h2,h3];rfl
def ld (S:ay) (t:bf) (d:Int) (lv:Int):Prop:=S.rd
def jN (S:ay) (t:bf) (d:Int) (lv:Int):AV:=.s (.xs 0 5 0 (dM S t d lv).length)
def l7 (S:ay) (t:bf) (d:Int) (lv:Int):List AV:=[.rs ae (dM S t d lv)]
def j1:Con where
 A:=[.a xE,.a [.int,.int,.int,.int,.int,.int,.int],.s .int,.s .int]
 B:=[]
 pre:=fun x b=>ld (x.1) (x.2.1) (x.2.2.1) (x.2.2.2)
 α:=fun _ _=>Unit
 φ:=fun _ _ _=>True
 r:=fun x b _=>jN (x.1) (x.2.1) (x.2.2.1) (x.2.2.2)
 o:=fun x b _=>l7 (x.1) (x.2.1) (x.2.2.1) (x.2.2.2)
 nf:=1
set_option maxRecDepth 100000 in
theorem wV:Has Tryz.prog 82 j1:=by
 refine Has.ofE (fun _=>true) (fun _=>false) (fun _=>false) (l:=[(78,j4),(56,eg)]) ⟨wX,lA,trivial⟩ (fn:=Tryz.f82) Tryz.func82 rfl (by decide) (aZ rfl) ?_
 rintro⟨⟨(aj:List ByteArray),(ak:List Int),(an:List Int),(ao:Int),(ah:List Pt),(aq:Int),(ai:List Pt),(ar:Bool)⟩,⟨(t1:Int),(t2:Int),(t3:Int),(t4:Int),(t5:Int),(t6:Int),(t7:Int)⟩,(d:Int),(lv:Int)⟩ _ (hp:ld (aj,ak,an,ao,ah,aq,ai,ar) (t1,t2,t3,t4,t5,t6,t7) d lv)
 show vc _ _ _ _ (entry [.a [.vz ab aj,.vz ag ak,.vz ag an,.int ao,.vz ae ah,.int aq,.vz ae ai,.q ar],.a [.int t1,.int t2,.int t3,.int t4,.int t5,.int t6,.int t7],.int d,.int lv] []) _
 have dG:ay.rd (aj,ak,an,ao,ah,aq,ai,ar):=hp
 refine⟨fun w1=>⟨⟨⟨aa,aa⟩,?_,?_⟩,fun x2 w3=>?_⟩,fun w4=>⟨fun w5=>⟨aa,?_⟩,fun w6=>⟨⟨⟨⟨aa,aa,aa,aa,aa,aa,aa,aa,aa⟩,⟨aa,aa,aa,aa,aa,aa⟩,aa,aa⟩,?_⟩,fun x7 w8=>⟨fun w9=>⟨⟨⟨aa,aa⟩,?_,?_⟩,fun x10 kk=>?_⟩,fun dI=>?_⟩⟩⟩⟩
 all_goals first|refine aw ?_|refine ax ?_|exact ba|(dsimp only [j4,lg];omega)|(dsimp only [eg,fG];omega)|exact a8|exact dG|skip
 ·refine⟨[160000],[],_,_,_,rfl,az,(),aa,?_,?_,rfl⟩
  ·(show _=jN (aj,ak,an,ao,ah,aq,ai,ar) (t1,t2,t3,t4,t5,t6,t7) d lv);unfold jN;first|(rw [CF (s:=(aj,ak,an,ao,ah,aq,ai,ar)) (t:=(t1,t2,t3,t4,t5,t6,t7)) (d:=d) (lv:=lv) w1];rfl)|rfl
  ·(show _=l7 (aj,ak,an,ao,ah,aq,ai,ar) (t1,t2,t3,t4,t5,t6,t7) d lv);unfold l7;first|(rw [CF (s:=(aj,ak,an,ao,ah,aq,ai,ar)) (t:=(t1,t2,t3,t4,t5,t6,t7)) (d:=d) (lv:=lv) w1];rfl)|rfl
 ·refine⟨[1021],[],_,_,_,rfl,az,(),aa,?_,?_,rfl⟩
  ·(show _=jN (aj,ak,an,ao,ah,aq,ai,ar) (t1,t2,t3,t4,t5,t6,t7) d lv);unfold jN;first|(rw [HY (s:=(aj,ak,an,ao,ah,aq,ai,ar)) (t:=(t1,t2,t3,t4,t5,t6,t7)) (d:=d) (lv:=lv) w4 w5];rfl)|rfl
  ·(show _=l7 (aj,ak,an,ao,ah,aq,ai,ar) (t1,t2,t3,t4,t5,t6,t7) d lv);unfold l7;first|(rw [HY (s:=(aj,ak,an,ao,ah,aq,ai,ar)) (t:=(t1,t2,t3,t4,t5,t6,t7)) (d:=d) (lv:=lv) w4 w5];rfl)|rfl
 ·trace_state
  refine⟨[330000],[],_,_,_,rfl,az,(),aa,?_,?_,rfl⟩
  ·(show _=jN (aj,ak,an,ao,ah,aq,ai,ar) (t1,t2,t3,t4,t5,t6,t7) d lv);unfold jN;first|(rw [O7 (s:=(aj,ak,an,ao,ah,aq,ai,ar)) (t:=(t1,t2,t3,t4,t5,t6,t7)) (d:=d) (lv:=lv) w4 w6 w9];rfl)|rfl
  ·(show _=l7 (aj,ak,an,ao,ah,aq,ai,ar) (t1,t2,t3,t4,t5,t6,t7) d lv);unfold l7;first|(rw [O7 (s:=(aj,ak,an,ao,ah,aq,ai,ar)) (t:=(t1,t2,t3,t4,t5,t6,t7)) (d:=d) (lv:=lv) w4 w6 w9];rfl)|rfl
 ·refine⟨[280000],[],_,_,_,rfl,az,(),aa,?_,?_,rfl⟩
  ·(show _=jN (aj,ak,an,ao,ah,aq,ai,ar) (t1,t2,t3,t4,t5,t6,t7) d lv);unfold jN;first|(rw [HX (s:=(aj,ak,an,ao,ah,aq,ai,ar)) (t:=(t1,t2,t3,t4,t5,t6,t7)) (d:=d) (lv:=lv) w4 w6 dI];rfl)|rfl
  ·(show _=l7 (aj,ak,an,ao,ah,aq,ai,ar) (t1,t2,t3,t4,t5,t6,t7) d lv);unfold l7;first|(rw [HX (s:=(aj,ak,an,ao,ah,aq,ai,ar)) (t:=(t1,t2,t3,t4,t5,t6,t7)) (d:=d) (lv:=lv) w4 w6 dI];rfl)|rfl
end GL
namespace GL
def ptrEq (p q:Pt):Bool:=decide (p.1=q.1)&&(decide (p.2.1=q.2.1)&&(decide (p.2.2.1=q.2.2.1)&&(decide (p.2.2.2.1=q.2.2.2.1)&&decide (p.2.2.2.2=q.2.2.2.2))))
theorem si {p q:Pt}:ptrEq p q=true↔p=q:=by
 unfold ptrEq
 simp only [ZB0,decide_eq_true_eq]
 constructor
 ·rintro⟨h1,h2,h3,h4,h5⟩
  obtain⟨a,b,c,d,e⟩:=p
  obtain⟨a',b',c',d',e'⟩:=q
  simp only at h1 h2 h3 h4 h5
  subst h1 h2 h3 h4 h5;rfl
 ·rintro rfl;exact⟨rfl,rfl,rfl,rfl,rfl⟩
def CB:Nat→List Pt→List Pt
 |0,l=>l
 |f+1,l=>bif decide ((l.length:Int) % 4≠0) then CB f (l++[bO]) else l
def eM (l:List Pt):List Pt:=CB 4 l
theorem adh {f:Nat}{l:List Pt}(h:decide ((l.length:Int) % 4≠0)=true):CB (f+1) l=CB f (l++[bO]):=by rw [CB,h];rfl
theorem adi {f:Nat}{l:List Pt}(h:decide ((l.length:Int) % 4≠0)=false):CB f l=l:=by
 cases f with
 |zero=>rfl
 |succ f=>rw [CB,h];rfl
theorem SA:∀(f:Nat) (l:List Pt),4≤f+(l.length % 4)∨l.length % 4=0→(CB f l).length=(l.length+3) / 4*4
 |0,l,h=>by show l.length=_;omega
 |f+1,l,h=>by
  unfold CB
  cases hd:decide ((l.length:Int) % 4≠0) with
  |true=>
   have:=aE hd
   rw [cond_true,SA f _ (by rw [ZA0];show 4≤f+(l.length+1) % 4∨(l.length+1) % 4=0;omega),ZA0]
   show (l.length+1+3) / 4*4=_;omega
  |false=>
   have:=aA hd
   rw [cond_false];omega
theorem HQ (l:List Pt):(eM l).length=(l.length+3) / 4*4:=SA 4 l (by omega)
def qS (l:List Pt) (i:Nat):List Pt:=(l.drop (0+((i:Int)*4).toNat)).take ((((i:Int)+1)*4).toNat-((i:Int)*4).toNat)
def fJ:Nat→ay→Int→List Pt→List Pt→Nat→List Pt→List Pt→ay×Option (List Pt×List Pt)
 |0,s,_,_,_,_,next,stays=>(s,some (next,stays))
 |f+1,s,lv,kc,l,i,next,stays=>
  bif decide ((i:Int)*4<l.length) then
   (bif !(ef s (qS l i) lv (nth ae kc i)).2.2 then ((ef s (qS l i) lv (nth ae kc i)).1,none) else
    fJ f (ef s (qS l i) lv (nth ae kc i)).1 lv kc l (i+1) (next++[(ef s (qS l i) lv (nth ae kc i)).2.1])
     (bif ptrEq (ef s (qS l i) lv (nth ae kc i)).2.1 (nth ae kc i) then stays++[(ef s (qS l i) lv (nth ae kc i)).2.1] else stays))
  else (s,some (next,stays))
def my:Nat→ay→bf→Int→Int→List Pt→List Pt→ay×Option (List Pt×List Pt)
 |0,s,_,_,_,l,stays=>(s,some (l,stays))
 |f+1,s,t,d,lv,l,stays=>bif decide (lv≤d) then
   (match fJ 5 s lv (dM s t d lv) (eM l) 0 [] stays with
    |(s',none)=>(s',none)
    |(s',some (n,st))=>my f s' t d (lv+1) n st)
  else (s,some (l,stays))
def gZ (stays:List Pt) (o:Pt):Bool:=stays.any fun q=>ptrEq q o
def dY:List Pt→List Pt→ay→ay
 |[],_,s=>s
 |o::l,stays,s=>dY l stays (bif gZ stays o then s else cN s o)
def rootOf (l:List Pt):Pt:=bif decide ((l.length:Int)>0) then nth ae l 0 else bO
def L9 (p:Pt) (d many:Int):bf:=(p.1,p.2.1,p.2.2.1,p.2.2.2.1,p.2.2.2.2,d,many)
def nF:bf:=(0,0,0,0,0,0,0)
def ak1 (s0:ay) (t:bf) (many:Int):ay×Option (List Pt×List Pt)→ay×bf×Bool
 |(s',none)=>(s',nF,false)
 |(s',some (l,stays))=>(dY (bA s0 t) stays s',L9 (rootOf l) (bl many) many,true)
def bS (s:ay) (t:bf) (leaves:List Pt) (many:Int):ay×bf×Bool:=ak1 s t many (my 3 s t (bl many) 1 (leaves.take many.toNat) [])
def trA (t:bf):A0:=.a [.int t.1,.int t.2.1,.int t.2.2.1,.int t.2.2.2.1,.int t.2.2.2.2.1,.int t.2.2.2.2.2.1,.int t.2.2.2.2.2.2]
structure ay.wf (s:ay):Prop where
 n:s.n64
 sz:∀x∈s.rows,x.size≤1000000
theorem ay.wf.rd {s:ay}(h:s.wf):s.rd:=⟨h.n.1,h.sz⟩
theorem VI {l:List ByteArray}{k:Nat}{x:ByteArray}(h:∀y∈l,y.size≤1000000) (hx:x.size≤1000000):∀y∈l.set k x,y.size≤1000000:=by
 intro y hy
 rcases List.mem_or_eq_of_mem_set hy with h1 |h1
 ·exact h y h1
 ·rw [h1];exact hx
theorem jL (s:ay) (text:ByteArray) (lv:Int):(bg s text lv).2.2=false∧(bg s text lv).1=s∨∃k:Nat,(bg s text lv).2.2=true∧(bg s text lv).1=uT s text k∧text.size≤128:=by
 unfold bg
 cases hd:decide (db s text lv<0) with
 |true=>exact .inl ⟨rfl,rfl⟩
 |false=>
  cases ho:(gx (db s text lv) s.ck lv text).2 with
  |false=>exact .inl ⟨rfl,rfl⟩
  |true=>
   refine .inr ⟨(db s text lv).toNat,rfl,rfl,?_⟩
   unfold gx at ho
   cases hc:iC text.size 1 128&&a6 (db s text lv,s.ck,text.size,qR text,lv) with
   |true=>
    simp only [ZB0] at hc
    have:=cz.1 hc.1
    omega
   |false=>rw [hc] at ho;cases ho
theorem A6 {s:ay}{text:ByteArray}{lv:Int}(h:s.wf):(bg s text lv).1.wf:=by
 rcases jL s text lv with ⟨_,e⟩ |⟨k,_,e,hs⟩
 ·rw [e];exact h
 ·rw [e]
  exact⟨⟨by show (List.set _ _ _).length=64;rw [ZC3];exact h.n.1,by show (List.set _ _ _).length=64;rw [ZC3];exact h.n.2.1,by show (List.set _ _ _).length=64;rw [ZC3];exact h.n.2.2⟩,VI h.sz (by omega)⟩
theorem P4 {s:ay}{l:List Pt}{lv:Int}{o:Pt}(h:s.wf):(ef s l lv o).1.wf:=by
 unfold ef
 cases ob l with
 |true=>exact h
 |false=>
  cases fE s l o with
  |true=>exact h
  |false=>exact A6 h
theorem acq {s:ay}{l:List Pt}{lv:Int}{o:Pt}(h:(ef s l lv o).2.2=false):(ef s l lv o).1=s:=by
 unfold ef at h ⊢
 cases hn:ob l with
 |true=>rw [hn] at h;cases h
 |false=>
  rw [hn,cond_false] at h
  show (bif fE s l o then (s,o,true) else bg s (bG l).1 lv).1=s
  cases hk:fE s l o with
  |true=>rw [hk] at h;cases h
  |false=>
   rw [hk,cond_false] at h
   show (bg s (bG l).1 lv).1=s
   rcases jL s (bG l).1 lv with ⟨_,e⟩ |⟨k,e,_⟩
   ·exact e
   ·rw [e] at h;cases h
theorem DC (s:ay) (l:List Pt) (lv:Int) (o:Pt):(ef s l lv o).1.gone=s.gone∧(ef s l lv o).1.dead=s.dead∧(ef s l lv o).1.ck=s.ck∧(ef s l lv o).1.bY=s.bY∧(ef s l lv o).1.same=s.same:=by
 unfold ef
 cases ob l with
 |true=>exact⟨rfl,rfl,rfl,rfl,rfl⟩
 |false=>
  cases fE s l o with
  |true=>exact⟨rfl,rfl,rfl,rfl,rfl⟩
  |false=>
   show (bg s (bG l).1 lv).1.gone=_∧_
   rcases jL s (bG l).1 lv with ⟨_,e⟩ |⟨k,_,e,_⟩
   ·rw [cond_false,cond_false,e];exact⟨rfl,rfl,rfl,rfl,rfl⟩
   ·rw [cond_false,cond_false,e];exact⟨rfl,rfl,rfl,rfl,rfl⟩
theorem qw {s:ay}{p:Pt}(h:s.wf):(cN s p).wf:=by
 unfold cN
 cases au p with
 |true=>exact h
 |false=>
  cases decide (p.2.1≤s.bY) with
  |true=>exact⟨h.n,h.sz⟩
  |false=>
   cases decide (p.2.1<s.ck) with
   |true=>exact⟨h.n,h.sz⟩
   |false=>
    show (gf s p.1.toNat).wf
    have hl:=xl s p.1.toNat
    refine⟨⟨hl.1.trans h.n.1,hl.2.1.trans h.n.2.1,hl.2.2.trans h.n.2.2⟩,?_⟩
    show∀x∈(bif uI s p.1.toNat then s.rows.set p.1.toNat ByteArray.empty else s.rows),_
    cases uI s p.1.toNat with
    |true=>exact VI h.sz (ZA8 _)
    |false=>exact h.sz
theorem pv (s:ay) (p:Pt):(cN s p).gone.length≤s.gone.length+1∧(cN s p).dead.length≤s.dead.length+1:=by
 unfold cN
 cases au p with
 |true=>exact⟨Nat.le_succ _,Nat.le_succ _⟩
 |false=>
  cases decide (p.2.1≤s.bY) with
  |true=>exact⟨Nat.le_succ _,by show (s.dead++[p]).length≤_;rw [ZA0];exact ZB6 _⟩
  |false=>
   cases decide (p.2.1<s.ck) with
   |true=>exact⟨by show (s.gone++[p]).length≤_;rw [ZA0];exact ZB6 _,Nat.le_succ _⟩
   |false=>exact⟨Nat.le_succ _,Nat.le_succ _⟩
theorem ZP {s:ay}{t:bf}{d lv:Int}(h:t.rd):∀q∈dM s t d lv,a6 q=true:=by
 unfold dM
 cases decide (t.depth≠d) with
 |true=>exact xc 4
 |false=>
  cases decide (lv=d) with
  |true=>
   intro q hq
   simp only [cond_false,cond_true,ZB9,ZF3,or_false] at hq
   subst hq;exact h.ok
  |false=>
   cases !(bh s t.root d).2 with
   |true=>exact xc 4
   |false=>exact sU s t.root d
theorem adA (s:ay) (t:bf) (d lv:Int):1≤(dM s t d lv).length∧(lv≠d→(dM s t d lv).length=4)∧(dM s t d lv).length≤4:=by
 unfold dM
 cases decide (t.depth≠d) with
 |true=>exact⟨by show 1≤4;omega,fun _=>rfl,ZB6 _⟩
 |false=>
  cases hd:decide (lv=d) with
  |true=>exact⟨ZB6 _,fun h=>absurd (aE hd) h,by show 1≤4;omega⟩
  |false=>
   cases hb: !(bh s t.root d).2 with
   |true=>exact⟨by show 1≤4;omega,fun _=>rfl,ZB6 _⟩
   |false=>
    have:=(iI s t.root d).2 (cI hb)
    show 1≤(bh s t.root d).1.length∧(_→(bh s t.root d).1.length=4)∧(bh s t.root d).1.length≤4
    omega
theorem MW {s:ay}{t:bf}(h:t.rd):∀q∈bA s t,a6 q=true:=by
 unfold bA
 cases decide (t.depth=0)||au t.root with
 |true=>intro q hq;cases hq
 |false=>
  cases decide (t.depth=2) with
  |true=>
   intro q hq
   rcases ZB9.1 hq with hq |hq
   ·rw [hq];exact h.ok
   ·exact sU s t.root 2 q (ZF6.1 hq).1
  |false=>
   intro q hq
   simp only [cond_false,ZB9,ZF3,or_false] at hq
   subst hq;exact h.ok
theorem I3 (s:ay) (t:bf):(bA s t).length≤5:=by
 unfold bA
 cases decide (t.depth=0)||au t.root with
 |true=>exact ZA8 _
 |false=>
  cases decide (t.depth=2) with
  |true=>
   have h1:=(iI s t.root 2).1
   have h2:=List.length_filter_le (fun p=> !(au p)) (bh s t.root 2).1
   show (t.root::(bh s t.root 2).1.filter (fun p=> !(au p))).length≤5
   rw [ZA1];omega
  |false=>show 1≤5;omega
end GL
end Go.Proofs.YtbfgjadbfjkcdaaGreatDoor
