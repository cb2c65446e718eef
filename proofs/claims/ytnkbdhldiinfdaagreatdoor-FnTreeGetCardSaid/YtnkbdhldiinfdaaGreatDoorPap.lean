/- A drawn law returns true for every code (its row lists package variables, tied by the card): part 16. -/
import Derived.Test.YtnkbdhldiinfdaaGreatDoorPao
set_option maxHeartbeats 20000000
set_option maxRecDepth 100000
set_option linter.all false
namespace Go.Proofs.YtnkbdhldiinfdaaGreatDoor
namespace GL
def A1 (s:ay) (text:ByteArray) (level:Int):Int:=bif s.same&&decide (level=0) then re s text else -1
def da (s:ay) (text:ByteArray) (level:Int):Int:=bif decide (A1 s text level<0) then oe s.refs else A1 s text level
def uO (s:ay) (text:ByteArray) (k:Nat):ay:=
 (s.rows.set k text,s.refs.set k (xu (nth ag s.refs k+1)),s.last.set k s.cg,s.cg,s.gone,s.bZ,s.dead,s.same)
def bd (s:ay) (text:ByteArray) (level:Int):ay×Pt×Bool:=
 bif decide (da s text level<0) then (s,bM,false)
 else bif (gv (da s text level) s.cg level text).2 then (uO s text (da s text level).toNat,(gv (da s text level) s.cg level text).1,true)
 else (s,bM,false)
theorem wo {s:ay}{text:ByteArray}{level:Int}(h1:s.same=true) (h2:decide (level=0)=true) (h3:decide (re s text<0)=true):da s text level=oe s.refs:=by
 unfold da A1;rw [h1,h2,show (true&&true)=true from rfl,cond_true,h3];rfl
theorem AZ {s:ay}{text:ByteArray}{level:Int}(h1:s.same=true) (h2:decide (level=0)=true) (h3:decide (re s text<0)=false):da s text level=re s text:=by
 unfold da A1;rw [h1,h2,show (true&&true)=true from rfl,cond_true,h3];rfl
theorem wm {s:ay}{text:ByteArray}{level:Int}(h2:decide (level=0)=false):da s text level=oe s.refs:=by
 unfold da A1;rw [h2,ZD7];rfl
theorem wk {s:ay}{text:ByteArray}{level:Int}(h1:s.same=false):da s text level=oe s.refs:=by
 unfold da A1;rw [h1,Bool.false_and];rfl
theorem nA {s:ay}{text:ByteArray}{level a:Int}(e:da s text level=a) (h:decide (a<0)=true):bd s text level=(s,bM,false):=by
 unfold bd;rw [e,h];rfl
theorem mz {s:ay}{text:ByteArray}{level a:Int}(e:da s text level=a) (h:decide (a<0)=false) (h2:(!(gv a s.cg level text).2)=true):bd s text level=(s,bM,false):=by
 unfold bd;rw [e,h,KA h2];rfl
theorem o8 {s:ay}{text:ByteArray}{level a:Int}(e:da s text level=a) (h:decide (a<0)=false) (h2:(!(gv a s.cg level text).2)=false):bd s text level=(uO s text a.toNat,(gv a s.cg level text).1,true):=by
 unfold bd;rw [e,h,oH h2];rfl
def nM (S:ay) (text:ByteArray) (level:Int):Prop:=S.n64∧(text.size:Int)≤1000000000000
def QZ (S:ay) (text:ByteArray) (level:Int):AV:=.t [.a (kW 0 1 2 3 4 (bd S text level).1),ptA (bd S text level).2.1,.s (.q (bd S text level).2.2)]
def V0 (S:ay) (text:ByteArray) (level:Int):List AV:=GF (bd S text level).1
def nb:cn where
 A:=[.a (stB 0 1 2 3 4),.s .str,.s .int]
 B:=[.r ab,.r ag,.r ag,.r ae,.r ae]
 pre:=fun x b=>stW x.1 b∧nM (gP x.1 b) (x.2.1) (x.2.2)
 r:=fun x b _=>QZ (gP x.1 b) (x.2.1) (x.2.2)
 o:=fun x b _=>V0 (gP x.1 b) (x.2.1) (x.2.2)
theorem CQ:Has Tryz.prog 93 nb:=by
 refine Has.fm zT (fun d=>Nat.beq d 59) zF (l:=[(141,JY),(142,J0),(98,o0)]) ⟨adT,adX,FJ,aa⟩ Tryz.func93 ?_
 rintro⟨⟨(AU:Nat),(AT:Nat),(AS:Nat),(ao:Int),(AR:Nat),(aq:Int),(AQ:Nat),(ar:Bool)⟩,(text:ByteArray),(level:Int)⟩ ⟨(aj:List ByteArray),(ak:List Int),(an:List Int),(ah:List Pt),(ai:List Pt)⟩ ⟨⟨(gC:AU=List.length aj),(gB:AT=List.length ak),(gA:AS=List.length an),(gz:AR=List.length ah),(gy:AQ=List.length ai)⟩,(hp:nM (aj,ak,an,ao,ah,aq,ai,ar) text level)⟩
 subst gC gB gA gz gy
 show vc _ _ _ _ (entry [.a [.xs 0 1 0 aj.length,.xs 1 1 0 ak.length,.xs 2 1 0 an.length,.int ao,.xs 3 5 0 ah.length,.int aq,.xs 4 5 0 ai.length,.q ar],.str text,.int level] [.rs ab aj,.rs ag ak,.rs ag an,.rs ae ah,.rs ae ai]) _
 obtain⟨⟨l1,l2,l3⟩,hs⟩:=hp
 dsimp only [ay.rows,ay.refs,ay.last] at l1 l2 l3
 have hL:=SX (aj,ak,an,ao,ah,aq,ai,ar) text
 have hF:=T1 ak
 refine⟨aa,fun w1=>⟨fun w2=>⟨⟨⟨⟨⟨?_,?_⟩,⟨?_,?_⟩,⟨?_,?_⟩,aa,⟨?_,?_⟩,aa,⟨?_,?_⟩,tv2⟩,tv2⟩,?_,?_,?_⟩,fun x3 w4=>⟨fun w5=>⟨aa,⟨⟨⟨⟨?_,?_⟩,⟨?_,?_⟩,aa⟩,aa,⟨?_,?_⟩,aa⟩,?_,?_,?_⟩,fun x6 w7=>⟨fun w8=>?_,fun w9=>⟨⟨tv5,?_⟩,fun x10 kA=>⟨fun dJ=>?_,fun iU=>⟨⟨?_,?_⟩,?_,Sq3,Sq49,rfl,Sq49,Sq50,rfl,[.s 50,.b 1003],Sq51,rfl,Sq9,Sq52,rfl,Sq3,Sq53,rfl,Sq53,Sq54,rfl,[.s 54,.b 1003],Sq55,rfl,Sq9,Sq56,rfl,[.s 55,.s 56],Sq57,rfl,⟨?_,?_⟩,[.s 57,.b 1],Sq58,rfl,?_,Sq58,Sq59,rfl,[.s 51,.s 52],Sq60,rfl,⟨?_,?_⟩,[.s 60,.s 59,.b 1],[.b 1],rfl,?_,⟨?_,?_⟩,?_,[.s 3,.b 1003],Sq68,rfl,[.s 10,.b 1010],Sq69,rfl,[.s 6,.s 68,.b 1006],[.b 1006],rfl,[.s 7,.s 69,.b 1007],[.b 1007],rfl,[],Sq8,rfl,?_⟩⟩⟩⟩⟩,fun gO=>⟨fun qK=>?_,fun kg=>⟨⟨tv5,?_⟩,fun x17 rS=>⟨fun oL=>?_,fun uI=>⟨⟨?_,?_⟩,?_,Sq3,Sq49,rfl,Sq49,Sq50,rfl,[.s 50,.b 1003],Sq51,rfl,Sq9,Sq52,rfl,Sq3,Sq53,rfl,Sq53,Sq54,rfl,[.s 54,.b 1003],Sq55,rfl,Sq9,Sq56,rfl,[.s 55,.s 56],Sq57,rfl,⟨?_,?_⟩,[.s 57,.b 1],Sq58,rfl,?_,Sq58,Sq59,rfl,[.s 51,.s 52],Sq60,rfl,⟨?_,?_⟩,[.s 60,.s 59,.b 1],[.b 1],rfl,?_,⟨?_,?_⟩,?_,[.s 3,.b 1003],Sq68,rfl,[.s 10,.b 1010],Sq69,rfl,[.s 6,.s 68,.b 1006],[.b 1006],rfl,[.s 7,.s 69,.b 1007],[.b 1007],rfl,[],Sq8,rfl,?_⟩⟩⟩⟩⟩⟩,fun A4=>⟨fun A3=>⟨aa,⟨⟨⟨⟨?_,?_⟩,⟨?_,?_⟩,aa⟩,aa,⟨?_,?_⟩,aa⟩,?_,?_,?_⟩,fun x23 rR=>⟨fun w25=>?_,fun w26=>⟨⟨tv5,?_⟩,fun x27 w28=>⟨fun w29=>?_,fun w30=>⟨⟨?_,?_⟩,?_,Sq3,Sq49,rfl,Sq49,Sq50,rfl,[.s 50,.b 1003],Sq51,rfl,Sq9,Sq52,rfl,Sq3,Sq53,rfl,Sq53,Sq54,rfl,[.s 54,.b 1003],Sq55,rfl,Sq9,Sq56,rfl,[.s 55,.s 56],Sq57,rfl,⟨?_,?_⟩,[.s 57,.b 1],Sq58,rfl,?_,Sq58,Sq59,rfl,[.s 51,.s 52],Sq60,rfl,⟨?_,?_⟩,[.s 60,.s 59,.b 1],[.b 1],rfl,?_,⟨?_,?_⟩,?_,[.s 3,.b 1003],Sq68,rfl,[.s 10,.b 1010],Sq69,rfl,[.s 6,.s 68,.b 1006],[.b 1006],rfl,[.s 7,.s 69,.b 1007],[.b 1007],rfl,[],Sq8,rfl,?_⟩⟩⟩⟩⟩,fun w31=>⟨fun w32=>?_,fun w33=>⟨⟨tv5,?_⟩,fun x34 w35=>⟨fun w36=>?_,fun w37=>⟨⟨?_,?_⟩,?_,Sq3,Sq49,rfl,Sq49,Sq50,rfl,[.s 50,.b 1003],Sq51,rfl,Sq9,Sq52,rfl,Sq3,Sq53,rfl,Sq53,Sq54,rfl,[.s 54,.b 1003],Sq55,rfl,Sq9,Sq56,rfl,[.s 55,.s 56],Sq57,rfl,⟨?_,?_⟩,[.s 57,.b 1],Sq58,rfl,?_,Sq58,Sq59,rfl,[.s 51,.s 52],Sq60,rfl,⟨?_,?_⟩,[.s 60,.s 59,.b 1],[.b 1],rfl,?_,⟨?_,?_⟩,?_,[.s 3,.b 1003],Sq68,rfl,[.s 10,.b 1010],Sq69,rfl,[.s 6,.s 68,.b 1006],[.b 1006],rfl,[.s 7,.s 69,.b 1007],[.b 1007],rfl,[],Sq8,rfl,?_⟩⟩⟩⟩⟩⟩,fun w38=>⟨fun w39=>⟨aa,⟨⟨⟨⟨?_,?_⟩,⟨?_,?_⟩,aa⟩,aa,⟨?_,?_⟩,aa⟩,?_,?_,?_⟩,fun x40 w41=>⟨fun w42=>?_,fun w43=>⟨⟨tv5,?_⟩,fun x44 w45=>⟨fun w46=>?_,fun w47=>⟨⟨?_,?_⟩,?_,Sq3,Sq49,rfl,Sq49,Sq50,rfl,[.s 50,.b 1003],Sq51,rfl,Sq9,Sq52,rfl,Sq3,Sq53,rfl,Sq53,Sq54,rfl,[.s 54,.b 1003],Sq55,rfl,Sq9,Sq56,rfl,[.s 55,.s 56],Sq57,rfl,⟨?_,?_⟩,[.s 57,.b 1],Sq58,rfl,?_,Sq58,Sq59,rfl,[.s 51,.s 52],Sq60,rfl,⟨?_,?_⟩,[.s 60,.s 59,.b 1],[.b 1],rfl,?_,⟨?_,?_⟩,?_,[.s 3,.b 1003],Sq68,rfl,[.s 10,.b 1010],Sq69,rfl,[.s 6,.s 68,.b 1006],[.b 1006],rfl,[.s 7,.s 69,.b 1007],[.b 1007],rfl,[],Sq8,rfl,?_⟩⟩⟩⟩⟩,fun w48=>⟨fun w49=>?_,fun w50=>⟨⟨tv5,?_⟩,fun x51 w52=>⟨fun w53=>?_,fun w54=>⟨⟨?_,?_⟩,?_,Sq3,Sq49,rfl,Sq49,Sq50,rfl,[.s 50,.b 1003],Sq51,rfl,Sq9,Sq52,rfl,Sq3,Sq53,rfl,Sq53,Sq54,rfl,[.s 54,.b 1003],Sq55,rfl,Sq9,Sq56,rfl,[.s 55,.s 56],Sq57,rfl,⟨?_,?_⟩,[.s 57,.b 1],Sq58,rfl,?_,Sq58,Sq59,rfl,[.s 51,.s 52],Sq60,rfl,⟨?_,?_⟩,[.s 60,.s 59,.b 1],[.b 1],rfl,?_,⟨?_,?_⟩,?_,[.s 3,.b 1003],Sq68,rfl,[.s 10,.b 1010],Sq69,rfl,[.s 6,.s 68,.b 1006],[.b 1006],rfl,[.s 7,.s 69,.b 1007],[.b 1007],rfl,[],Sq8,rfl,?_⟩⟩⟩⟩⟩⟩
 all_goals first|(exfalso;simp only [decide_eq_true_eq,decide_eq_false_iff_not] at *;omega)|refine aw ?_|refine ax ?_|exact a8|(dsimp only [JY,ye,J0,yh,o0,mM];omega)|exact a7|exact ZH1.1 (aA (by assumption))|(show (text.size:Int)≤1000000000000;omega)|(simp only [dC,lx,decide_eq_true_eq,decide_eq_false_iff_not,ZC3] at *;omega)|skip
 ·have e:=nA (wo (s:=(aj,ak,an,ao,ah,aq,ai,ar)) (text:=text) w1 w2 w5) w8
  refine⟨[],[],_,_,_,rfl,az,(),aa,?_,?_,rfl⟩
  ·show _=AV.t [.a (kW 0 1 2 3 4 (bd (aj,ak,an,ao,ah,aq,ai,ar) text level).1),ptA (bd (aj,ak,an,ao,ah,aq,ai,ar) text level).2.1,.s (.q (bd (aj,ak,an,ao,ah,aq,ai,ar) text level).2.2)]
   rw [e];rfl
  ·show _=GF (bd (aj,ak,an,ao,ah,aq,ai,ar) text level).1
   rw [e];rfl
 ·have e:=mz (wo (s:=(aj,ak,an,ao,ah,aq,ai,ar)) (text:=text) w1 w2 w5) w9 dJ
  refine⟨[],[],_,_,_,rfl,az,(),aa,?_,?_,rfl⟩
  ·show _=AV.t [.a (kW 0 1 2 3 4 (bd (aj,ak,an,ao,ah,aq,ai,ar) text level).1),ptA (bd (aj,ak,an,ao,ah,aq,ai,ar) text level).2.1,.s (.q (bd (aj,ak,an,ao,ah,aq,ai,ar) text level).2.2)]
   rw [e];rfl
  ·show _=GF (bd (aj,ak,an,ao,ah,aq,ai,ar) text level).1
   rw [e];rfl
 ·have e:=o8 (wo (s:=(aj,ak,an,ao,ah,aq,ai,ar)) (text:=text) w1 w2 w5) w9 iU
  refine⟨[],[],_,_,_,rfl,az,(),aa,?_,?_,rfl⟩
  ·show _=AV.t [.a (kW 0 1 2 3 4 (bd (aj,ak,an,ao,ah,aq,ai,ar) text level).1),ptA (bd (aj,ak,an,ao,ah,aq,ai,ar) text level).2.1,.s (.q (bd (aj,ak,an,ao,ah,aq,ai,ar) text level).2.2)]
   rw [e]
   exact congrArg (fun l=>AV.t [A0.a l,_,_]) (uU (s:=uO (aj,ak,an,ao,ah,aq,ai,ar) text _) ZC3.symm ZC3.symm ZC3.symm rfl rfl rfl rfl rfl)
  ·show _=GF (bd (aj,ak,an,ao,ah,aq,ai,ar) text level).1
   rw [e];rfl
 ·have e:=mz (AZ (s:=(aj,ak,an,ao,ah,aq,ai,ar)) (text:=text) w1 w2 gO) kg oL
  refine⟨[],[],_,_,_,rfl,az,(),aa,?_,?_,rfl⟩
  ·show _=AV.t [.a (kW 0 1 2 3 4 (bd (aj,ak,an,ao,ah,aq,ai,ar) text level).1),ptA (bd (aj,ak,an,ao,ah,aq,ai,ar) text level).2.1,.s (.q (bd (aj,ak,an,ao,ah,aq,ai,ar) text level).2.2)]
   rw [e];rfl
  ·show _=GF (bd (aj,ak,an,ao,ah,aq,ai,ar) text level).1
   rw [e];rfl
 ·have e:=o8 (AZ (s:=(aj,ak,an,ao,ah,aq,ai,ar)) (text:=text) w1 w2 gO) kg uI
  refine⟨[],[],_,_,_,rfl,az,(),aa,?_,?_,rfl⟩
  ·show _=AV.t [.a (kW 0 1 2 3 4 (bd (aj,ak,an,ao,ah,aq,ai,ar) text level).1),ptA (bd (aj,ak,an,ao,ah,aq,ai,ar) text level).2.1,.s (.q (bd (aj,ak,an,ao,ah,aq,ai,ar) text level).2.2)]
   rw [e]
   exact congrArg (fun l=>AV.t [A0.a l,_,_]) (uU (s:=uO (aj,ak,an,ao,ah,aq,ai,ar) text _) ZC3.symm ZC3.symm ZC3.symm rfl rfl rfl rfl rfl)
  ·show _=GF (bd (aj,ak,an,ao,ah,aq,ai,ar) text level).1
   rw [e];rfl
 ·have e:=nA (wm (s:=(aj,ak,an,ao,ah,aq,ai,ar)) (text:=text) A4) w25
  refine⟨[],[],_,_,_,rfl,az,(),aa,?_,?_,rfl⟩
  ·show _=AV.t [.a (kW 0 1 2 3 4 (bd (aj,ak,an,ao,ah,aq,ai,ar) text level).1),ptA (bd (aj,ak,an,ao,ah,aq,ai,ar) text level).2.1,.s (.q (bd (aj,ak,an,ao,ah,aq,ai,ar) text level).2.2)]
   rw [e];rfl
  ·show _=GF (bd (aj,ak,an,ao,ah,aq,ai,ar) text level).1
   rw [e];rfl
 ·have e:=mz (wm (s:=(aj,ak,an,ao,ah,aq,ai,ar)) (text:=text) A4) w26 w29
  refine⟨[],[],_,_,_,rfl,az,(),aa,?_,?_,rfl⟩
  ·show _=AV.t [.a (kW 0 1 2 3 4 (bd (aj,ak,an,ao,ah,aq,ai,ar) text level).1),ptA (bd (aj,ak,an,ao,ah,aq,ai,ar) text level).2.1,.s (.q (bd (aj,ak,an,ao,ah,aq,ai,ar) text level).2.2)]
   rw [e];rfl
  ·show _=GF (bd (aj,ak,an,ao,ah,aq,ai,ar) text level).1
   rw [e];rfl
 ·have e:=o8 (wm (s:=(aj,ak,an,ao,ah,aq,ai,ar)) (text:=text) A4) w26 w30
  refine⟨[],[],_,_,_,rfl,az,(),aa,?_,?_,rfl⟩
  ·show _=AV.t [.a (kW 0 1 2 3 4 (bd (aj,ak,an,ao,ah,aq,ai,ar) text level).1),ptA (bd (aj,ak,an,ao,ah,aq,ai,ar) text level).2.1,.s (.q (bd (aj,ak,an,ao,ah,aq,ai,ar) text level).2.2)]
   rw [e]
   exact congrArg (fun l=>AV.t [A0.a l,_,_]) (uU (s:=uO (aj,ak,an,ao,ah,aq,ai,ar) text _) ZC3.symm ZC3.symm ZC3.symm rfl rfl rfl rfl rfl)
  ·show _=GF (bd (aj,ak,an,ao,ah,aq,ai,ar) text level).1
   rw [e];rfl
 ·have e:=nA (wk (s:=(aj,ak,an,ao,ah,aq,ai,ar)) (text:=text) (level:=level) w38) w42
  refine⟨[],[],_,_,_,rfl,az,(),aa,?_,?_,rfl⟩
  ·show _=AV.t [.a (kW 0 1 2 3 4 (bd (aj,ak,an,ao,ah,aq,ai,ar) text level).1),ptA (bd (aj,ak,an,ao,ah,aq,ai,ar) text level).2.1,.s (.q (bd (aj,ak,an,ao,ah,aq,ai,ar) text level).2.2)]
   rw [e];rfl
  ·show _=GF (bd (aj,ak,an,ao,ah,aq,ai,ar) text level).1
   rw [e];rfl
 ·have e:=mz (wk (s:=(aj,ak,an,ao,ah,aq,ai,ar)) (text:=text) (level:=level) w38) w43 w46
  refine⟨[],[],_,_,_,rfl,az,(),aa,?_,?_,rfl⟩
  ·show _=AV.t [.a (kW 0 1 2 3 4 (bd (aj,ak,an,ao,ah,aq,ai,ar) text level).1),ptA (bd (aj,ak,an,ao,ah,aq,ai,ar) text level).2.1,.s (.q (bd (aj,ak,an,ao,ah,aq,ai,ar) text level).2.2)]
   rw [e];rfl
  ·show _=GF (bd (aj,ak,an,ao,ah,aq,ai,ar) text level).1
   rw [e];rfl
 ·have e:=o8 (wk (s:=(aj,ak,an,ao,ah,aq,ai,ar)) (text:=text) (level:=level) w38) w43 w47
  refine⟨[],[],_,_,_,rfl,az,(),aa,?_,?_,rfl⟩
  ·show _=AV.t [.a (kW 0 1 2 3 4 (bd (aj,ak,an,ao,ah,aq,ai,ar) text level).1),ptA (bd (aj,ak,an,ao,ah,aq,ai,ar) text level).2.1,.s (.q (bd (aj,ak,an,ao,ah,aq,ai,ar) text level).2.2)]
   rw [e]
   exact congrArg (fun l=>AV.t [A0.a l,_,_]) (uU (s:=uO (aj,ak,an,ao,ah,aq,ai,ar) text _) ZC3.symm ZC3.symm ZC3.symm rfl rfl rfl rfl rfl)
  ·show _=GF (bd (aj,ak,an,ao,ah,aq,ai,ar) text level).1
   rw [e];rfl
end GL
end Go.Proofs.YtnkbdhldiinfdaaGreatDoor
