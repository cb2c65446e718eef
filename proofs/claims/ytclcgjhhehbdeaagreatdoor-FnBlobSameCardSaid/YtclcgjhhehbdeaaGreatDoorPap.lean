/- A drawn law returns true for every code (its row lists package variables, tied by the card): part 16. -/
import Derived.Test.YtclcgjhhehbdeaaGreatDoorPao
set_option maxHeartbeats 20000000
set_option maxRecDepth 100000
set_option linter.all false
namespace Go.Proofs.YtclcgjhhehbdeaaGreatDoor
namespace GL
def AU (s:ay) (text:ByteArray) (level:Int):Int:=bif s.same&&decide (level=0) then q7 s text else -1
def da (s:ay) (text:ByteArray) (level:Int):Int:=bif decide (AU s text level<0) then oa s.refs else AU s text level
def uK (s:ay) (text:ByteArray) (k:Nat):ay:=
 (s.rows.set k text,s.refs.set k (xo (nth ag s.refs k+1)),s.last.set k s.cg,s.cg,s.gone,s.bZ,s.dead,s.same)
def bd (s:ay) (text:ByteArray) (level:Int):ay×Pt×Bool:=
 bif decide (da s text level<0) then (s,bM,false)
 else bif (gu (da s text level) s.cg level text).2 then (uK s text (da s text level).toNat,(gu (da s text level) s.cg level text).1,true)
 else (s,bM,false)
theorem wi {s:ay}{text:ByteArray}{level:Int}(h1:s.same=true) (h2:decide (level=0)=true) (h3:decide (q7 s text<0)=true):da s text level=oa s.refs:=by
 unfold da AU;rw [h1,h2,show (true&&true)=true from rfl,cond_true,h3];rfl
theorem AT {s:ay}{text:ByteArray}{level:Int}(h1:s.same=true) (h2:decide (level=0)=true) (h3:decide (q7 s text<0)=false):da s text level=q7 s text:=by
 unfold da AU;rw [h1,h2,show (true&&true)=true from rfl,cond_true,h3];rfl
theorem wh {s:ay}{text:ByteArray}{level:Int}(h2:decide (level=0)=false):da s text level=oa s.refs:=by
 unfold da AU;rw [h2,ZD7];rfl
theorem we {s:ay}{text:ByteArray}{level:Int}(h1:s.same=false):da s text level=oa s.refs:=by
 unfold da AU;rw [h1,Bool.false_and];rfl
theorem nv {s:ay}{text:ByteArray}{level a:Int}(e:da s text level=a) (h:decide (a<0)=true):bd s text level=(s,bM,false):=by
 unfold bd;rw [e,h];rfl
theorem mu {s:ay}{text:ByteArray}{level a:Int}(e:da s text level=a) (h:decide (a<0)=false) (h2:(!(gu a s.cg level text).2)=true):bd s text level=(s,bM,false):=by
 unfold bd;rw [e,h,J4 h2];rfl
theorem oZ {s:ay}{text:ByteArray}{level a:Int}(e:da s text level=a) (h:decide (a<0)=false) (h2:(!(gu a s.cg level text).2)=false):bd s text level=(uK s text a.toNat,(gu a s.cg level text).1,true):=by
 unfold bd;rw [e,h,oD h2];rfl
def nI (S:ay) (text:ByteArray) (level:Int):Prop:=S.n64∧(text.size:Int)≤1000000000000
def QT (S:ay) (text:ByteArray) (level:Int):AV:=.t [.a (kT 0 1 2 3 4 (bd S text level).1),ptA (bd S text level).2.1,.s (.q (bd S text level).2.2)]
def VU (S:ay) (text:ByteArray) (level:Int):List AV:=F9 (bd S text level).1
def mX:cn where
 A:=[.a (stB 0 1 2 3 4),.s .str,.s .int]
 B:=[.r ab,.r ag,.r ag,.r ae,.r ae]
 pre:=fun x b=>stW x.1 b∧nI (gO x.1 b) (x.2.1) (x.2.2)
 r:=fun x b _=>QT (gO x.1 b) (x.2.1) (x.2.2)
 o:=fun x b _=>VU (gO x.1 b) (x.2.1) (x.2.2)
theorem CK:Has Tryz.prog 61 mX:=by
 refine Has.fl zT (fun d=>Nat.beq d 59) zF (l:=[(93,JS),(94,JU),(87,oW)]) ⟨adL,adP,FD,aa⟩ Tryz.func61 ?_
 rintro⟨⟨(AO:Nat),(AN:Nat),(AM:Nat),(ao:Int),(AL:Nat),(aq:Int),(AK:Nat),(ar:Bool)⟩,(text:ByteArray),(level:Int)⟩ ⟨(aj:List ByteArray),(ak:List Int),(an:List Int),(ah:List Pt),(ai:List Pt)⟩ ⟨⟨(gB:AO=List.length aj),(gA:AN=List.length ak),(gz:AM=List.length an),(gy:AL=List.length ah),(gx:AK=List.length ai)⟩,(hp:nI (aj,ak,an,ao,ah,aq,ai,ar) text level)⟩
 subst gB gA gz gy gx
 show vc _ _ _ _ (entry [.a [.xs 0 1 0 aj.length,.xs 1 1 0 ak.length,.xs 2 1 0 an.length,.int ao,.xs 3 5 0 ah.length,.int aq,.xs 4 5 0 ai.length,.q ar],.str text,.int level] [.rs ab aj,.rs ag ak,.rs ag an,.rs ae ah,.rs ae ai]) _
 obtain⟨⟨l1,l2,l3⟩,hs⟩:=hp
 dsimp only [ay.rows,ay.refs,ay.last] at l1 l2 l3
 have hL:=SO (aj,ak,an,ao,ah,aq,ai,ar) text
 have hF:=TT ak
 refine⟨aa,fun w1=>⟨fun w2=>⟨⟨⟨⟨⟨?_,?_⟩,⟨?_,?_⟩,⟨?_,?_⟩,aa,⟨?_,?_⟩,aa,⟨?_,?_⟩,tv2⟩,tv2⟩,?_,?_,?_⟩,fun x3 w4=>⟨fun w5=>⟨aa,⟨⟨⟨⟨?_,?_⟩,⟨?_,?_⟩,aa⟩,aa,⟨?_,?_⟩,aa⟩,?_,?_,?_⟩,fun x6 w7=>⟨fun w8=>?_,fun w9=>⟨⟨tv5,?_⟩,fun x10 kx=>⟨fun dI=>?_,fun iS=>⟨⟨?_,?_⟩,?_,Sq3,Sq49,rfl,Sq49,Sq50,rfl,[.s 50,.b 1003],Sq51,rfl,Sq9,Sq52,rfl,Sq3,Sq53,rfl,Sq53,Sq54,rfl,[.s 54,.b 1003],Sq55,rfl,Sq9,Sq56,rfl,[.s 55,.s 56],Sq57,rfl,⟨?_,?_⟩,[.s 57,.b 1],Sq58,rfl,?_,Sq58,Sq59,rfl,[.s 51,.s 52],Sq60,rfl,⟨?_,?_⟩,[.s 60,.s 59,.b 1],[.b 1],rfl,?_,⟨?_,?_⟩,?_,[.s 3,.b 1003],Sq68,rfl,[.s 10,.b 1010],Sq69,rfl,[.s 6,.s 68,.b 1006],[.b 1006],rfl,[.s 7,.s 69,.b 1007],[.b 1007],rfl,[],Sq8,rfl,?_⟩⟩⟩⟩⟩,fun gN=>⟨fun qG=>?_,fun kc=>⟨⟨tv5,?_⟩,fun x17 rO=>⟨fun oH=>?_,fun uE=>⟨⟨?_,?_⟩,?_,Sq3,Sq49,rfl,Sq49,Sq50,rfl,[.s 50,.b 1003],Sq51,rfl,Sq9,Sq52,rfl,Sq3,Sq53,rfl,Sq53,Sq54,rfl,[.s 54,.b 1003],Sq55,rfl,Sq9,Sq56,rfl,[.s 55,.s 56],Sq57,rfl,⟨?_,?_⟩,[.s 57,.b 1],Sq58,rfl,?_,Sq58,Sq59,rfl,[.s 51,.s 52],Sq60,rfl,⟨?_,?_⟩,[.s 60,.s 59,.b 1],[.b 1],rfl,?_,⟨?_,?_⟩,?_,[.s 3,.b 1003],Sq68,rfl,[.s 10,.b 1010],Sq69,rfl,[.s 6,.s 68,.b 1006],[.b 1006],rfl,[.s 7,.s 69,.b 1007],[.b 1007],rfl,[],Sq8,rfl,?_⟩⟩⟩⟩⟩⟩,fun AY=>⟨fun AX=>⟨aa,⟨⟨⟨⟨?_,?_⟩,⟨?_,?_⟩,aa⟩,aa,⟨?_,?_⟩,aa⟩,?_,?_,?_⟩,fun x23 rN=>⟨fun w25=>?_,fun w26=>⟨⟨tv5,?_⟩,fun x27 w28=>⟨fun w29=>?_,fun w30=>⟨⟨?_,?_⟩,?_,Sq3,Sq49,rfl,Sq49,Sq50,rfl,[.s 50,.b 1003],Sq51,rfl,Sq9,Sq52,rfl,Sq3,Sq53,rfl,Sq53,Sq54,rfl,[.s 54,.b 1003],Sq55,rfl,Sq9,Sq56,rfl,[.s 55,.s 56],Sq57,rfl,⟨?_,?_⟩,[.s 57,.b 1],Sq58,rfl,?_,Sq58,Sq59,rfl,[.s 51,.s 52],Sq60,rfl,⟨?_,?_⟩,[.s 60,.s 59,.b 1],[.b 1],rfl,?_,⟨?_,?_⟩,?_,[.s 3,.b 1003],Sq68,rfl,[.s 10,.b 1010],Sq69,rfl,[.s 6,.s 68,.b 1006],[.b 1006],rfl,[.s 7,.s 69,.b 1007],[.b 1007],rfl,[],Sq8,rfl,?_⟩⟩⟩⟩⟩,fun w31=>⟨fun w32=>?_,fun w33=>⟨⟨tv5,?_⟩,fun x34 w35=>⟨fun w36=>?_,fun w37=>⟨⟨?_,?_⟩,?_,Sq3,Sq49,rfl,Sq49,Sq50,rfl,[.s 50,.b 1003],Sq51,rfl,Sq9,Sq52,rfl,Sq3,Sq53,rfl,Sq53,Sq54,rfl,[.s 54,.b 1003],Sq55,rfl,Sq9,Sq56,rfl,[.s 55,.s 56],Sq57,rfl,⟨?_,?_⟩,[.s 57,.b 1],Sq58,rfl,?_,Sq58,Sq59,rfl,[.s 51,.s 52],Sq60,rfl,⟨?_,?_⟩,[.s 60,.s 59,.b 1],[.b 1],rfl,?_,⟨?_,?_⟩,?_,[.s 3,.b 1003],Sq68,rfl,[.s 10,.b 1010],Sq69,rfl,[.s 6,.s 68,.b 1006],[.b 1006],rfl,[.s 7,.s 69,.b 1007],[.b 1007],rfl,[],Sq8,rfl,?_⟩⟩⟩⟩⟩⟩,fun w38=>⟨fun w39=>⟨aa,⟨⟨⟨⟨?_,?_⟩,⟨?_,?_⟩,aa⟩,aa,⟨?_,?_⟩,aa⟩,?_,?_,?_⟩,fun x40 w41=>⟨fun w42=>?_,fun w43=>⟨⟨tv5,?_⟩,fun x44 w45=>⟨fun w46=>?_,fun w47=>⟨⟨?_,?_⟩,?_,Sq3,Sq49,rfl,Sq49,Sq50,rfl,[.s 50,.b 1003],Sq51,rfl,Sq9,Sq52,rfl,Sq3,Sq53,rfl,Sq53,Sq54,rfl,[.s 54,.b 1003],Sq55,rfl,Sq9,Sq56,rfl,[.s 55,.s 56],Sq57,rfl,⟨?_,?_⟩,[.s 57,.b 1],Sq58,rfl,?_,Sq58,Sq59,rfl,[.s 51,.s 52],Sq60,rfl,⟨?_,?_⟩,[.s 60,.s 59,.b 1],[.b 1],rfl,?_,⟨?_,?_⟩,?_,[.s 3,.b 1003],Sq68,rfl,[.s 10,.b 1010],Sq69,rfl,[.s 6,.s 68,.b 1006],[.b 1006],rfl,[.s 7,.s 69,.b 1007],[.b 1007],rfl,[],Sq8,rfl,?_⟩⟩⟩⟩⟩,fun w48=>⟨fun w49=>?_,fun w50=>⟨⟨tv5,?_⟩,fun x51 w52=>⟨fun w53=>?_,fun w54=>⟨⟨?_,?_⟩,?_,Sq3,Sq49,rfl,Sq49,Sq50,rfl,[.s 50,.b 1003],Sq51,rfl,Sq9,Sq52,rfl,Sq3,Sq53,rfl,Sq53,Sq54,rfl,[.s 54,.b 1003],Sq55,rfl,Sq9,Sq56,rfl,[.s 55,.s 56],Sq57,rfl,⟨?_,?_⟩,[.s 57,.b 1],Sq58,rfl,?_,Sq58,Sq59,rfl,[.s 51,.s 52],Sq60,rfl,⟨?_,?_⟩,[.s 60,.s 59,.b 1],[.b 1],rfl,?_,⟨?_,?_⟩,?_,[.s 3,.b 1003],Sq68,rfl,[.s 10,.b 1010],Sq69,rfl,[.s 6,.s 68,.b 1006],[.b 1006],rfl,[.s 7,.s 69,.b 1007],[.b 1007],rfl,[],Sq8,rfl,?_⟩⟩⟩⟩⟩⟩
 all_goals first|(exfalso;simp only [decide_eq_true_eq,decide_eq_false_iff_not] at *;omega)|refine aw ?_|refine ax ?_|exact a8|(dsimp only [JS,xZ,JU,yc,oW,mI];omega)|exact a7|exact ZG8.1 (aA (by assumption))|(show (text.size:Int)≤1000000000000;omega)|(simp only [dB,lq,decide_eq_true_eq,decide_eq_false_iff_not,ZC3] at *;omega)|skip
 ·have e:=nv (wi (s:=(aj,ak,an,ao,ah,aq,ai,ar)) (text:=text) w1 w2 w5) w8
  refine⟨[],[],_,_,_,rfl,az,(),aa,?_,?_,rfl⟩
  ·show _=AV.t [.a (kT 0 1 2 3 4 (bd (aj,ak,an,ao,ah,aq,ai,ar) text level).1),ptA (bd (aj,ak,an,ao,ah,aq,ai,ar) text level).2.1,.s (.q (bd (aj,ak,an,ao,ah,aq,ai,ar) text level).2.2)]
   rw [e];rfl
  ·show _=F9 (bd (aj,ak,an,ao,ah,aq,ai,ar) text level).1
   rw [e];rfl
 ·have e:=mu (wi (s:=(aj,ak,an,ao,ah,aq,ai,ar)) (text:=text) w1 w2 w5) w9 dI
  refine⟨[],[],_,_,_,rfl,az,(),aa,?_,?_,rfl⟩
  ·show _=AV.t [.a (kT 0 1 2 3 4 (bd (aj,ak,an,ao,ah,aq,ai,ar) text level).1),ptA (bd (aj,ak,an,ao,ah,aq,ai,ar) text level).2.1,.s (.q (bd (aj,ak,an,ao,ah,aq,ai,ar) text level).2.2)]
   rw [e];rfl
  ·show _=F9 (bd (aj,ak,an,ao,ah,aq,ai,ar) text level).1
   rw [e];rfl
 ·have e:=oZ (wi (s:=(aj,ak,an,ao,ah,aq,ai,ar)) (text:=text) w1 w2 w5) w9 iS
  refine⟨[],[],_,_,_,rfl,az,(),aa,?_,?_,rfl⟩
  ·show _=AV.t [.a (kT 0 1 2 3 4 (bd (aj,ak,an,ao,ah,aq,ai,ar) text level).1),ptA (bd (aj,ak,an,ao,ah,aq,ai,ar) text level).2.1,.s (.q (bd (aj,ak,an,ao,ah,aq,ai,ar) text level).2.2)]
   rw [e]
   exact congrArg (fun l=>AV.t [A0.a l,_,_]) (uQ (s:=uK (aj,ak,an,ao,ah,aq,ai,ar) text _) ZC3.symm ZC3.symm ZC3.symm rfl rfl rfl rfl rfl)
  ·show _=F9 (bd (aj,ak,an,ao,ah,aq,ai,ar) text level).1
   rw [e];rfl
 ·have e:=mu (AT (s:=(aj,ak,an,ao,ah,aq,ai,ar)) (text:=text) w1 w2 gN) kc oH
  refine⟨[],[],_,_,_,rfl,az,(),aa,?_,?_,rfl⟩
  ·show _=AV.t [.a (kT 0 1 2 3 4 (bd (aj,ak,an,ao,ah,aq,ai,ar) text level).1),ptA (bd (aj,ak,an,ao,ah,aq,ai,ar) text level).2.1,.s (.q (bd (aj,ak,an,ao,ah,aq,ai,ar) text level).2.2)]
   rw [e];rfl
  ·show _=F9 (bd (aj,ak,an,ao,ah,aq,ai,ar) text level).1
   rw [e];rfl
 ·have e:=oZ (AT (s:=(aj,ak,an,ao,ah,aq,ai,ar)) (text:=text) w1 w2 gN) kc uE
  refine⟨[],[],_,_,_,rfl,az,(),aa,?_,?_,rfl⟩
  ·show _=AV.t [.a (kT 0 1 2 3 4 (bd (aj,ak,an,ao,ah,aq,ai,ar) text level).1),ptA (bd (aj,ak,an,ao,ah,aq,ai,ar) text level).2.1,.s (.q (bd (aj,ak,an,ao,ah,aq,ai,ar) text level).2.2)]
   rw [e]
   exact congrArg (fun l=>AV.t [A0.a l,_,_]) (uQ (s:=uK (aj,ak,an,ao,ah,aq,ai,ar) text _) ZC3.symm ZC3.symm ZC3.symm rfl rfl rfl rfl rfl)
  ·show _=F9 (bd (aj,ak,an,ao,ah,aq,ai,ar) text level).1
   rw [e];rfl
 ·have e:=nv (wh (s:=(aj,ak,an,ao,ah,aq,ai,ar)) (text:=text) AY) w25
  refine⟨[],[],_,_,_,rfl,az,(),aa,?_,?_,rfl⟩
  ·show _=AV.t [.a (kT 0 1 2 3 4 (bd (aj,ak,an,ao,ah,aq,ai,ar) text level).1),ptA (bd (aj,ak,an,ao,ah,aq,ai,ar) text level).2.1,.s (.q (bd (aj,ak,an,ao,ah,aq,ai,ar) text level).2.2)]
   rw [e];rfl
  ·show _=F9 (bd (aj,ak,an,ao,ah,aq,ai,ar) text level).1
   rw [e];rfl
 ·have e:=mu (wh (s:=(aj,ak,an,ao,ah,aq,ai,ar)) (text:=text) AY) w26 w29
  refine⟨[],[],_,_,_,rfl,az,(),aa,?_,?_,rfl⟩
  ·show _=AV.t [.a (kT 0 1 2 3 4 (bd (aj,ak,an,ao,ah,aq,ai,ar) text level).1),ptA (bd (aj,ak,an,ao,ah,aq,ai,ar) text level).2.1,.s (.q (bd (aj,ak,an,ao,ah,aq,ai,ar) text level).2.2)]
   rw [e];rfl
  ·show _=F9 (bd (aj,ak,an,ao,ah,aq,ai,ar) text level).1
   rw [e];rfl
 ·have e:=oZ (wh (s:=(aj,ak,an,ao,ah,aq,ai,ar)) (text:=text) AY) w26 w30
  refine⟨[],[],_,_,_,rfl,az,(),aa,?_,?_,rfl⟩
  ·show _=AV.t [.a (kT 0 1 2 3 4 (bd (aj,ak,an,ao,ah,aq,ai,ar) text level).1),ptA (bd (aj,ak,an,ao,ah,aq,ai,ar) text level).2.1,.s (.q (bd (aj,ak,an,ao,ah,aq,ai,ar) text level).2.2)]
   rw [e]
   exact congrArg (fun l=>AV.t [A0.a l,_,_]) (uQ (s:=uK (aj,ak,an,ao,ah,aq,ai,ar) text _) ZC3.symm ZC3.symm ZC3.symm rfl rfl rfl rfl rfl)
  ·show _=F9 (bd (aj,ak,an,ao,ah,aq,ai,ar) text level).1
   rw [e];rfl
 ·have e:=nv (we (s:=(aj,ak,an,ao,ah,aq,ai,ar)) (text:=text) (level:=level) w38) w42
  refine⟨[],[],_,_,_,rfl,az,(),aa,?_,?_,rfl⟩
  ·show _=AV.t [.a (kT 0 1 2 3 4 (bd (aj,ak,an,ao,ah,aq,ai,ar) text level).1),ptA (bd (aj,ak,an,ao,ah,aq,ai,ar) text level).2.1,.s (.q (bd (aj,ak,an,ao,ah,aq,ai,ar) text level).2.2)]
   rw [e];rfl
  ·show _=F9 (bd (aj,ak,an,ao,ah,aq,ai,ar) text level).1
   rw [e];rfl
 ·have e:=mu (we (s:=(aj,ak,an,ao,ah,aq,ai,ar)) (text:=text) (level:=level) w38) w43 w46
  refine⟨[],[],_,_,_,rfl,az,(),aa,?_,?_,rfl⟩
  ·show _=AV.t [.a (kT 0 1 2 3 4 (bd (aj,ak,an,ao,ah,aq,ai,ar) text level).1),ptA (bd (aj,ak,an,ao,ah,aq,ai,ar) text level).2.1,.s (.q (bd (aj,ak,an,ao,ah,aq,ai,ar) text level).2.2)]
   rw [e];rfl
  ·show _=F9 (bd (aj,ak,an,ao,ah,aq,ai,ar) text level).1
   rw [e];rfl
 ·have e:=oZ (we (s:=(aj,ak,an,ao,ah,aq,ai,ar)) (text:=text) (level:=level) w38) w43 w47
  refine⟨[],[],_,_,_,rfl,az,(),aa,?_,?_,rfl⟩
  ·show _=AV.t [.a (kT 0 1 2 3 4 (bd (aj,ak,an,ao,ah,aq,ai,ar) text level).1),ptA (bd (aj,ak,an,ao,ah,aq,ai,ar) text level).2.1,.s (.q (bd (aj,ak,an,ao,ah,aq,ai,ar) text level).2.2)]
   rw [e]
   exact congrArg (fun l=>AV.t [A0.a l,_,_]) (uQ (s:=uK (aj,ak,an,ao,ah,aq,ai,ar) text _) ZC3.symm ZC3.symm ZC3.symm rfl rfl rfl rfl rfl)
  ·show _=F9 (bd (aj,ak,an,ao,ah,aq,ai,ar) text level).1
   rw [e];rfl
end GL
end Go.Proofs.YtclcgjhhehbdeaaGreatDoor
