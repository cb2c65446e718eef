/- A drawn law returns true for every code (its row lists package variables, tied by the card): part 39. -/
import Derived.Test.YtnkbdhldiinfdaaGreatDoorPbl
set_option maxHeartbeats 20000000
set_option maxRecDepth 100000
set_option linter.all false
namespace Go.Proofs.YtnkbdhldiinfdaaGreatDoor
namespace GL
def M8 (n:Nat) (f:Nat→Bool):Bool:=(List.range n).all f
theorem T8 {n i:Nat}{f:Nat→Bool}(hi:i<n) (h:f i=false):M8 n f=false:=by
 unfold M8;rw [Bool.eq_false_iff];intro h2;rw [ZC9.1 h2 i (ZE2.2 hi)] at h;cases h
theorem M7 {n:Nat}{f:Nat→Bool}(h:∀i,i<n→f i=true):M8 n f=true:=ZC9.2 fun i hi=>h i (ZE2.1 hi)
theorem aeH {n:Nat}{f:Nat→Bool}(h:M8 n f=true) {i:Nat}(hi:i<n):f i=true:=ZC9.1 h i (ZE2.2 hi)
theorem IW {n a b:Int}:ik n a b=false↔¬(a≤n∧n≤b):=by rw [←cC,Bool.not_eq_true]
def KP (n l:Int) (k:Nat):Bool:=decide ((0≤n∧n≤l∧l≤900)∧(n=0→l=0)∧(0<n→8≤k))
def xw (rf la:List Int) (k:Nat):Bool:=KP (nth ag rf k) (nth ag la k) k
section
variable {n l:Int}{k:Nat}
theorem aiM (h:(!(ik l 0 900))=true):KP n l k=false:=decide_eq_false (by rw [ZF8,IW] at h;omega)
theorem aiL (h:(!(ik n 0 l))=true):KP n l k=false:=decide_eq_false (by rw [ZF8,IW] at h;omega)
theorem agG (h:decide (n=0)=true) (h2:decide (l≠0)=true):KP n l k=false:=decide_eq_false (by have:=aJ h;have:=aJ h2;omega)
theorem agF (hk:k<64) (h:(!(ik (k:Int) 8 63))=true) (h2:decide (n>0)=true):KP n l k=false:=decide_eq_false (by rw [ZF8,IW] at h;have:=aJ h2;omega)
theorem YW (h:(!(ik l 0 900))=false) (h2:(!(ik n 0 l))=false) (h3:decide (n=0)=false∨decide (l≠0)=false) (h4:(!(ik (k:Int) 8 63))=false∨decide (n>0)=false):KP n l k=true:=decide_eq_true (by
 have a1:=cC.1 (cL h);have a2:=cC.1 (cL h2)
 refine⟨by omega,?_,?_⟩
 ·rcases h3 with h3 |h3
  ·have:=aA h3;omega
  ·have:=aA h3;omega
 ·rcases h4 with h4 |h4
  ·have:=cC.1 (cL h4);omega
  ·have:=aA h4;omega)
end
def rC (p:List Int×List Int):Bool:=bif decide ((p.1.length:Int)≠64) then false else bif decide ((p.2.length:Int)≠64) then false else M8 64 (xw p.1 p.2)
theorem N1 {p:List Int×List Int}(h:decide ((p.1.length:Int)≠64)=true):rC p=false:=by unfold rC;rw [h];rfl
theorem N0 {p:List Int×List Int}(h:decide ((p.2.length:Int)≠64)=true):rC p=false:=by unfold rC;rw [h];cases decide ((p.1.length:Int)≠64)<;>rfl
theorem U1 {p:List Int×List Int}(h:decide ((p.1.length:Int)≠64)=false) (h2:decide ((p.2.length:Int)≠64)=false):rC p=M8 64 (xw p.1 p.2):=by unfold rC;rw [h,h2];rfl
def nO (sp:List Int×List Int):Prop:=True
def cV (sp:List Int×List Int):AV:=.s (.q (rC sp))
def WJ (sp:List Int×List Int):List AV:=[]
def nc:cn where
 A:=[.a [.vz ag,.vz ag]]
 B:=[]
 pre:=fun x b=>nO x
 r:=fun x b _=>cV x
 o:=fun x b _=>WJ x
theorem CS:Has Tryz.prog 79 nc:=by
 refine Has.fm zT zF zF (l:=[(35,hZ),(120,oY)]) ⟨iA,zI,aa⟩ Tryz.func79 ?_
 rintro⟨(dA:List Int),(eI:List Int)⟩ _ (hp:nO (dA,eI))
 show vc _ _ _ _ (entry [.a [.vz ag dA,.vz ag eI]] []) _
 refine⟨aa,fun w1=>?_,fun w2=>⟨fun w3=>?_,fun w4=>?_⟩⟩
 all_goals first|refine aw ?_|refine ax ?_|exact a8|(dsimp only [oY,sd];omega)|exact a7|skip
 ·refine⟨[],[],_,_,_,rfl,az,(),aa,?_,?_,rfl⟩
  ·(show _=cV (dA,eI));unfold cV;first|(rw [N1 (p:=(dA,eI)) w1];rfl)|rfl
  ·rfl
 ·refine⟨[],[],_,_,_,rfl,az,(),aa,?_,?_,rfl⟩
  ·(show _=cV (dA,eI));unfold cV;first|(rw [N0 (p:=(dA,eI)) w3];rfl)|rfl
  ·rfl
 ·have l1:dA.length=64:=by have:=aA w2;omega
  have l2:eI.length=64:=by have:=aA w4;omega
  have hE:=U1 (p:=(dA,eI)) w2 w4
  refine cN (l:=[(35,hZ),(120,oY)]) (ex:=zT) (wr:=zF) (pt:=zF) ⟨iA,zI,trivial⟩ [.s 1,.b 1001] (fun i:Nat=>[(.s 3,.int i)]) (fun i=>i≤64∧∀j,j<i→xw dA eI j=true) (fun i=>64-i) 0 [] ⟨ZA7 _,fun j hj=>absurd hj (by omega)⟩ dM ?_
  rintro i ⟨(hi:i≤64),hj⟩
  have cm:decide ((i:Int)<64)=true→i<64:=fun h=>by have:=aJ h;omega
  have bU:∀l:List Int,l.length=64→decide ((i:Int)<64)=true→(i:Int)<(l.length:Int):=fun l hl h=>by rw [hl];exact aJ h
  have iC:i<64→xw dA eI i=false→rC (dA,eI)=false:=fun h h2=>by rw [hE];exact T8 h h2
  have hgo:xw dA eI i=true→∀j,j<i+1→xw dA eI j=true:=fun h j yK=>by
   by_cases e:j=i
   ·rw [e];exact h
   ·exact hj j (by omega)
  refine⟨fun w1=>⟨Sq1,Sq18,rfl,[.s 18,.b 1001],Sq19,rfl,Sq3,Sq20,rfl,[.s 19,.s 20],Sq21,rfl,⟨?_,?_⟩,Sq21,Sq22,rfl,Sq22,Sq23,rfl,⟨tv4,aa⟩,?_,fun x2 w3=>⟨Sq23,Sq24,rfl,Sq24,Sq25,rfl,aa,fun w4=>⟨Sq25,Sq26,rfl,Sq25,Sq27,rfl,Sq25,Sq28,rfl,Sq25,Sq29,rfl,Sq25,Sq30,rfl,Sq25,Sq31,rfl,Sq25,Sq32,rfl,Sq25,Sq33,rfl,Sq25,Sq34,rfl,Sq25,Sq35,rfl,Sq25,Sq36,rfl,Sq25,Sq37,rfl,[.s 25,.s 37],Sq38,rfl,Sq38,Sq39,rfl,Sq39,Sq40,rfl,Sq39,Sq41,rfl,Sq39,Sq42,rfl,Sq39,Sq43,rfl,Sq39,Sq44,rfl,Sq39,Sq45,rfl,Sq39,Sq46,rfl,Sq46,Sq47,rfl,Sq46,Sq48,rfl,Sq46,Sq49,rfl,Sq46,Sq50,rfl,Sq46,Sq51,rfl,Sq46,Sq52,rfl,Sq39,Sq53,rfl,[.s 39,.s 53],Sq54,rfl,Sq54,Sq55,rfl,Sq55,Sq56,rfl,Sq55,Sq57,rfl,Sq55,Sq58,rfl,Sq55,Sq59,rfl,Sq59,Sq60,rfl,Sq59,Sq61,rfl,Sq59,Sq62,rfl,Sq59,Sq63,rfl,Sq59,Sq64,rfl,Sq59,Sq65,rfl,Sq55,Sq66,rfl,[.s 55,.s 66],Sq67,rfl,?_⟩,fun w5=>⟨[.s 25,.s 1],Sq26,rfl,[.s 25,.s 26,.b 1001],Sq27,rfl,[.s 25,.s 3],Sq28,rfl,[.s 25,.s 27,.s 28],Sq29,rfl,⟨?_,?_⟩,[.s 25,.s 29],Sq30,rfl,[.s 25,.s 1],Sq31,rfl,[.s 25,.s 31,.b 1001],Sq32,rfl,[.s 25,.s 3],Sq33,rfl,[.s 25,.s 32,.s 33],Sq34,rfl,⟨?_,?_⟩,[.s 25,.s 34],Sq35,rfl,[.s 25,.s 30,.s 35],Sq36,rfl,⟨tv4,aa⟩,?_,fun x6 w7=>⟨[.s 25,.s 36],Sq37,rfl,[.s 25,.s 37],Sq38,rfl,Sq38,Sq39,rfl,aa,fun w8=>⟨Sq39,Sq40,rfl,Sq39,Sq41,rfl,Sq39,Sq42,rfl,Sq39,Sq43,rfl,Sq39,Sq44,rfl,Sq39,Sq45,rfl,Sq39,Sq46,rfl,Sq46,Sq47,rfl,Sq46,Sq48,rfl,Sq46,Sq49,rfl,Sq46,Sq50,rfl,Sq46,Sq51,rfl,Sq46,Sq52,rfl,Sq39,Sq53,rfl,[.s 39,.s 53],Sq54,rfl,Sq54,Sq55,rfl,Sq55,Sq56,rfl,Sq55,Sq57,rfl,Sq55,Sq58,rfl,Sq55,Sq59,rfl,Sq59,Sq60,rfl,Sq59,Sq61,rfl,Sq59,Sq62,rfl,Sq59,Sq63,rfl,Sq59,Sq64,rfl,Sq59,Sq65,rfl,Sq55,Sq66,rfl,[.s 55,.s 66],Sq67,rfl,?_⟩,fun w9=>⟨[.s 39,.s 1],Sq40,rfl,[.s 39,.s 40,.b 1001],Sq41,rfl,[.s 39,.s 3],Sq42,rfl,[.s 39,.s 41,.s 42],Sq43,rfl,⟨?_,?_⟩,[.s 39,.s 43],Sq44,rfl,[.s 39,.s 44],Sq45,rfl,[.s 39,.s 45],Sq46,rfl,aa,fun dy=>⟨[.s 46,.s 1],Sq47,rfl,[.s 46,.s 47,.b 1001],Sq48,rfl,[.s 46,.s 3],Sq49,rfl,[.s 46,.s 48,.s 49],Sq50,rfl,⟨?_,?_⟩,[.s 46,.s 50],Sq51,rfl,[.s 46,.s 51],Sq52,rfl,[.s 39,.s 46,.s 52],Sq53,rfl,[.s 39,.s 53],Sq54,rfl,Sq54,Sq55,rfl,aa,fun kA=>⟨Sq55,Sq56,rfl,Sq55,Sq57,rfl,Sq55,Sq58,rfl,Sq55,Sq59,rfl,Sq59,Sq60,rfl,Sq59,Sq61,rfl,Sq59,Sq62,rfl,Sq59,Sq63,rfl,Sq59,Sq64,rfl,Sq59,Sq65,rfl,Sq55,Sq66,rfl,[.s 55,.s 66],Sq67,rfl,?_⟩,fun dJ=>⟨[.s 55,.s 3],Sq56,rfl,[.s 55,.s 56],Sq57,rfl,⟨tv2,aa⟩,?_,fun rW gO=>⟨[.s 55,.s 57],Sq58,rfl,[.s 55,.s 58],Sq59,rfl,aa,fun qK=>⟨[.s 59,.s 1],Sq60,rfl,[.s 59,.s 60,.b 1001],Sq61,rfl,[.s 59,.s 3],Sq62,rfl,[.s 59,.s 61,.s 62],Sq63,rfl,⟨?_,?_⟩,[.s 59,.s 63],Sq64,rfl,[.s 59,.s 64],Sq65,rfl,[.s 55,.s 59,.s 65],Sq66,rfl,[.s 55,.s 66],Sq67,rfl,fun kg=>?_,fun xh=>⟨⟨?_,?_⟩,?_⟩⟩,fun rS=>⟨Sq59,Sq60,rfl,Sq59,Sq61,rfl,Sq59,Sq62,rfl,Sq59,Sq63,rfl,Sq59,Sq64,rfl,Sq59,Sq65,rfl,[.s 55,.s 59,.s 65],Sq66,rfl,[.s 55,.s 66],Sq67,rfl,⟨?_,?_⟩,?_⟩⟩⟩⟩,fun oL=>⟨Sq46,Sq47,rfl,Sq46,Sq48,rfl,Sq46,Sq49,rfl,Sq46,Sq50,rfl,Sq46,Sq51,rfl,Sq46,Sq52,rfl,[.s 39,.s 46,.s 52],Sq53,rfl,[.s 39,.s 53],Sq54,rfl,Sq54,Sq55,rfl,[.s 55,.s 3],Sq56,rfl,[.s 55,.s 56],Sq57,rfl,⟨tv2,aa⟩,?_,fun x20 A4=>⟨[.s 55,.s 57],Sq58,rfl,[.s 55,.s 58],Sq59,rfl,aa,fun A3=>⟨[.s 59,.s 1],Sq60,rfl,[.s 59,.s 60,.b 1001],Sq61,rfl,[.s 59,.s 3],Sq62,rfl,[.s 59,.s 61,.s 62],Sq63,rfl,⟨?_,?_⟩,[.s 59,.s 63],Sq64,rfl,[.s 59,.s 64],Sq65,rfl,[.s 55,.s 59,.s 65],Sq66,rfl,[.s 55,.s 66],Sq67,rfl,fun xK=>?_,fun rR=>⟨⟨?_,?_⟩,?_⟩⟩,fun w25=>⟨Sq59,Sq60,rfl,Sq59,Sq61,rfl,Sq59,Sq62,rfl,Sq59,Sq63,rfl,Sq59,Sq64,rfl,Sq59,Sq65,rfl,[.s 55,.s 59,.s 65],Sq66,rfl,[.s 55,.s 66],Sq67,rfl,⟨?_,?_⟩,?_⟩⟩⟩⟩⟩⟩⟩⟩,fun w26=>?_⟩
  all_goals first|refine aw ?_|refine ax ?_|exact a8|(dsimp only [oY,sd];omega)|exact a7|exact bU _ l1 w1|exact bU _ l2 w1|skip
  ·refine⟨[],[],_,_,_,rfl,az,(),aa,?_,?_,rfl⟩
   ·(show _=cV (dA,eI));unfold cV;first|(rw [iC (cm w1) (aiM w4)];rfl)|rfl
   ·rfl
  ·refine⟨[],[],_,_,_,rfl,az,(),aa,?_,?_,rfl⟩
   ·(show _=cV (dA,eI));unfold cV;first|(rw [iC (cm w1) (aiL w8)];rfl)|rfl
   ·rfl
  ·refine⟨[],[],_,_,_,rfl,az,(),aa,?_,?_,rfl⟩
   ·(show _=cV (dA,eI));unfold cV;first|(rw [iC (cm w1) (agG dy kA)];rfl)|rfl
   ·rfl
  ·refine⟨[],[],_,_,_,rfl,az,(),aa,?_,?_,rfl⟩
   ·(show _=cV (dA,eI));unfold cV;first|(rw [iC (cm w1) (agF (cm w1) qK kg)];rfl)|rfl
   ·rfl
  ·refine⟨(i+1),[],?_,?_,?_⟩
   rotate_right
   ·exact bV
   ·exact⟨cm w1,hgo (YW w5 w9 (.inr dJ) (.inr xh))⟩
   ·show 64-(i+1)<64-i;have:=cm w1;omega
  ·refine⟨(i+1),[],?_,?_,?_⟩
   rotate_right
   ·exact bV
   ·exact⟨cm w1,hgo (YW w5 w9 (.inr dJ) (.inl rS))⟩
   ·show 64-(i+1)<64-i;have:=cm w1;omega
  ·refine⟨[],[],_,_,_,rfl,az,(),aa,?_,?_,rfl⟩
   ·(show _=cV (dA,eI));unfold cV;first|(rw [iC (cm w1) (agF (cm w1) A3 xK)];rfl)|rfl
   ·rfl
  ·refine⟨(i+1),[],?_,?_,?_⟩
   rotate_right
   ·exact bV
   ·exact⟨cm w1,hgo (YW w5 w9 (.inl oL) (.inr rR))⟩
   ·show 64-(i+1)<64-i;have:=cm w1;omega
  ·refine⟨(i+1),[],?_,?_,?_⟩
   rotate_right
   ·exact bV
   ·exact⟨cm w1,hgo (YW w5 w9 (.inl oL) (.inl w25))⟩
   ·show 64-(i+1)<64-i;have:=cm w1;omega
  ·have e:rC (dA,eI)=true:=by rw [hE];exact M7 fun j yK=>hj j (by have:=aA w26;omega)
   refine⟨[],[],_,_,_,rfl,az,(),aa,?_,?_,rfl⟩
   ·(show _=cV (dA,eI));unfold cV;first|(rw [e];rfl)|rfl
   ·rfl
end GL
end Go.Proofs.YtnkbdhldiinfdaaGreatDoor
