/- A drawn law returns true for every code (its row lists package variables, tied by the card): part 39. -/
import Derived.Test.YtkgpljpmdkflmaaGreatDoorPbl
set_option maxHeartbeats 20000000
set_option maxRecDepth 100000
set_option linter.all false
namespace Go.Proofs.YtkgpljpmdkflmaaGreatDoor
namespace GL
def M6 (n:Nat) (f:Nat→Bool):Bool:=(List.range n).all f
theorem T4 {n i:Nat}{f:Nat→Bool}(hi:i<n) (h:f i=false):M6 n f=false:=by
 unfold M6;rw [Bool.eq_false_iff];intro h2;rw [ZC8.1 h2 i (ZE2.2 hi)] at h;cases h
theorem M5 {n:Nat}{f:Nat→Bool}(h:∀i,i<n→f i=true):M6 n f=true:=ZC8.2 fun i hi=>h i (ZE2.1 hi)
theorem aeD {n:Nat}{f:Nat→Bool}(h:M6 n f=true) {i:Nat}(hi:i<n):f i=true:=ZC8.1 h i (ZE2.2 hi)
theorem IV {n a b:Int}:iB n a b=false↔¬(a≤n∧n≤b):=by rw [←cD,Bool.not_eq_true]
def KN (n l:Int) (k:Nat):Bool:=decide ((0≤n∧n≤l∧l≤900)∧(n=0→l=0)∧(0<n→8≤k))
def xz (rf la:List Int) (k:Nat):Bool:=KN (nth ag rf k) (nth ag la k) k
section
variable {n l:Int}{k:Nat}
theorem aiF (h:(!(iB l 0 900))=true):KN n l k=false:=decide_eq_false (by rw [ZF8,IV] at h;omega)
theorem aiE (h:(!(iB n 0 l))=true):KN n l k=false:=decide_eq_false (by rw [ZF8,IV] at h;omega)
theorem agA (h:decide (n=0)=true) (h2:decide (l≠0)=true):KN n l k=false:=decide_eq_false (by have:=aJ h;have:=aJ h2;omega)
theorem agz (hk:k<64) (h:(!(iB (k:Int) 8 63))=true) (h2:decide (n>0)=true):KN n l k=false:=decide_eq_false (by rw [ZF8,IV] at h;have:=aJ h2;omega)
theorem YT (h:(!(iB l 0 900))=false) (h2:(!(iB n 0 l))=false) (h3:decide (n=0)=false∨decide (l≠0)=false) (h4:(!(iB (k:Int) 8 63))=false∨decide (n>0)=false):KN n l k=true:=decide_eq_true (by
 have a1:=cD.1 (cM h);have a2:=cD.1 (cM h2)
 refine⟨by omega,?_,?_⟩
 ·rcases h3 with h3 |h3
  ·have:=aA h3;omega
  ·have:=aA h3;omega
 ·rcases h4 with h4 |h4
  ·have:=cD.1 (cM h4);omega
  ·have:=aA h4;omega)
end
def rF (p:List Int×List Int):Bool:=bif decide ((p.1.length:Int)≠64) then false else bif decide ((p.2.length:Int)≠64) then false else M6 64 (xz p.1 p.2)
theorem NZ {p:List Int×List Int}(h:decide ((p.1.length:Int)≠64)=true):rF p=false:=by unfold rF;rw [h];rfl
theorem NY {p:List Int×List Int}(h:decide ((p.2.length:Int)≠64)=true):rF p=false:=by unfold rF;rw [h];cases decide ((p.1.length:Int)≠64)<;>rfl
theorem UX {p:List Int×List Int}(h:decide ((p.1.length:Int)≠64)=false) (h2:decide ((p.2.length:Int)≠64)=false):rF p=M6 64 (xz p.1 p.2):=by unfold rF;rw [h,h2];rfl
def nR (sp:List Int×List Int):Prop:=True
def cW (sp:List Int×List Int):AV:=.s (.q (rF sp))
def WG (sp:List Int×List Int):List AV:=[]
def nj:ct where
 A:=[.a [.vz ag,.vz ag]]
 B:=[]
 pre:=fun x b=>nR x
 r:=fun x b _=>cW x
 o:=fun x b _=>WG x
theorem CS:Has Tryz.prog 114 nj:=by
 refine Has.fu zT zF zF (l:=[(95,dE),(159,o0)]) ⟨iz,zJ,aa⟩ Tryz.func114 ?_
 rintro⟨(dA:List Int),(eJ:List Int)⟩ _ (hp:nR (dA,eJ))
 show vc _ _ _ _ (entry [.a [.vz ag dA,.vz ag eJ]] []) _
 refine⟨aa,fun w1=>?_,fun w2=>⟨fun w3=>?_,fun w4=>?_⟩⟩
 all_goals first|refine aw ?_|refine ax ?_|exact a8|(dsimp only [o0,si];omega)|exact a7|skip
 ·refine⟨[],[],_,_,_,rfl,az,(),aa,?_,?_,rfl⟩
  ·(show _=cW (dA,eJ));unfold cW;first|(rw [NZ (p:=(dA,eJ)) w1];rfl)|rfl
  ·rfl
 ·refine⟨[],[],_,_,_,rfl,az,(),aa,?_,?_,rfl⟩
  ·(show _=cW (dA,eJ));unfold cW;first|(rw [NY (p:=(dA,eJ)) w3];rfl)|rfl
  ·rfl
 ·have l1:dA.length=64:=by have:=aA w2;omega
  have l2:eJ.length=64:=by have:=aA w4;omega
  have hE:=UX (p:=(dA,eJ)) w2 w4
  refine cO (l:=[(95,dE),(159,o0)]) (ex:=zT) (wr:=zF) (pt:=zF) ⟨iz,zJ,trivial⟩ [.s 1,.b 1001] (fun i:Nat=>[(.s 3,.int i)]) (fun i=>i≤64∧∀j,j<i→xz dA eJ j=true) (fun i=>64-i) 0 [] ⟨ZA7 _,fun j hj=>absurd hj (by omega)⟩ dN ?_
  rintro i ⟨(hi:i≤64),hj⟩
  have cq:decide ((i:Int)<64)=true→i<64:=fun h=>by have:=aJ h;omega
  have bV:∀l:List Int,l.length=64→decide ((i:Int)<64)=true→(i:Int)<(l.length:Int):=fun l hl h=>by rw [hl];exact aJ h
  have iC:i<64→xz dA eJ i=false→rF (dA,eJ)=false:=fun h h2=>by rw [hE];exact T4 h h2
  have hgo:xz dA eJ i=true→∀j,j<i+1→xz dA eJ j=true:=fun h j yM=>by
   by_cases e:j=i
   ·rw [e];exact h
   ·exact hj j (by omega)
  refine⟨fun w1=>⟨Sq1,Sq18,rfl,[.s 18,.b 1001],Sq19,rfl,Sq3,Sq20,rfl,[.s 19,.s 20],Sq21,rfl,⟨?_,?_⟩,Sq21,Sq22,rfl,Sq22,Sq23,rfl,⟨⟨aa,aa,aa,aa⟩,aa⟩,?_,fun x2 w3=>⟨Sq23,Sq24,rfl,Sq24,Sq25,rfl,aa,fun w4=>⟨Sq25,Sq26,rfl,Sq25,Sq27,rfl,Sq25,Sq28,rfl,Sq25,Sq29,rfl,Sq25,Sq30,rfl,Sq25,Sq31,rfl,Sq25,Sq32,rfl,Sq25,Sq33,rfl,Sq25,Sq34,rfl,Sq25,Sq35,rfl,Sq25,Sq36,rfl,Sq25,Sq37,rfl,[.s 25,.s 37],Sq38,rfl,Sq38,Sq39,rfl,Sq39,Sq40,rfl,Sq39,Sq41,rfl,Sq39,Sq42,rfl,Sq39,Sq43,rfl,Sq39,Sq44,rfl,Sq39,Sq45,rfl,Sq39,Sq46,rfl,Sq46,Sq47,rfl,Sq46,Sq48,rfl,Sq46,Sq49,rfl,Sq46,Sq50,rfl,Sq46,Sq51,rfl,Sq46,Sq52,rfl,Sq39,Sq53,rfl,[.s 39,.s 53],Sq54,rfl,Sq54,Sq55,rfl,Sq55,Sq56,rfl,Sq55,Sq57,rfl,Sq55,Sq58,rfl,Sq55,Sq59,rfl,Sq59,Sq60,rfl,Sq59,Sq61,rfl,Sq59,Sq62,rfl,Sq59,Sq63,rfl,Sq59,Sq64,rfl,Sq59,Sq65,rfl,Sq55,Sq66,rfl,[.s 55,.s 66],Sq67,rfl,?_⟩,fun w5=>⟨[.s 25,.s 1],Sq26,rfl,[.s 25,.s 26,.b 1001],Sq27,rfl,[.s 25,.s 3],Sq28,rfl,[.s 25,.s 27,.s 28],Sq29,rfl,⟨?_,?_⟩,[.s 25,.s 29],Sq30,rfl,[.s 25,.s 1],Sq31,rfl,[.s 25,.s 31,.b 1001],Sq32,rfl,[.s 25,.s 3],Sq33,rfl,[.s 25,.s 32,.s 33],Sq34,rfl,⟨?_,?_⟩,[.s 25,.s 34],Sq35,rfl,[.s 25,.s 30,.s 35],Sq36,rfl,⟨⟨aa,aa,aa,aa⟩,aa⟩,?_,fun x6 w7=>⟨[.s 25,.s 36],Sq37,rfl,[.s 25,.s 37],Sq38,rfl,Sq38,Sq39,rfl,aa,fun w8=>⟨Sq39,Sq40,rfl,Sq39,Sq41,rfl,Sq39,Sq42,rfl,Sq39,Sq43,rfl,Sq39,Sq44,rfl,Sq39,Sq45,rfl,Sq39,Sq46,rfl,Sq46,Sq47,rfl,Sq46,Sq48,rfl,Sq46,Sq49,rfl,Sq46,Sq50,rfl,Sq46,Sq51,rfl,Sq46,Sq52,rfl,Sq39,Sq53,rfl,[.s 39,.s 53],Sq54,rfl,Sq54,Sq55,rfl,Sq55,Sq56,rfl,Sq55,Sq57,rfl,Sq55,Sq58,rfl,Sq55,Sq59,rfl,Sq59,Sq60,rfl,Sq59,Sq61,rfl,Sq59,Sq62,rfl,Sq59,Sq63,rfl,Sq59,Sq64,rfl,Sq59,Sq65,rfl,Sq55,Sq66,rfl,[.s 55,.s 66],Sq67,rfl,?_⟩,fun w9=>⟨[.s 39,.s 1],Sq40,rfl,[.s 39,.s 40,.b 1001],Sq41,rfl,[.s 39,.s 3],Sq42,rfl,[.s 39,.s 41,.s 42],Sq43,rfl,⟨?_,?_⟩,[.s 39,.s 43],Sq44,rfl,[.s 39,.s 44],Sq45,rfl,[.s 39,.s 45],Sq46,rfl,aa,fun dy=>⟨[.s 46,.s 1],Sq47,rfl,[.s 46,.s 47,.b 1001],Sq48,rfl,[.s 46,.s 3],Sq49,rfl,[.s 46,.s 48,.s 49],Sq50,rfl,⟨?_,?_⟩,[.s 46,.s 50],Sq51,rfl,[.s 46,.s 51],Sq52,rfl,[.s 39,.s 46,.s 52],Sq53,rfl,[.s 39,.s 53],Sq54,rfl,Sq54,Sq55,rfl,aa,fun kC=>⟨Sq55,Sq56,rfl,Sq55,Sq57,rfl,Sq55,Sq58,rfl,Sq55,Sq59,rfl,Sq59,Sq60,rfl,Sq59,Sq61,rfl,Sq59,Sq62,rfl,Sq59,Sq63,rfl,Sq59,Sq64,rfl,Sq59,Sq65,rfl,Sq55,Sq66,rfl,[.s 55,.s 66],Sq67,rfl,?_⟩,fun dK=>⟨[.s 55,.s 3],Sq56,rfl,[.s 55,.s 56],Sq57,rfl,⟨⟨aa,aa⟩,aa⟩,?_,fun rZ gP=>⟨[.s 55,.s 57],Sq58,rfl,[.s 55,.s 58],Sq59,rfl,aa,fun qN=>⟨[.s 59,.s 1],Sq60,rfl,[.s 59,.s 60,.b 1001],Sq61,rfl,[.s 59,.s 3],Sq62,rfl,[.s 59,.s 61,.s 62],Sq63,rfl,⟨?_,?_⟩,[.s 59,.s 63],Sq64,rfl,[.s 59,.s 64],Sq65,rfl,[.s 55,.s 59,.s 65],Sq66,rfl,[.s 55,.s 66],Sq67,rfl,fun ki=>?_,fun xk=>⟨⟨?_,?_⟩,?_⟩⟩,fun rV=>⟨Sq59,Sq60,rfl,Sq59,Sq61,rfl,Sq59,Sq62,rfl,Sq59,Sq63,rfl,Sq59,Sq64,rfl,Sq59,Sq65,rfl,[.s 55,.s 59,.s 65],Sq66,rfl,[.s 55,.s 66],Sq67,rfl,⟨?_,?_⟩,?_⟩⟩⟩⟩,fun oN=>⟨Sq46,Sq47,rfl,Sq46,Sq48,rfl,Sq46,Sq49,rfl,Sq46,Sq50,rfl,Sq46,Sq51,rfl,Sq46,Sq52,rfl,[.s 39,.s 46,.s 52],Sq53,rfl,[.s 39,.s 53],Sq54,rfl,Sq54,Sq55,rfl,[.s 55,.s 3],Sq56,rfl,[.s 55,.s 56],Sq57,rfl,⟨⟨aa,aa⟩,aa⟩,?_,fun x20 A4=>⟨[.s 55,.s 57],Sq58,rfl,[.s 55,.s 58],Sq59,rfl,aa,fun A3=>⟨[.s 59,.s 1],Sq60,rfl,[.s 59,.s 60,.b 1001],Sq61,rfl,[.s 59,.s 3],Sq62,rfl,[.s 59,.s 61,.s 62],Sq63,rfl,⟨?_,?_⟩,[.s 59,.s 63],Sq64,rfl,[.s 59,.s 64],Sq65,rfl,[.s 55,.s 59,.s 65],Sq66,rfl,[.s 55,.s 66],Sq67,rfl,fun xM=>?_,fun rU=>⟨⟨?_,?_⟩,?_⟩⟩,fun w25=>⟨Sq59,Sq60,rfl,Sq59,Sq61,rfl,Sq59,Sq62,rfl,Sq59,Sq63,rfl,Sq59,Sq64,rfl,Sq59,Sq65,rfl,[.s 55,.s 59,.s 65],Sq66,rfl,[.s 55,.s 66],Sq67,rfl,⟨?_,?_⟩,?_⟩⟩⟩⟩⟩⟩⟩⟩,fun w26=>?_⟩
  all_goals first|refine aw ?_|refine ax ?_|exact a8|(dsimp only [o0,si];omega)|exact a7|exact bV _ l1 w1|exact bV _ l2 w1|skip
  ·refine⟨[],[],_,_,_,rfl,az,(),aa,?_,?_,rfl⟩
   ·(show _=cW (dA,eJ));unfold cW;first|(rw [iC (cq w1) (aiF w4)];rfl)|rfl
   ·rfl
  ·refine⟨[],[],_,_,_,rfl,az,(),aa,?_,?_,rfl⟩
   ·(show _=cW (dA,eJ));unfold cW;first|(rw [iC (cq w1) (aiE w8)];rfl)|rfl
   ·rfl
  ·refine⟨[],[],_,_,_,rfl,az,(),aa,?_,?_,rfl⟩
   ·(show _=cW (dA,eJ));unfold cW;first|(rw [iC (cq w1) (agA dy kC)];rfl)|rfl
   ·rfl
  ·refine⟨[],[],_,_,_,rfl,az,(),aa,?_,?_,rfl⟩
   ·(show _=cW (dA,eJ));unfold cW;first|(rw [iC (cq w1) (agz (cq w1) qN ki)];rfl)|rfl
   ·rfl
  ·refine⟨(i+1),[],?_,?_,?_⟩
   rotate_right
   ·exact bW
   ·exact⟨cq w1,hgo (YT w5 w9 (.inr dK) (.inr xk))⟩
   ·show 64-(i+1)<64-i;have:=cq w1;omega
  ·refine⟨(i+1),[],?_,?_,?_⟩
   rotate_right
   ·exact bW
   ·exact⟨cq w1,hgo (YT w5 w9 (.inr dK) (.inl rV))⟩
   ·show 64-(i+1)<64-i;have:=cq w1;omega
  ·refine⟨[],[],_,_,_,rfl,az,(),aa,?_,?_,rfl⟩
   ·(show _=cW (dA,eJ));unfold cW;first|(rw [iC (cq w1) (agz (cq w1) A3 xM)];rfl)|rfl
   ·rfl
  ·refine⟨(i+1),[],?_,?_,?_⟩
   rotate_right
   ·exact bW
   ·exact⟨cq w1,hgo (YT w5 w9 (.inl oN) (.inr rU))⟩
   ·show 64-(i+1)<64-i;have:=cq w1;omega
  ·refine⟨(i+1),[],?_,?_,?_⟩
   rotate_right
   ·exact bW
   ·exact⟨cq w1,hgo (YT w5 w9 (.inl oN) (.inl w25))⟩
   ·show 64-(i+1)<64-i;have:=cq w1;omega
  ·have e:rF (dA,eJ)=true:=by rw [hE];exact M5 fun j yM=>hj j (by have:=aA w26;omega)
   refine⟨[],[],_,_,_,rfl,az,(),aa,?_,?_,rfl⟩
   ·(show _=cW (dA,eJ));unfold cW;first|(rw [e];rfl)|rfl
   ·rfl
end GL
end Go.Proofs.YtkgpljpmdkflmaaGreatDoor
