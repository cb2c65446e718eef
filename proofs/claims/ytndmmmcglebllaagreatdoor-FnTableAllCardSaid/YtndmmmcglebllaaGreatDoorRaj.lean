/- Part 10 of the proof of a drawn law. -/
import Derived.Lib.CountLaws
import Derived.Lib.CutLaws
import Derived.Lib.IndexBytes
import Derived.Lib.IndexLaws
import Derived.Lib.Join
import Derived.Lib.SplitLaws
import Derived.Shelf.LaysC
import Derived.Shelf.LaysM
import Derived.Shelf.Strconv.Atoi
import Derived.Shelf.Strconv.ErrVar
import Derived.Shelf.Strconv.Itoa3
import Derived.Shelf.Strings.Cut
import Derived.Shelf.Strings.OnBuilder
import Derived.Shelf.Strings.Split
import Derived.Shelf.Strings.SplitShaped
import Derived.Sort.Grow
import Derived.Test.YtndmmmcglebllaaGreatDoorProg
import Derived.Test.YtndmmmcglebllaaGreatDoorRad
import Derived.Test.YtndmmmcglebllaaGreatDoorRae
import Derived.Test.YtndmmmcglebllaaGreatDoorRag
import Derived.Test.YtndmmmcglebllaaGreatDoorRai
set_option maxHeartbeats 20000000
set_option maxRecDepth 100000
set_option linter.all false
namespace Go.Proofs.YtndmmmcglebllaaGreatDoor
namespace GL
def TL (n:Nat) (f:Nat->Bool):Bool:=(List.range n).all f
def aa1 {n i:Nat}{f:Nat->Bool}(hi:i<n) (h:f i=false):TL n f=false:=by
 unfold TL;rw [Bool.eq_false_iff];intro h2;rw [ZD3.1 h2 i (ZE8.2 hi)] at h;cases h
def TK {n:Nat}{f:Nat->Bool}(h:∀i,i<n->f i=true):TL n f=true:=ZD3.2 λi hi=>h i (ZE8.1 hi)
def ajX {n:Nat}{f:Nat->Bool}(h:TL n f=true) {i:Nat}(hi:i<n):f i=true:=ZD3.1 h i (ZE8.2 hi)
def OU {n a b:Int}:gC n a b=false↔¬(a<=n/\n<=b):=by rw [<-cy,Bool.not_eq_true]
def QN (n l:Int) (k:Nat):Bool:=decide ((0<=n/\n<=l/\l<=900)/\(n=0->l=0)/\(0<n->8<=k))
def AA (rf la:List Int) (k:Nat):Bool:=QN (nth ag rf k) (nth ag la k) k
section
variable {n l:Int}{k:Nat}
def aoz (h:(!(gC l 0 900))=true):QN n l k=false:=decide_eq_false (by rw [ZG6,OU] at h;omega)
def aoy (h:(!(gC n 0 l))=true):QN n l k=false:=decide_eq_false (by rw [ZG6,OU] at h;omega)
def amh (h:decide (n=0)=true) (h2:decide (l≠0)=true):QN n l k=false:=decide_eq_false (by have:=aF h;have:=aF h2;omega)
def amg (hk:k<64) (h:(!(gC (k:Int) 8 63))=true) (h2:decide (n>0)=true):QN n l k=false:=decide_eq_false (by rw [ZG6,OU] at h;have:=aF h2;omega)
def ad4 (h:(!(gC l 0 900))=false) (h2:(!(gC n 0 l))=false) (h3:decide (n=0)=false\/decide (l≠0)=false) (h4:(!(gC (k:Int) 8 63))=false\/decide (n>0)=false):QN n l k=true:=decide_eq_true (by
 have a1:=cy.1 (cr h);have a2:=cy.1 (cr h2)
 refine⟨by omega,?_,?_⟩
 ·rcases h3 with h3 |h3
  ·have:=aD h3;omega
  ·have:=aD h3;omega
 ·rcases h4 with h4 |h4
  ·have:=cy.1 (cr h4);omega
  ·have:=aD h4;omega)
end
def tv (p:List Int×List Int):Bool:=bif decide ((p.1.length:Int)≠64) then false else bif decide ((p.2.length:Int)≠64) then false else TL 64 (AA p.1 p.2)
def UJ {p:List Int×List Int}(h:decide ((p.1.length:Int)≠64)=true):tv p=false:=by unfold tv;rw [h];rfl
def UI {p:List Int×List Int}(h:decide ((p.2.length:Int)≠64)=true):tv p=false:=by unfold tv;rw [h];cases decide ((p.1.length:Int)≠64)<;>rfl
def abx {p:List Int×List Int}(h:decide ((p.1.length:Int)≠64)=false) (h2:decide ((p.2.length:Int)≠64)=false):tv p=TL 64 (AA p.1 p.2):=by unfold tv;rw [h,h2];rfl
def pC (sp:List Int×List Int):Prop:=True
def dx (sp:List Int×List Int):AV:=.s (.q (tv sp))
def acs (sp:List Int×List Int):List AV:=[]
def oL:cu where
 A:=[.a [.vz ag,.vz ag]]
 B:=[]
 pre:=λx b=>pC x
 r:=λx b _=>dx x
 o:=λx b _=>acs x
def HU:Has Tryz.prog 59 oL:=by
 refine Has.fP zT zF zF (l:=[(60,jc),(106,qz)]) ⟨jr,EB,aa⟩ Tryz.func59 ?_
 rintro⟨(dX:List Int),(fo:List Int)⟩ _ (hp:pC (dX,fo))
 show vc _ _ _ _ (entry [.a [.vz ag dX,.vz ag fo]] []) _
 refine⟨aa,λw1=>?_,λw2=>⟨λw3=>?_,λw4=>?_⟩⟩
 all_goals first|refine aw ?_|refine ax ?_|exact bb|(dsimp only [qz,ur];omega)|exact ba|skip
 ·refine⟨[],[],_,_,_,ζ,aC,(),aa,?_,?_,ζ⟩
  ·(show _=dx (dX,fo));unfold dx;first|(rw [UJ (p:=(dX,fo)) w1];rfl)|rfl
  ·rfl
 ·refine⟨[],[],_,_,_,ζ,aC,(),aa,?_,?_,ζ⟩
  ·(show _=dx (dX,fo));unfold dx;first|(rw [UI (p:=(dX,fo)) w3];rfl)|rfl
  ·rfl
 ·have l1:dX.length=64:=by have:=aD w2;omega
  have l2:fo.length=64:=by have:=aD w4;omega
  have hE:=abx (p:=(dX,fo)) w2 w4
  refine df (l:=[(60,jc),(106,qz)]) (ex:=zT) (wr:=zF) (pt:=zF) ⟨jr,EB,trivial⟩ [.s 1,.b 1001] (λi:Nat=>[(.s 3,.int i)]) (λi=>i<=64/\∀j,j<i->AA dX fo j=true) (λi=>64-i) 0 [] ⟨ZA7 _,λj hj=>absurd hj (by omega)⟩ dP ?_
  rintro i ⟨(hi:i<=64),hj⟩
  have cF:decide ((i:Int)<64)=true->i<64:=λh=>by have:=aF h;omega
  have bR:∀l:List Int,l.length=64->decide ((i:Int)<64)=true->(i:Int)<(l.length:Int):=λl hl h=>by rw [hl];exact aF h
  have jt:i<64->AA dX fo i=false->tv (dX,fo)=false:=λh h2=>by rw [hE];exact aa1 h h2
  have hgo:AA dX fo i=true->∀j,j<i+1->AA dX fo j=true:=λh j CC=>by
   by_cases e:j=i
   ·rw [e];exact h
   ·exact hj j (by omega)
  refine⟨λw1=>⟨Sq1,Sq18,ζ,[.s 18,.b 1001],Sq19,ζ,Sq3,Sq20,ζ,[.s 19,.s 20],Sq21,ζ,⟨?_,?_⟩,Sq21,Sq22,ζ,Sq22,Sq23,ζ,⟨tv4,aa⟩,?_,λx2 w3=>⟨Sq23,Sq24,ζ,Sq24,Sq25,ζ,aa,λw4=>⟨Sq25,Sq26,ζ,Sq25,Sq27,ζ,Sq25,Sq28,ζ,Sq25,Sq29,ζ,Sq25,Sq30,ζ,Sq25,Sq31,ζ,Sq25,Sq32,ζ,Sq25,Sq33,ζ,Sq25,Sq34,ζ,Sq25,Sq35,ζ,Sq25,Sq36,ζ,Sq25,Sq37,ζ,[.s 25,.s 37],Sq38,ζ,Sq38,Sq39,ζ,Sq39,Sq40,ζ,Sq39,Sq41,ζ,Sq39,Sq42,ζ,Sq39,Sq43,ζ,Sq39,Sq44,ζ,Sq39,Sq45,ζ,Sq39,Sq46,ζ,Sq46,Sq47,ζ,Sq46,Sq48,ζ,Sq46,Sq49,ζ,Sq46,Sq50,ζ,Sq46,Sq51,ζ,Sq46,Sq52,ζ,Sq39,Sq53,ζ,[.s 39,.s 53],Sq54,ζ,Sq54,Sq55,ζ,Sq55,Sq56,ζ,Sq55,Sq57,ζ,Sq55,Sq58,ζ,Sq55,Sq59,ζ,Sq59,Sq60,ζ,Sq59,Sq61,ζ,Sq59,Sq62,ζ,Sq59,Sq63,ζ,Sq59,Sq64,ζ,Sq59,Sq65,ζ,Sq55,Sq66,ζ,[.s 55,.s 66],Sq67,ζ,?_⟩,λw5=>⟨[.s 25,.s 1],Sq26,ζ,[.s 25,.s 26,.b 1001],Sq27,ζ,[.s 25,.s 3],Sq28,ζ,[.s 25,.s 27,.s 28],Sq29,ζ,⟨?_,?_⟩,[.s 25,.s 29],Sq30,ζ,[.s 25,.s 1],Sq31,ζ,[.s 25,.s 31,.b 1001],Sq32,ζ,[.s 25,.s 3],Sq33,ζ,[.s 25,.s 32,.s 33],Sq34,ζ,⟨?_,?_⟩,[.s 25,.s 34],Sq35,ζ,[.s 25,.s 30,.s 35],Sq36,ζ,⟨tv4,aa⟩,?_,λx6 w7=>⟨[.s 25,.s 36],Sq37,ζ,[.s 25,.s 37],Sq38,ζ,Sq38,Sq39,ζ,aa,λw8=>⟨Sq39,Sq40,ζ,Sq39,Sq41,ζ,Sq39,Sq42,ζ,Sq39,Sq43,ζ,Sq39,Sq44,ζ,Sq39,Sq45,ζ,Sq39,Sq46,ζ,Sq46,Sq47,ζ,Sq46,Sq48,ζ,Sq46,Sq49,ζ,Sq46,Sq50,ζ,Sq46,Sq51,ζ,Sq46,Sq52,ζ,Sq39,Sq53,ζ,[.s 39,.s 53],Sq54,ζ,Sq54,Sq55,ζ,Sq55,Sq56,ζ,Sq55,Sq57,ζ,Sq55,Sq58,ζ,Sq55,Sq59,ζ,Sq59,Sq60,ζ,Sq59,Sq61,ζ,Sq59,Sq62,ζ,Sq59,Sq63,ζ,Sq59,Sq64,ζ,Sq59,Sq65,ζ,Sq55,Sq66,ζ,[.s 55,.s 66],Sq67,ζ,?_⟩,λw9=>⟨[.s 39,.s 1],Sq40,ζ,[.s 39,.s 40,.b 1001],Sq41,ζ,[.s 39,.s 3],Sq42,ζ,[.s 39,.s 41,.s 42],Sq43,ζ,⟨?_,?_⟩,[.s 39,.s 43],Sq44,ζ,[.s 39,.s 44],Sq45,ζ,[.s 39,.s 45],Sq46,ζ,aa,λdB=>⟨[.s 46,.s 1],Sq47,ζ,[.s 46,.s 47,.b 1001],Sq48,ζ,[.s 46,.s 3],Sq49,ζ,[.s 46,.s 48,.s 49],Sq50,ζ,⟨?_,?_⟩,[.s 46,.s 50],Sq51,ζ,[.s 46,.s 51],Sq52,ζ,[.s 39,.s 46,.s 52],Sq53,ζ,[.s 39,.s 53],Sq54,ζ,Sq54,Sq55,ζ,aa,λiP=>⟨Sq55,Sq56,ζ,Sq55,Sq57,ζ,Sq55,Sq58,ζ,Sq55,Sq59,ζ,Sq59,Sq60,ζ,Sq59,Sq61,ζ,Sq59,Sq62,ζ,Sq59,Sq63,ζ,Sq59,Sq64,ζ,Sq59,Sq65,ζ,Sq55,Sq66,ζ,[.s 55,.s 66],Sq67,ζ,?_⟩,λdW=>⟨[.s 55,.s 3],Sq56,ζ,[.s 55,.s 56],Sq57,ζ,⟨tv2,aa⟩,?_,λtY gY=>⟨[.s 55,.s 57],Sq58,ζ,[.s 55,.s 58],Sq59,ζ,aa,λnG=>⟨[.s 59,.s 1],Sq60,ζ,[.s 59,.s 60,.b 1001],Sq61,ζ,[.s 59,.s 3],Sq62,ζ,[.s 59,.s 61,.s 62],Sq63,ζ,⟨?_,?_⟩,[.s 59,.s 63],Sq64,ζ,[.s 59,.s 64],Sq65,ζ,[.s 55,.s 59,.s 65],Sq66,ζ,[.s 55,.s 66],Sq67,ζ,λkC=>?_,λxh=>⟨⟨?_,?_⟩,?_⟩⟩,λqU=>⟨Sq59,Sq60,ζ,Sq59,Sq61,ζ,Sq59,Sq62,ζ,Sq59,Sq63,ζ,Sq59,Sq64,ζ,Sq59,Sq65,ζ,[.s 55,.s 59,.s 65],Sq66,ζ,[.s 55,.s 66],Sq67,ζ,⟨?_,?_⟩,?_⟩⟩⟩⟩,λo9=>⟨Sq46,Sq47,ζ,Sq46,Sq48,ζ,Sq46,Sq49,ζ,Sq46,Sq50,ζ,Sq46,Sq51,ζ,Sq46,Sq52,ζ,[.s 39,.s 46,.s 52],Sq53,ζ,[.s 39,.s 53],Sq54,ζ,Sq54,Sq55,ζ,[.s 55,.s 3],Sq56,ζ,[.s 55,.s 56],Sq57,ζ,⟨tv2,aa⟩,?_,λx20 FW=>⟨[.s 55,.s 57],Sq58,ζ,[.s 55,.s 58],Sq59,ζ,aa,λDB=>⟨[.s 59,.s 1],Sq60,ζ,[.s 59,.s 60,.b 1001],Sq61,ζ,[.s 59,.s 3],Sq62,ζ,[.s 59,.s 61,.s 62],Sq63,ζ,⟨?_,?_⟩,[.s 59,.s 63],Sq64,ζ,[.s 59,.s 64],Sq65,ζ,[.s 55,.s 59,.s 65],Sq66,ζ,[.s 55,.s 66],Sq67,ζ,λzi=>?_,λtZ=>⟨⟨?_,?_⟩,?_⟩⟩,λFV=>⟨Sq59,Sq60,ζ,Sq59,Sq61,ζ,Sq59,Sq62,ζ,Sq59,Sq63,ζ,Sq59,Sq64,ζ,Sq59,Sq65,ζ,[.s 55,.s 59,.s 65],Sq66,ζ,[.s 55,.s 66],Sq67,ζ,⟨?_,?_⟩,?_⟩⟩⟩⟩⟩⟩⟩⟩,λw26=>?_⟩
  all_goals first|refine aw ?_|refine ax ?_|exact bb|(dsimp only [qz,ur];omega)|exact ba|exact bR _ l1 w1|exact bR _ l2 w1|skip
  ·refine⟨[],[],_,_,_,ζ,aC,(),aa,?_,?_,ζ⟩
   ·(show _=dx (dX,fo));unfold dx;first|(rw [jt (cF w1) (aoz w4)];rfl)|rfl
   ·rfl
  ·refine⟨[],[],_,_,_,ζ,aC,(),aa,?_,?_,ζ⟩
   ·(show _=dx (dX,fo));unfold dx;first|(rw [jt (cF w1) (aoy w8)];rfl)|rfl
   ·rfl
  ·refine⟨[],[],_,_,_,ζ,aC,(),aa,?_,?_,ζ⟩
   ·(show _=dx (dX,fo));unfold dx;first|(rw [jt (cF w1) (amh dB iP)];rfl)|rfl
   ·rfl
  ·refine⟨[],[],_,_,_,ζ,aC,(),aa,?_,?_,ζ⟩
   ·(show _=dx (dX,fo));unfold dx;first|(rw [jt (cF w1) (amg (cF w1) nG kC)];rfl)|rfl
   ·rfl
  ·refine⟨(i+1),[],?_,?_,?_⟩
   rotate_right
   ·exact bY
   ·exact⟨cF w1,hgo (ad4 w5 w9 (.inr dW) (.inr xh))⟩
   ·show 64-(i+1)<64-i;have:=cF w1;omega
  ·refine⟨(i+1),[],?_,?_,?_⟩
   rotate_right
   ·exact bY
   ·exact⟨cF w1,hgo (ad4 w5 w9 (.inr dW) (.inl qU))⟩
   ·show 64-(i+1)<64-i;have:=cF w1;omega
  ·refine⟨[],[],_,_,_,ζ,aC,(),aa,?_,?_,ζ⟩
   ·(show _=dx (dX,fo));unfold dx;first|(rw [jt (cF w1) (amg (cF w1) DB zi)];rfl)|rfl
   ·rfl
  ·refine⟨(i+1),[],?_,?_,?_⟩
   rotate_right
   ·exact bY
   ·exact⟨cF w1,hgo (ad4 w5 w9 (.inl o9) (.inr tZ))⟩
   ·show 64-(i+1)<64-i;have:=cF w1;omega
  ·refine⟨(i+1),[],?_,?_,?_⟩
   rotate_right
   ·exact bY
   ·exact⟨cF w1,hgo (ad4 w5 w9 (.inl o9) (.inl FV))⟩
   ·show 64-(i+1)<64-i;have:=cF w1;omega
  ·have e:tv (dX,fo)=true:=by rw [hE];exact TK λj CC=>hj j (by have:=aD w26;omega)
   refine⟨[],[],_,_,_,ζ,aC,(),aa,?_,?_,ζ⟩
   ·(show _=dx (dX,fo));unfold dx;first|(rw [e];rfl)|rfl
   ·rfl
end GL
namespace GL
def fm:TI:=⟨false,1,.other,[.pointer none],[],[]⟩
def nM:jB Tryz.prog 15 fm:=⟨by show Sh Tryz.prog 15=some (false,1);kernel_rfl,by show zeroOf Tryz.prog 15=some [.pointer none];kernel_rfl,by simp [fm],.inl rfl,trivial⟩
def gD:TI:=⟨false,1,.other,[.pointer none],[],[]⟩
def rQ:jB Tryz.prog 16 gD:=⟨by show Sh Tryz.prog 16=some (false,1);kernel_rfl,by show zeroOf Tryz.prog 16=some [.pointer none];kernel_rfl,by simp [gD],.inl rfl,trivial⟩
def tq:TI:=⟨false,1,.other,[.pointer none],[],[]⟩
def QY:jB Tryz.prog 17 tq:=⟨by show Sh Tryz.prog 17=some (false,1);kernel_rfl,by show zeroOf Tryz.prog 17=some [.pointer none];kernel_rfl,by simp [tq],.inl rfl,trivial⟩
def qX:TI:=⟨false,1,.other,[.pointer none],[],[]⟩
def NB:jB Tryz.prog 46 qX:=⟨by show Sh Tryz.prog 46=some (false,1);kernel_rfl,by show zeroOf Tryz.prog 46=some [.pointer none];kernel_rfl,by simp [qX],.inl rfl,trivial⟩
def qY:TI:=⟨false,1,.other,[.pointer none],[],[]⟩
def NC:jB Tryz.prog 55 qY:=⟨by show Sh Tryz.prog 55=some (false,1);kernel_rfl,by show zeroOf Tryz.prog 55=some [.pointer none];kernel_rfl,by simp [qY],.inl rfl,trivial⟩
def p6:TI:=⟨false,1,.other,[.pointer none],[],[]⟩
def J4:jB Tryz.prog 67 p6:=⟨by show Sh Tryz.prog 67=some (false,1);kernel_rfl,by show zeroOf Tryz.prog 67=some [.pointer none];kernel_rfl,by simp [p6],.inl rfl,trivial⟩
def pZ:TI:=⟨false,1,.other,[.pointer none],[],[]⟩
def J3:jB Tryz.prog 111 pZ:=⟨by show Sh Tryz.prog 111=some (false,1);kernel_rfl,by show zeroOf Tryz.prog 111=some [.pointer none];kernel_rfl,by simp [pZ],.inl rfl,trivial⟩
def LJ:TI:=⟨false,1,.other,[.pointer none],[],[]⟩
def aip:jB Tryz.prog 134 LJ:=⟨by show Sh Tryz.prog 134=some (false,1);kernel_rfl,by show zeroOf Tryz.prog 134=some [.pointer none];kernel_rfl,by simp [LJ],.inl rfl,trivial⟩
def jY:TI:=⟨false,1,.other,[.pointer none],[],[]⟩
def yi:jB Tryz.prog 188 jY:=⟨by show Sh Tryz.prog 188=some (false,1);kernel_rfl,by show zeroOf Tryz.prog 188=some [.pointer none];kernel_rfl,by simp [jY],.inl rfl,trivial⟩
def AT:TI:=⟨false,1,.other,[.pointer none],[],[]⟩
def acx:jB Tryz.prog 199 AT:=⟨by show Sh Tryz.prog 199=some (false,1);kernel_rfl,by show zeroOf Tryz.prog 199=some [.pointer none];kernel_rfl,by simp [AT],.inl rfl,trivial⟩
def jN:TI:=⟨false,1,.other,[.pointer none],[],[]⟩
def xd:jB Tryz.prog 203 jN:=⟨by show Sh Tryz.prog 203=some (false,1);kernel_rfl,by show zeroOf Tryz.prog 203=some [.pointer none];kernel_rfl,by simp [jN],.inl rfl,trivial⟩
def tn:TI:=⟨false,1,.other,[.pointer none],[],[]⟩
def QX:jB Tryz.prog 206 tn:=⟨by show Sh Tryz.prog 206=some (false,1);kernel_rfl,by show zeroOf Tryz.prog 206=some [.pointer none];kernel_rfl,by simp [tn],.inl rfl,trivial⟩
def iR:TI:=⟨false,1,.other,[.pointer none],[],[]⟩
def uC:jB Tryz.prog 227 iR:=⟨by show Sh Tryz.prog 227=some (false,1);kernel_rfl,by show zeroOf Tryz.prog 227=some [.pointer none];kernel_rfl,by simp [iR],.inl rfl,trivial⟩
def amR:TypeId->Option TI
 |15=>some fm
 |16=>some gD
 |17=>some tq
 |46=>some qX
 |55=>some qY
 |67=>some p6
 |111=>some pZ
 |134=>some LJ
 |188=>some jY
 |199=>some AT
 |203=>some jN
 |206=>some tn
 |227=>some iR
 |t=>tab t
def akW:∀t i,amR t=some i->jB Tryz.prog t i:=by
 intro t i h
 unfold amR at h
 split at h
 ·cases h;exact nM
 ·cases h;exact rQ
 ·cases h;exact QY
 ·cases h;exact NB
 ·cases h;exact NC
 ·cases h;exact J4
 ·cases h;exact J3
 ·cases h;exact aip
 ·cases h;exact yi
 ·cases h;exact acx
 ·cases h;exact xd
 ·cases h;exact QX
 ·cases h;exact uC
 ·exact ahs _ _ h
def mkEI (n:Nat) (l:List (FuncId×cu)) (ex wr pt:Nat->Bool):Env:=⟨n,amR,look l,ex,wr,pt⟩
def zx {n:Nat}{l:List (FuncId×cu)}{ex wr pt:Nat->Bool}(h:ll Tryz.prog l):FM Tryz.prog (mkEI n l ex wr pt):=⟨akW,λ_ _ hc=>NX h hc⟩
def Has.sF (ex wr pt:Nat->Bool) {l:List (FuncId×cu)}(hl:ll Tryz.prog l) {f:FuncId}{fn:Func}{cd:Code}{C:cu}(hf:Tryz.prog.funcs[f]?=some fn)
  (h : ∀ x y, C.pre x y → vc Tryz.prog fn.ntmps (sem (mkEI fn.ntmps l ex wr pt)) cd (entry (APs.avs C.A x) (APs.avs C.B y)) (endQ (mkEI fn.ntmps l ex wr pt).sh fn.results.toList C.B.length C.mv (fun r os => ∃ z, C.φ x y z ∧ r = C.r x y z ∧ os = C.o x y z ∧ os.length = C.B.length + C.nf))) (hb : fn.body = some cd := by exact rfl) (hnm : fn.name ≠ "runtime.NumGoroutine" := by decide) (hlen : C.A.length ≤ fn.ntmps := by exact zqNlb rfl) : Has Tryz.prog f C :=
 ⟨AR.of (zx hl) mixed hf hb rfl hlen h,fn,hf,by rw [hb];rfl,hnm⟩
def Has.acA (ex wr pt:Nat->Bool) {l:List (FuncId×cu)}(hl:ll Tryz.prog l) {f:FuncId}{fn:Func}{cd:Code}{C:cu}(hf:Tryz.prog.funcs[f]?=some fn)
  (h : ∀ x y, C.pre x y → vc Tryz.prog fn.ntmps (sem (mkEI fn.ntmps l ex wr pt)) cd (entry (APs.avs C.A x) (APs.avs C.B y)) (endQ (mkEI fn.ntmps l ex wr pt).sh fn.results.toList C.B.length C.mv (fun r os => ∃ z j, C.φ x y z ∧ r = C.r x y z ∧ os ++ List.replicate j .zz = C.o x y z ∧ (C.o x y z).length = C.B.length + C.nf))) (hb : fn.body = some cd := by exact rfl) (hnm : fn.name ≠ "runtime.NumGoroutine" := by decide) (hlen : C.A.length ≤ fn.ntmps := by exact zqNlb rfl) : Has Tryz.prog f C := by
 refine⟨λx y hp=>?_,fn,hf,by rw [hb];rfl,hnm⟩
 have hx:(APs.avs C.A x).length<=fn.ntmps:=by rw [APs.jA];exact hlen
 have hy:(APs.avs C.B y).length=C.B.length:=APs.jA C.B y
 refine TC.aef (TC.D3 (P:=Tryz.prog) (N:=fn.ntmps) (S:=sem (mkEI fn.ntmps l ex wr pt)) (sh:=(mkEI fn.ntmps l ex wr pt).sh) (f:=f) (fn:=fn) (cd:=cd) (args:=APs.avs C.A x) (bs:=APs.avs C.B y) (mv:=C.mv) (post:=λr os=>∃z j,C.φ x y z/\r=C.r x y z/\os++List.replicate j .zz=C.o x y z/\(C.o x y z).length=C.B.length+C.nf) mixed (xz (zx (n:=fn.ntmps) (ex:=ex) (wr:=wr) (pt:=pt) hl)) (Env.RI (zx (n:=fn.ntmps) (ex:=ex) (wr:=wr) (pt:=pt) hl)) hf hb rfl hx (by rw [hy];exact h x y hp)) ?_
 rintro r os ⟨z,j,h1,h2,h3,h4⟩
 exact⟨j,z,h1,h2,h3,by rw [h3];exact h4⟩
def Has.aqu (ex wr pt:Nat->Bool) {l:List (FuncId×cu)}(hl:ll Tryz.prog l) {f:FuncId}{fn:Func}{cd:Code}{C:cu}(hf:Tryz.prog.funcs[f]?=some fn)
  (h : ∀ x y, C.pre x y → vc Tryz.prog fn.ntmps (sem (mkEI fn.ntmps l ex wr pt)) cd (entry (APs.avs C.A x) (APs.avs C.B y)) (endQ (mkEI fn.ntmps l ex wr pt).sh fn.results.toList C.B.length C.mv (fun r os => ∃ z j, C.φ x y z ∧ Wk (C.r x y z) r ∧ os ++ List.replicate j .zz = C.o x y z ∧ (C.o x y z).length = C.B.length + C.nf))) (hb : fn.body = some cd := by exact rfl) (hnm : fn.name ≠ "runtime.NumGoroutine" := by decide) (hlen : C.A.length ≤ fn.ntmps := by exact zqNlb rfl) : Has Tryz.prog f C := by
 refine⟨λx y hp=>?_,fn,hf,by rw [hb];rfl,hnm⟩
 have hx:(APs.avs C.A x).length<=fn.ntmps:=by rw [APs.jA];exact hlen
 have hy:(APs.avs C.B y).length=C.B.length:=APs.jA C.B y
 refine TC.aqh (TC.D3 (P:=Tryz.prog) (N:=fn.ntmps) (S:=sem (mkEI fn.ntmps l ex wr pt)) (sh:=(mkEI fn.ntmps l ex wr pt).sh) (f:=f) (fn:=fn) (cd:=cd) (args:=APs.avs C.A x) (bs:=APs.avs C.B y) (mv:=C.mv) (post:=λr os=>∃z j,C.φ x y z/\Wk (C.r x y z) r/\os++List.replicate j .zz=C.o x y z/\(C.o x y z).length=C.B.length+C.nf) mixed (xz (zx (n:=fn.ntmps) (ex:=ex) (wr:=wr) (pt:=pt) hl)) (Env.RI (zx (n:=fn.ntmps) (ex:=ex) (wr:=wr) (pt:=pt) hl)) hf hb rfl hx (by rw [hy];exact h x y hp)) ?_
 rintro r os ⟨z,j,h1,h2,h3,h4⟩
 exact⟨C.r x y z,j,h2,z,h1,rfl,h3,by rw [h3];exact h4⟩
def jq {l:List (FuncId×cu)}{n:Nat}{ex wr pt:Nat->Bool}(hl:ll Tryz.prog l) {τ:St}{Q':va}{cd:Code}{ι:Type}(cm:List gx) (J:ι->FJ) (φ:ι->Prop) (μ:ι->Nat) (x0:ι) (sg0:List (Nat×Nat)) (h0:φ x0) (hs:JX sg0 τ τ cm (J x0))
  (wj:∀x,φ x->vc Tryz.prog n (sem (mkEI n l ex wr pt)) cd ((qm τ cm).ap (J x)) (IW (λτ'=>∃y sg,φ y/\μ y < μ x/\JX sg τ τ' cm (J y)) Q')):TW Tryz.prog n (.loop cd) τ Q':=
 amo (E:=mkEI n l ex wr pt) (zx hl) mixed cm J φ μ x0 sg0 h0 hs wj
end GL
end Go.Proofs.YtndmmmcglebllaaGreatDoor
namespace Go.Proofs
open Go.Shelf
def Tryz.aao:Go.Shelf.Ren:=⟨λ|145=>140 |220=>166 |219=>187 |217=>200 |225=>201 |224=>202 |267=>203 |266=>212 |314=>213 |n=>n,λ|9=>9 |4=>4 |59=>167 |3=>3 |5=>5 |46=>211 |146=>224 |51=>223 |n=>n,λ|1=>0 |n=>n⟩
def Tryz.alk:Go.Proofs.Lays.n145 Tryz.prog Tryz.aao:= {
 mixed:=by kernel_rfl
 f145:=Tryz.func140.trans (congrArg some (by kernel_rfl))
 f217:=Tryz.func200.trans (congrArg some (by kernel_rfl))
 f219:=Tryz.func187.trans (congrArg some (by kernel_rfl))
 f220:=Tryz.func166.trans (congrArg some (by kernel_rfl))
 f224:=Tryz.func202.trans (congrArg some (by kernel_rfl))
 f225:=Tryz.func201.trans (congrArg some (by kernel_rfl))
 f266:=Tryz.func212.trans (congrArg some (by kernel_rfl))
 f267:=Tryz.func203.trans (congrArg some (by kernel_rfl))
 f314:=Tryz.func213.trans (congrArg some (by kernel_rfl))
 t3:=Tryz.underlying3
 a3:=Tryz.isAgg3
 z3:=Tryz.sizeOf3
 v3:=Tryz.zeroValue3
 t4:=Tryz.underlying4
 a4:=Tryz.isAgg4
 z4:=Tryz.sizeOf4
 v4:=Tryz.zeroValue4
 t5:=Tryz.underlying5
 a5:=Tryz.isAgg5
 z5:=Tryz.sizeOf5
 v5:=Tryz.zeroValue5
 t9:=Tryz.underlying9
 a9:=Tryz.isAgg9
 z9:=Tryz.sizeOf9
 v9:=Tryz.zeroValue9
 t46:=Tryz.underlying211
 a46:=Tryz.isAgg211
 z46:=Tryz.sizeOf211
 v46:=Tryz.zeroValue211
 t51:=Tryz.underlying223
 a51:=Tryz.isAgg223
 z51:=Tryz.sizeOf223
 v51:=Tryz.zeroValue223
 t59:=Tryz.underlying167
 a59:=Tryz.isAgg167
 z59:=Tryz.sizeOf167
 v59:=Tryz.zeroValue167
 t146:=Tryz.underlying224
 a146:=Tryz.isAgg224
 z146:=Tryz.sizeOf224
 v146:=Tryz.zeroValue224
 g1:=by kernel_rfl }
open Go.RowKit Go.Lib in
def Tryz.strings_Cut (s sep:ByteArray) (m:Int) (w:World) (hs:s.size<4294967281) (hm:w.cell? ⟨0,0,none⟩=some (.int .i64 m)):
  Calls Tryz.prog 140 #[.string s,.string sep] w λe w'=>e= .returned (.tuple #[.string ⟨(Lib.cut s.data.toList sep.data.toList).1.toArray⟩,.string ⟨(Lib.cut s.data.toList sep.data.toList).2.1.toArray⟩,.bool (Lib.cut s.data.toList sep.data.toList).2.2])/\∃n,w'=w.drewN n:=Any.strings_Cut Tryz.alk s sep m w hs hm
end Go.Proofs
namespace Go.Proofs
open Go.Shelf
def Tryz.ix:Go.Shelf.Ren:=⟨λ|156=>180 |165=>198 |166=>174 |169=>177 |240=>194 |241=>211 |276=>207 |277=>221 |n=>n,λ|31=>23 |9=>9 |3=>3 |4=>4 |0=>0 |20=>20 |72=>190 |76=>171 |70=>188 |37=>22 |75=>170 |127=>199 |164=>219 |5=>5 |80=>193 |n=>n,λ|n=>n⟩
def Tryz.oY:Go.Proofs.Lays.n156 Tryz.prog Tryz.ix:= {
 mixed:=by kernel_rfl
 f156:=Tryz.func180.trans (congrArg some (by kernel_rfl))
 f165:=Tryz.func198.trans (congrArg some (by kernel_rfl))
 f166:=Tryz.func174.trans (congrArg some (by kernel_rfl))
 f169:=Tryz.func177.trans (congrArg some (by kernel_rfl))
 f240:=Tryz.func194.trans (congrArg some (by kernel_rfl))
 f241:=Tryz.func211.trans (congrArg some (by kernel_rfl))
 f276:=Tryz.func207.trans (congrArg some (by kernel_rfl))
 f277:=Tryz.func221.trans (congrArg some (by kernel_rfl))
 t0:=Tryz.underlying0
 a0:=Tryz.isAgg0
 z0:=Tryz.sizeOf0
 v0:=Tryz.zeroValue0
 t3:=Tryz.underlying3
 a3:=Tryz.isAgg3
 z3:=Tryz.sizeOf3
 v3:=Tryz.zeroValue3
 t4:=Tryz.underlying4
 a4:=Tryz.isAgg4
 z4:=Tryz.sizeOf4
 v4:=Tryz.zeroValue4
 t9:=Tryz.underlying9
 a9:=Tryz.isAgg9
 z9:=Tryz.sizeOf9
 v9:=Tryz.zeroValue9
 t20:=Tryz.underlying20
 a20:=Tryz.isAgg20
 z20:=Tryz.sizeOf20
 v20:=Tryz.zeroValue20
 t31:=Tryz.underlying23
 a31:=Tryz.isAgg23
 z31:=Tryz.sizeOf23
 v31:=Tryz.zeroValue23
 t37:=Tryz.underlying22
 a37:=Tryz.isAgg22
 z37:=Tryz.sizeOf22
 v37:=Tryz.zeroValue22
 t70:=Tryz.underlying188
 a70:=Tryz.isAgg188
 z70:=Tryz.sizeOf188
 v70:=Tryz.zeroValue188
 t72:=Tryz.underlying190
 a72:=Tryz.isAgg190
 z72:=Tryz.sizeOf190
 v72:=Tryz.zeroValue190
 t75:=Tryz.underlying170
 a75:=Tryz.isAgg170
 z75:=Tryz.sizeOf170
 v75:=Tryz.zeroValue170
 t76:=Tryz.underlying171
 a76:=Tryz.isAgg171
 z76:=Tryz.sizeOf171
 v76:=Tryz.zeroValue171
 t127:=Tryz.underlying199
 a127:=Tryz.isAgg199
 z127:=Tryz.sizeOf199
 v127:=Tryz.zeroValue199
 t164:=Tryz.underlying219
 a164:=Tryz.isAgg219
 z164:=Tryz.sizeOf219
 v164:=Tryz.zeroValue219 }
def Tryz.ff:Builder.Extra Tryz.prog Tryz.ix:= {
 sizeBuilder:=by kernel_rfl
 liesBuilder:=by kernel_rfl
 t5:=Tryz.underlying5
 a5:=Tryz.isAgg5
 z5:=Tryz.sizeOf5
 v5:=Tryz.zeroValue5
 infoByte:=by kernel_rfl
 cellsByte:=by kernel_rfl
 sizeByte:=by kernel_rfl
 neB5:=by decide }
open Go.RowKit in
def Tryz.strings_Join_none (a:Option Addr) (c:Nat) (sep:ByteArray) (w:World):
  Calls Tryz.prog 180 #[.slice a 0 c,.string sep] w λe w'=>e= .returned (.string ⟨#[]⟩)/\w'=w:=Any.strings_Join_none Tryz.oY Tryz.ff a c sep w
open Go.RowKit in
def Tryz.strings_Join (bk o c:Nat) (xs:List ByteArray) (sep:ByteArray) (w:World) (O3:∀(j:Nat) x,xs[j]?=some x->w.cell? ⟨bk,o+j,none⟩=some (.string x)) (hbk:bk<w.heap.size) (hN:xs.length<=140737488355328) (xg:xs.length<=c) (hlen:(Lib.join (xs.map (·.data.toList)) sep.data.toList).length<=140737488355328):
  Calls Tryz.prog 180 #[.slice (some ⟨bk,o,none⟩) xs.length c,.string sep] w λe w'=>e= .returned (.string ⟨(Lib.join (xs.map (·.data.toList)) sep.data.toList).toArray⟩)/\Below w.heap.size w w':=Any.strings_Join Tryz.oY Tryz.ff bk o c xs sep w O3 hbk hN xg hlen
def Tryz.aam:Go.Shelf.Ren:=⟨λ|172=>142 |244=>168 |245=>169 |247=>188 |279=>189 |280=>190 |281=>191 |282=>192 |287=>204 |316=>167 |171=>170 |205=>205 |321=>214 |322=>215 |243=>193 |246=>206 |283=>216 |284=>217 |285=>218 |286=>219 |129=>223 |317=>222 |318=>224 |319=>225 |320=>226 |337=>227 |338=>228 |n=>n,λ|9=>9 |3=>3 |75=>170 |76=>171 |4=>4 |5=>5 |167=>200 |37=>22 |0=>0 |85=>201 |2=>2 |168=>203 |53=>212 |175=>213 |46=>211 |210=>216 |127=>199 |145=>229 |143=>227 |21=>21 |171=>230 |173=>233 |212=>237 |51=>223 |20=>20 |213=>238 |232=>245 |233=>246 |80=>193 |n=>n,λ|15=>1 |16=>2 |17=>3 |18=>6 |19=>7 |n=>n⟩
def Tryz.ali:Go.Proofs.Lays.n172 Tryz.prog Tryz.aam:= {
 mixed:=by kernel_rfl
 f129:=Tryz.func223.trans (congrArg some (by kernel_rfl))
 f171:=Tryz.func170.trans (congrArg some (by kernel_rfl))
 f172:=Tryz.func142.trans (congrArg some (by kernel_rfl))
 f205:=Tryz.func205.trans (congrArg some (by kernel_rfl))
 f243:=Tryz.func193.trans (congrArg some (by kernel_rfl))
 f244:=Tryz.func168.trans (congrArg some (by kernel_rfl))
 f245:=Tryz.func169.trans (congrArg some (by kernel_rfl))
 f246:=Tryz.func206.trans (congrArg some (by kernel_rfl))
 f247:=Tryz.func188.trans (congrArg some (by kernel_rfl))
 f279:=Tryz.func189.trans (congrArg some (by kernel_rfl))
 f280:=Tryz.func190.trans (congrArg some (by kernel_rfl))
 f281:=Tryz.func191.trans (congrArg some (by kernel_rfl))
 f282:=Tryz.func192.trans (congrArg some (by kernel_rfl))
 f283:=Tryz.func216.trans (congrArg some (by kernel_rfl))
 f284:=Tryz.func217.trans (congrArg some (by kernel_rfl))
 f285:=Tryz.func218.trans (congrArg some (by kernel_rfl))
 f286:=Tryz.func219.trans (congrArg some (by kernel_rfl))
 f287:=Tryz.func204.trans (congrArg some (by kernel_rfl))
 f316:=Tryz.func167.trans (congrArg some (by kernel_rfl))
 f317:=Tryz.func222.trans (congrArg some (by kernel_rfl))
 f318:=Tryz.func224.trans (congrArg some (by kernel_rfl))
 f319:=Tryz.func225.trans (congrArg some (by kernel_rfl))
 f320:=Tryz.func226.trans (congrArg some (by kernel_rfl))
 f321:=Tryz.func214.trans (congrArg some (by kernel_rfl))
 f322:=Tryz.func215.trans (congrArg some (by kernel_rfl))
 f337:=Tryz.func227.trans (congrArg some (by kernel_rfl))
 f338:=Tryz.func228.trans (congrArg some (by kernel_rfl))
 t0:=Tryz.underlying0
 a0:=Tryz.isAgg0
 z0:=Tryz.sizeOf0
 v0:=Tryz.zeroValue0
 t2:=Tryz.underlying2
 a2:=Tryz.isAgg2
 z2:=Tryz.sizeOf2
 v2:=Tryz.zeroValue2
 t3:=Tryz.underlying3
 a3:=Tryz.isAgg3
 z3:=Tryz.sizeOf3
 v3:=Tryz.zeroValue3
 t4:=Tryz.underlying4
 a4:=Tryz.isAgg4
 z4:=Tryz.sizeOf4
 v4:=Tryz.zeroValue4
 t5:=Tryz.underlying5
 a5:=Tryz.isAgg5
 z5:=Tryz.sizeOf5
 v5:=Tryz.zeroValue5
 t9:=Tryz.underlying9
 a9:=Tryz.isAgg9
 z9:=Tryz.sizeOf9
 v9:=Tryz.zeroValue9
 t20:=Tryz.underlying20
 a20:=Tryz.isAgg20
 z20:=Tryz.sizeOf20
 v20:=Tryz.zeroValue20
 t21:=Tryz.underlying21
 a21:=Tryz.isAgg21
 z21:=Tryz.sizeOf21
 v21:=Tryz.zeroValue21
 t37:=Tryz.underlying22
 a37:=Tryz.isAgg22
 z37:=Tryz.sizeOf22
 v37:=Tryz.zeroValue22
 t46:=Tryz.underlying211
 a46:=Tryz.isAgg211
 z46:=Tryz.sizeOf211
 v46:=Tryz.zeroValue211
 t51:=Tryz.underlying223
 a51:=Tryz.isAgg223
 z51:=Tryz.sizeOf223
 v51:=Tryz.zeroValue223
 t53:=Tryz.underlying212
 a53:=Tryz.isAgg212
 z53:=Tryz.sizeOf212
 v53:=Tryz.zeroValue212
 t75:=Tryz.underlying170
 a75:=Tryz.isAgg170
 z75:=Tryz.sizeOf170
 v75:=Tryz.zeroValue170
 t76:=Tryz.underlying171
 a76:=Tryz.isAgg171
 z76:=Tryz.sizeOf171
 v76:=Tryz.zeroValue171
 t85:=Tryz.underlying201
 a85:=Tryz.isAgg201
 z85:=Tryz.sizeOf201
 v85:=Tryz.zeroValue201
 t127:=Tryz.underlying199
 a127:=Tryz.isAgg199
 z127:=Tryz.sizeOf199
 v127:=Tryz.zeroValue199
 t143:=Tryz.underlying227
 a143:=Tryz.isAgg227
 z143:=Tryz.sizeOf227
 v143:=Tryz.zeroValue227
 t145:=Tryz.underlying229
 a145:=Tryz.isAgg229
 z145:=Tryz.sizeOf229
 v145:=Tryz.zeroValue229
 t167:=Tryz.underlying200
 a167:=Tryz.isAgg200
 z167:=Tryz.sizeOf200
 v167:=Tryz.zeroValue200
 t168:=Tryz.underlying203
 a168:=Tryz.isAgg203
 z168:=Tryz.sizeOf203
 v168:=Tryz.zeroValue203
 t171:=Tryz.underlying230
 a171:=Tryz.isAgg230
 z171:=Tryz.sizeOf230
 v171:=Tryz.zeroValue230
 t173:=Tryz.underlying233
 a173:=Tryz.isAgg233
 z173:=Tryz.sizeOf233
 v173:=Tryz.zeroValue233
 t175:=Tryz.underlying213
 a175:=Tryz.isAgg213
 z175:=Tryz.sizeOf213
 v175:=Tryz.zeroValue213
 t210:=Tryz.underlying216
 a210:=Tryz.isAgg216
 z210:=Tryz.sizeOf216
 v210:=Tryz.zeroValue216
 t212:=Tryz.underlying237
 a212:=Tryz.isAgg237
 z212:=Tryz.sizeOf237
 v212:=Tryz.zeroValue237
 t213:=Tryz.underlying238
 a213:=Tryz.isAgg238
 z213:=Tryz.sizeOf238
 t232:=Tryz.underlying245
 a232:=Tryz.isAgg245
 z232:=Tryz.sizeOf245
 v232:=Tryz.zeroValue245
 t233:=Tryz.underlying246
 a233:=Tryz.isAgg246
 z233:=Tryz.sizeOf246
 v233:=Tryz.zeroValue246
 g15:=by kernel_rfl
 g16:=by kernel_rfl
 g17:=by kernel_rfl
 g18:=by kernel_rfl
 g19:=by kernel_rfl }
open Go.RowKit in
def Tryz.strconv_Atoi (s:ByteArray) (n:Int) (hl:s.size<=18) (h:Lib.atoi s.data.toList=some n) (w:World):
  Calls Tryz.prog 142 #[.string s] w λe w'=>e= .returned (.tuple #[.int .i64 n,.nilIface])/\∃t,w'=Lib.bytesWorld w 5 t:=Any.strconv_Atoi Tryz.ali s n hl h w
def Tryz.VT:Go.Shelf.Ren:=⟨λ|171=>170 |243=>193 |246=>206 |283=>216 |284=>217 |285=>218 |286=>219 |129=>223 |317=>222 |318=>224 |319=>225 |320=>226 |337=>227 |338=>228 |n=>n,λ|3=>3 |9=>9 |2=>2 |4=>4 |171=>230 |0=>0 |53=>212 |37=>22 |5=>5 |173=>233 |212=>237 |51=>223 |20=>20 |213=>238 |46=>211 |232=>245 |233=>246 |n=>n,λ|17=>3 |18=>6 |19=>7 |n=>n⟩
def Tryz.aiP:Go.Proofs.LaysM.n171 Tryz.prog Tryz.VT:= {
 mixed:=by kernel_rfl
 f129:=Tryz.func223.trans (congrArg some (by kernel_rfl))
 f171:=Tryz.func170.trans (congrArg some (by kernel_rfl))
 f243:=Tryz.func193.trans (congrArg some (by kernel_rfl))
 f246:=Tryz.func206.trans (congrArg some (by kernel_rfl))
 f283:=Tryz.func216.trans (congrArg some (by kernel_rfl))
 f284:=Tryz.func217.trans (congrArg some (by kernel_rfl))
 f285:=Tryz.func218.trans (congrArg some (by kernel_rfl))
 f286:=Tryz.func219.trans (congrArg some (by kernel_rfl))
 f317:=Tryz.func222.trans (congrArg some (by kernel_rfl))
 f318:=Tryz.func224.trans (congrArg some (by kernel_rfl))
 f319:=Tryz.func225.trans (congrArg some (by kernel_rfl))
 f320:=Tryz.func226.trans (congrArg some (by kernel_rfl))
 f337:=Tryz.func227.trans (congrArg some (by kernel_rfl))
 f338:=Tryz.func228.trans (congrArg some (by kernel_rfl))
 t0:=Tryz.underlying0
 a0:=Tryz.isAgg0
 z0:=Tryz.sizeOf0
 v0:=Tryz.zeroValue0
 t2:=Tryz.underlying2
 a2:=Tryz.isAgg2
 z2:=Tryz.sizeOf2
 v2:=Tryz.zeroValue2
 t3:=Tryz.underlying3
 a3:=Tryz.isAgg3
 z3:=Tryz.sizeOf3
 v3:=Tryz.zeroValue3
 t4:=Tryz.underlying4
 a4:=Tryz.isAgg4
 z4:=Tryz.sizeOf4
 v4:=Tryz.zeroValue4
 t5:=Tryz.underlying5
 a5:=Tryz.isAgg5
 z5:=Tryz.sizeOf5
 v5:=Tryz.zeroValue5
 t9:=Tryz.underlying9
 a9:=Tryz.isAgg9
 z9:=Tryz.sizeOf9
 v9:=Tryz.zeroValue9
 t20:=Tryz.underlying20
 a20:=Tryz.isAgg20
 z20:=Tryz.sizeOf20
 v20:=Tryz.zeroValue20
 t37:=Tryz.underlying22
 a37:=Tryz.isAgg22
 z37:=Tryz.sizeOf22
 v37:=Tryz.zeroValue22
 t46:=Tryz.underlying211
 a46:=Tryz.isAgg211
 z46:=Tryz.sizeOf211
 v46:=Tryz.zeroValue211
 t51:=Tryz.underlying223
 a51:=Tryz.isAgg223
 z51:=Tryz.sizeOf223
 v51:=Tryz.zeroValue223
 t53:=Tryz.underlying212
 a53:=Tryz.isAgg212
 z53:=Tryz.sizeOf212
 v53:=Tryz.zeroValue212
 t171:=Tryz.underlying230
 a171:=Tryz.isAgg230
 z171:=Tryz.sizeOf230
 v171:=Tryz.zeroValue230
 t173:=Tryz.underlying233
 a173:=Tryz.isAgg233
 z173:=Tryz.sizeOf233
 v173:=Tryz.zeroValue233
 t212:=Tryz.underlying237
 a212:=Tryz.isAgg237
 z212:=Tryz.sizeOf237
 v212:=Tryz.zeroValue237
 t213:=Tryz.underlying238
 a213:=Tryz.isAgg238
 z213:=Tryz.sizeOf238
 t232:=Tryz.underlying245
 a232:=Tryz.isAgg245
 z232:=Tryz.sizeOf245
 v232:=Tryz.zeroValue245
 t233:=Tryz.underlying246
 a233:=Tryz.isAgg246
 z233:=Tryz.sizeOf246
 v233:=Tryz.zeroValue246
 g17:=by kernel_rfl
 g18:=by kernel_rfl
 g19:=by kernel_rfl
 i0:=by kernel_rfl
 i2:=by kernel_rfl
 i3:=by kernel_rfl
 i4:=by kernel_rfl
 i5:=by kernel_rfl
 i9:=by kernel_rfl
 i20:=by kernel_rfl
 i37:=by kernel_rfl
 i46:=by kernel_rfl
 i51:=by kernel_rfl
 i53:=by kernel_rfl
 i171:=by kernel_rfl
 i173:=by kernel_rfl
 i212:=by kernel_rfl
 i232:=by kernel_rfl
 i233:=by kernel_rfl
 m17:=by kernel_rfl
 m18:=by kernel_rfl
 m19:=by kernel_rfl }
open Go.RowKit Go.Sort Go.Lib in
def Tryz.strconv_Itoa (n : Int) (h0 : -9223372036854775808 ≤ n) (h1 : n ≤ 9223372036854775807) (w : World) (htab : Lib.TabIs Tryz.prog w "internal/strconv.uint64pow10" .u64 Lib.pow10Tab) :
  Calls Tryz.prog 170 #[.int .i64 n] w λe w'=>e= .returned (.string ⟨(Lib.itoa n).toArray⟩)/\∃k os,w'=grow (w.drewN k) os:=Any.strconv_Itoa Tryz.aiP n h0 h1 w htab
def Tryz.VU:Go.Shelf.Ren:=⟨λ|172=>142 |244=>168 |245=>169 |247=>188 |279=>189 |280=>190 |281=>191 |282=>192 |287=>204 |316=>167 |171=>170 |205=>205 |321=>214 |322=>215 |243=>193 |246=>206 |283=>216 |284=>217 |285=>218 |286=>219 |129=>223 |317=>222 |318=>224 |319=>225 |320=>226 |337=>227 |338=>228 |n=>n,λ|9=>9 |3=>3 |75=>170 |76=>171 |4=>4 |5=>5 |167=>200 |37=>22 |0=>0 |85=>201 |2=>2 |168=>203 |53=>212 |175=>213 |46=>211 |210=>216 |127=>199 |145=>229 |143=>227 |21=>21 |171=>230 |173=>233 |212=>237 |51=>223 |20=>20 |213=>238 |232=>245 |233=>246 |80=>193 |n=>n,λ|15=>1 |16=>2 |17=>3 |18=>6 |19=>7 |n=>n⟩
def Tryz.aiQ:Go.Proofs.LaysC.n172 Tryz.prog Tryz.VU:= {
 mixed:=by kernel_rfl
 f129:=Tryz.func223.trans (congrArg some (by kernel_rfl))
 f171:=Tryz.func170.trans (congrArg some (by kernel_rfl))
 f172:=Tryz.func142.trans (congrArg some (by kernel_rfl))
 f205:=Tryz.func205.trans (congrArg some (by kernel_rfl))
 f243:=Tryz.func193.trans (congrArg some (by kernel_rfl))
 f244:=Tryz.func168.trans (congrArg some (by kernel_rfl))
 f245:=Tryz.func169.trans (congrArg some (by kernel_rfl))
 f246:=Tryz.func206.trans (congrArg some (by kernel_rfl))
 f247:=Tryz.func188.trans (congrArg some (by kernel_rfl))
 f279:=Tryz.func189.trans (congrArg some (by kernel_rfl))
 f280:=Tryz.func190.trans (congrArg some (by kernel_rfl))
 f281:=Tryz.func191.trans (congrArg some (by kernel_rfl))
 f282:=Tryz.func192.trans (congrArg some (by kernel_rfl))
 f283:=Tryz.func216.trans (congrArg some (by kernel_rfl))
 f284:=Tryz.func217.trans (congrArg some (by kernel_rfl))
 f285:=Tryz.func218.trans (congrArg some (by kernel_rfl))
 f286:=Tryz.func219.trans (congrArg some (by kernel_rfl))
 f287:=Tryz.func204.trans (congrArg some (by kernel_rfl))
 f316:=Tryz.func167.trans (congrArg some (by kernel_rfl))
 f317:=Tryz.func222.trans (congrArg some (by kernel_rfl))
 f318:=Tryz.func224.trans (congrArg some (by kernel_rfl))
 f319:=Tryz.func225.trans (congrArg some (by kernel_rfl))
 f320:=Tryz.func226.trans (congrArg some (by kernel_rfl))
 f321:=Tryz.func214.trans (congrArg some (by kernel_rfl))
 f322:=Tryz.func215.trans (congrArg some (by kernel_rfl))
 f337:=Tryz.func227.trans (congrArg some (by kernel_rfl))
 f338:=Tryz.func228.trans (congrArg some (by kernel_rfl))
 t0:=Tryz.underlying0
 a0:=Tryz.isAgg0
 z0:=Tryz.sizeOf0
 v0:=Tryz.zeroValue0
 t2:=Tryz.underlying2
 a2:=Tryz.isAgg2
 z2:=Tryz.sizeOf2
 v2:=Tryz.zeroValue2
 t3:=Tryz.underlying3
 a3:=Tryz.isAgg3
 z3:=Tryz.sizeOf3
 v3:=Tryz.zeroValue3
 t4:=Tryz.underlying4
 a4:=Tryz.isAgg4
 z4:=Tryz.sizeOf4
 v4:=Tryz.zeroValue4
 t5:=Tryz.underlying5
 a5:=Tryz.isAgg5
 z5:=Tryz.sizeOf5
 v5:=Tryz.zeroValue5
 t9:=Tryz.underlying9
 a9:=Tryz.isAgg9
 z9:=Tryz.sizeOf9
 v9:=Tryz.zeroValue9
 t20:=Tryz.underlying20
 a20:=Tryz.isAgg20
 z20:=Tryz.sizeOf20
 v20:=Tryz.zeroValue20
 t21:=Tryz.underlying21
 a21:=Tryz.isAgg21
 z21:=Tryz.sizeOf21
 v21:=Tryz.zeroValue21
 t37:=Tryz.underlying22
 a37:=Tryz.isAgg22
 z37:=Tryz.sizeOf22
 v37:=Tryz.zeroValue22
 t46:=Tryz.underlying211
 a46:=Tryz.isAgg211
 z46:=Tryz.sizeOf211
 v46:=Tryz.zeroValue211
 t51:=Tryz.underlying223
 a51:=Tryz.isAgg223
 z51:=Tryz.sizeOf223
 v51:=Tryz.zeroValue223
 t53:=Tryz.underlying212
 a53:=Tryz.isAgg212
 z53:=Tryz.sizeOf212
 v53:=Tryz.zeroValue212
 t75:=Tryz.underlying170
 a75:=Tryz.isAgg170
 z75:=Tryz.sizeOf170
 v75:=Tryz.zeroValue170
 t76:=Tryz.underlying171
 a76:=Tryz.isAgg171
 z76:=Tryz.sizeOf171
 v76:=Tryz.zeroValue171
 t85:=Tryz.underlying201
 a85:=Tryz.isAgg201
 z85:=Tryz.sizeOf201
 v85:=Tryz.zeroValue201
 t127:=Tryz.underlying199
 a127:=Tryz.isAgg199
 z127:=Tryz.sizeOf199
 v127:=Tryz.zeroValue199
 t143:=Tryz.underlying227
 a143:=Tryz.isAgg227
 z143:=Tryz.sizeOf227
 v143:=Tryz.zeroValue227
 t145:=Tryz.underlying229
 a145:=Tryz.isAgg229
 z145:=Tryz.sizeOf229
 v145:=Tryz.zeroValue229
 t167:=Tryz.underlying200
 a167:=Tryz.isAgg200
 z167:=Tryz.sizeOf200
 v167:=Tryz.zeroValue200
 t168:=Tryz.underlying203
 a168:=Tryz.isAgg203
 z168:=Tryz.sizeOf203
 v168:=Tryz.zeroValue203
 t171:=Tryz.underlying230
 a171:=Tryz.isAgg230
 z171:=Tryz.sizeOf230
 v171:=Tryz.zeroValue230
 t173:=Tryz.underlying233
 a173:=Tryz.isAgg233
 z173:=Tryz.sizeOf233
 v173:=Tryz.zeroValue233
 t175:=Tryz.underlying213
 a175:=Tryz.isAgg213
 z175:=Tryz.sizeOf213
 v175:=Tryz.zeroValue213
 t210:=Tryz.underlying216
 a210:=Tryz.isAgg216
 z210:=Tryz.sizeOf216
 v210:=Tryz.zeroValue216
 t212:=Tryz.underlying237
 a212:=Tryz.isAgg237
 z212:=Tryz.sizeOf237
 v212:=Tryz.zeroValue237
 t213:=Tryz.underlying238
 a213:=Tryz.isAgg238
 z213:=Tryz.sizeOf238
 t232:=Tryz.underlying245
 a232:=Tryz.isAgg245
 z232:=Tryz.sizeOf245
 v232:=Tryz.zeroValue245
 t233:=Tryz.underlying246
 a233:=Tryz.isAgg246
 z233:=Tryz.sizeOf246
 v233:=Tryz.zeroValue246
 g15:=by kernel_rfl
 g16:=by kernel_rfl
 g17:=by kernel_rfl
 g18:=by kernel_rfl
 g19:=by kernel_rfl
 t80:=Tryz.underlying193
 a80:=Tryz.isAgg193
 z80:=Tryz.sizeOf193
 v80:=Tryz.zeroValue193
 i0:=by kernel_rfl
 i2:=by kernel_rfl
 i3:=by kernel_rfl
 i4:=by kernel_rfl
 i5:=by kernel_rfl
 i9:=by kernel_rfl
 i20:=by kernel_rfl
 i21:=by kernel_rfl
 i37:=by kernel_rfl
 i46:=by kernel_rfl
 i51:=by kernel_rfl
 i53:=by kernel_rfl
 i75:=by kernel_rfl
 i76:=by kernel_rfl
 i80:=by kernel_rfl
 i85:=by kernel_rfl
 i127:=by kernel_rfl
 i143:=by kernel_rfl
 i145:=by kernel_rfl
 i167:=by kernel_rfl
 i168:=by kernel_rfl
 i171:=by kernel_rfl
 i173:=by kernel_rfl
 i175:=by kernel_rfl
 i210:=by kernel_rfl
 i212:=by kernel_rfl
 i232:=by kernel_rfl
 i233:=by kernel_rfl
 m15:=by kernel_rfl
 m16:=by kernel_rfl
 m17:=by kernel_rfl
 m18:=by kernel_rfl
 m19:=by kernel_rfl
 c0:=by kernel_rfl
 c2:=by kernel_rfl
 c3:=by kernel_rfl
 c4:=by kernel_rfl
 c5:=by kernel_rfl
 c9:=by kernel_rfl
 c20:=by kernel_rfl
 c21:=by kernel_rfl
 c37:=by kernel_rfl
 c46:=by kernel_rfl
 c51:=by kernel_rfl
 c53:=by kernel_rfl
 c75:=by kernel_rfl
 c76:=by kernel_rfl
 c80:=by kernel_rfl
 c85:=by kernel_rfl
 c127:=by kernel_rfl
 c143:=by kernel_rfl
 c145:=by kernel_rfl
 c167:=by kernel_rfl
 c168:=by kernel_rfl
 c171:=by kernel_rfl
 c173:=by kernel_rfl
 c175:=by kernel_rfl
 c210:=by kernel_rfl
 c212:=by kernel_rfl
 c213:=by kernel_rfl
 c232:=by kernel_rfl
 c233:=by kernel_rfl }
open Go.RowKit in
def Tryz.strconv_Atoi_err_var (s : ByteArray) (hl : s.size ≤ 18) (h : Lib.atoi s.data.toList = none) (tp : TypeId) (p : Value) (w : World) (hvar : w.var? Tryz.prog "strconv.ErrSyntax" = some #[.iface tp p]) :
  Calls Tryz.prog 142 #[.string s] w λe w'=>∃N,e= .returned (.tuple #[.int .i64 0,.iface 203 (.pointer (some ⟨N,0,none⟩))])/\w.heap.size<=N/\w'.heap[N]?=some (.cells #[.string ⟨#[65,116,111,105]⟩,.string s,.iface tp p] 216 (0,0))/\Below w.heap.size w w':=Any.strconv_Atoi_err_var Tryz.aiQ s hl h tp p w hvar
def Tryz.aan:Go.Shelf.Ren:=⟨λ|146=>151 |221=>178 |268=>195 |138=>196 |143=>197 |195=>208 |197=>209 |218=>210 |219=>187 |260=>220 |217=>200 |225=>201 |224=>202 |267=>203 |266=>212 |314=>213 |n=>n,λ|9=>9 |31=>23 |3=>3 |4=>4 |0=>0 |105=>221 |21=>21 |5=>5 |46=>211 |119=>240 |139=>243 |138=>242 |146=>224 |51=>223 |n=>n,λ|1=>0 |3=>4 |4=>5 |n=>n⟩
def Tryz.alj:Go.Proofs.Lays.n146 Tryz.prog Tryz.aan:= {
 mixed:=by kernel_rfl
 f138:=Tryz.func196.trans (congrArg some (by kernel_rfl))
 f143:=Tryz.func197.trans (congrArg some (by kernel_rfl))
 f146:=Tryz.func151.trans (congrArg some (by kernel_rfl))
 f195:=Tryz.func208.trans (congrArg some (by kernel_rfl))
 f197:=Tryz.func209.trans (congrArg some (by kernel_rfl))
 f217:=Tryz.func200.trans (congrArg some (by kernel_rfl))
 f218:=Tryz.func210.trans (congrArg some (by kernel_rfl))
 f219:=Tryz.func187.trans (congrArg some (by kernel_rfl))
 f221:=Tryz.func178.trans (congrArg some (by kernel_rfl))
 f224:=Tryz.func202.trans (congrArg some (by kernel_rfl))
 f225:=Tryz.func201.trans (congrArg some (by kernel_rfl))
 f260:=Tryz.func220.trans (congrArg some (by kernel_rfl))
 f266:=Tryz.func212.trans (congrArg some (by kernel_rfl))
 f267:=Tryz.func203.trans (congrArg some (by kernel_rfl))
 f268:=Tryz.func195.trans (congrArg some (by kernel_rfl))
 f314:=Tryz.func213.trans (congrArg some (by kernel_rfl))
 t0:=Tryz.underlying0
 a0:=Tryz.isAgg0
 z0:=Tryz.sizeOf0
 v0:=Tryz.zeroValue0
 t3:=Tryz.underlying3
 a3:=Tryz.isAgg3
 z3:=Tryz.sizeOf3
 v3:=Tryz.zeroValue3
 t4:=Tryz.underlying4
 a4:=Tryz.isAgg4
 z4:=Tryz.sizeOf4
 v4:=Tryz.zeroValue4
 t5:=Tryz.underlying5
 a5:=Tryz.isAgg5
 z5:=Tryz.sizeOf5
 v5:=Tryz.zeroValue5
 t9:=Tryz.underlying9
 a9:=Tryz.isAgg9
 z9:=Tryz.sizeOf9
 v9:=Tryz.zeroValue9
 t21:=Tryz.underlying21
 a21:=Tryz.isAgg21
 z21:=Tryz.sizeOf21
 v21:=Tryz.zeroValue21
 t31:=Tryz.underlying23
 a31:=Tryz.isAgg23
 z31:=Tryz.sizeOf23
 v31:=Tryz.zeroValue23
 t46:=Tryz.underlying211
 a46:=Tryz.isAgg211
 z46:=Tryz.sizeOf211
 v46:=Tryz.zeroValue211
 t51:=Tryz.underlying223
 a51:=Tryz.isAgg223
 z51:=Tryz.sizeOf223
 v51:=Tryz.zeroValue223
 t105:=Tryz.underlying221
 a105:=Tryz.isAgg221
 z105:=Tryz.sizeOf221
 v105:=Tryz.zeroValue221
 t119:=Tryz.underlying240
 a119:=Tryz.isAgg240
 z119:=Tryz.sizeOf240
 t138:=Tryz.underlying242
 a138:=Tryz.isAgg242
 z138:=Tryz.sizeOf242
 v138:=Tryz.zeroValue242
 t139:=Tryz.underlying243
 a139:=Tryz.isAgg243
 z139:=Tryz.sizeOf243
 v139:=Tryz.zeroValue243
 t146:=Tryz.underlying224
 a146:=Tryz.isAgg224
 z146:=Tryz.sizeOf224
 v146:=Tryz.zeroValue224
 g1:=by kernel_rfl
 g3:=by kernel_rfl
 g4:=by kernel_rfl }
open Go.RowKit Go.Lib in
def Tryz.strings_Split (s sep:ByteArray) (m:Int) (w:World) (hs:s.size<4294967281) (hm:w.cell? ⟨0,0,none⟩=some (.int .i64 m)) (h1:1<=sep.size):
  Calls Tryz.prog 151 #[.string s,.string sep] w λe w'=>
   e= .returned (.slice (some ⟨w.heap.size,0,none⟩) (Lib.countB s sep+1) (Lib.countB s sep+1))/\w'=w.alloc (.cells ((Lib.splitB sep 0 (Lib.countB s sep) s).map Value.string).toArray 9):=Any.strings_Split Tryz.alj (by kernel_rfl) s sep m w hs hm h1
end Go.Proofs
namespace Go.Proofs.YtndmmmcglebllaaGreatDoor
namespace GL
open Go.RowKit
def NO (T:a8) (W w':World):a8:=λb=>if b<W.heap.size then T b else match w'.heap[b]? with
 |some (.cells cs e fr)=>some (.ro cs e fr)
 |_=>none
def uF {T:a8}{W w':World}{b:Nat}(h:b<W.heap.size):NO T W w' b=T b:=by unfold NO;rw [if_pos h]
def NM {T:a8}{W w':World}{b:Nat}(h:W.heap.size<=b) {cs:Array Value}{e:TypeId}{fr:Nat×Nat}(hb:w'.heap[b]?=some (.cells cs e fr)):NO T W w' b=some (.ro cs e fr):=by
 unfold NO;rw [if_neg (by omega),hb]
def NN {W w':World}{T:a8}{β:Nat->Nat}(hT:WT T W) (hN:pY T) (hB:Below W.heap.size W w'):afi W T β 0 (NO T W w') w' where
 typed:=λb k hb=>by
  by_cases h:b<W.heap.size
  ·rw [uF h] at hb
   exact BK.rX (hT b k hb) (hB.block b h)
  ·unfold NO at hb
   rw [if_neg h] at hb
   split at hb
   ·rename_i cs e fr hc;cases hb;exact hc
   ·cases hb
 ala:= {
  no:=λb ek n cs hb=>by
   by_cases h:b<W.heap.size
   ·rw [uF h] at hb;exact hN.no b ek n cs hb
   ·unfold NO at hb
    rw [if_neg h] at hb
    split at hb<;>cases hb
  pO:=λg hg=>by
   obtain⟨cs,e,fr,h1,h2⟩:=hN.pO g hg
   exact⟨cs,e,fr,by rw [uF (BK.lt (hT _ _ h1))];exact h1,h2⟩ }
 new:=λb hb=>uF hb
 frame:=λb hb _ _=>hB.block b hb
 gS:=hB.size
 os:=hB.os
 tape:=hB.tape
 output:=hB.output
def Has.lib {f:FuncId}{A:List AP}{pre:APs.Ty A->Prop}{r:APs.Ty A->AV}(hE:Enters Tryz.prog f) (rY:∀x,(r x).boxes=[]/\(r x).pQ=true)
  (h:∀x,pre x->∀(W:World) (T:a8) (β:Nat->Nat) (vs:List Value),WT T W->pY T->mW T β (APs.avs A x) vs->Calls Tryz.prog f vs.toArray W λe w'=>∃v,e= .returned v/\Below W.heap.size W w'/\(r x).rel (NO T W w') β v):Has Tryz.prog f (E2 A pre r):=by
 refine⟨λx y hp=>?_,hE⟩
 intro W T β vs hT hN cB wo cF
 refine (h x hp W T β vs hT hN cB).mono λe w' ⟨v,he,hB,hr⟩=>?_
 refine⟨v,r x,[],NO T W w',β,he,⟨(),trivial,ζ,ζ,ζ⟩,hr,⟨by rw [(rY x).1];simp,(rY x).2⟩,NN hT hN hB,?_⟩
 exact { len:=ZB0 _,same:=λi hi=>rfl,at_:=λi av hi _=>by simp at hi,inj:=λi j av av' hi _ _ _ _=>by simp at hi }
def below_freeze (W w:World) (h:Below W.heap.size W w) (a:Addr) (n:Nat) (ha:W.heap.size<=a.block):Below W.heap.size W (w.freeze a n) where
 os:=by simp only [World.freeze];split<;>exact h.os
 tape:=by simp only [World.freeze];split<;>exact h.tape
 output:=by simp only [World.freeze];split<;>exact h.output
 size:=by
  simp only [World.freeze]
  split
  ·exact h.size
  ·simp only [Array.size_modify];exact h.size
 block:=λk hk=>by
  simp only [World.freeze]
  split
  ·exact h.block k hk
  ·simp only [Array.getElem?_modify]
   rw [if_neg (by omega)]
   exact h.block k hk
def abf (W:World) (e:TypeId) (s:ByteArray):Below W.heap.size W (Lib.bytesWorld W e s):=
 below_freeze W _ ((Below.refl _ _).drew.alloc (ZB0 _) _) _ _ (ZB0 _)
def ady (W:World) (n:Nat) (os:Array Obj):Below W.heap.size W (Go.Sort.grow (W.drewN n) os) where
 os:=rfl
 tape:=rfl
 output:=rfl
 size:=by show W.heap.size<=(W.heap++os).size;simp
 block:=λk hk=>by
  show (W.heap++os)[k]?=_
  exact Array.getElem?_append_left hk
def KT {T:a8}{W:World}(hT:WT T W) (hN:pY T) {g:Nat}{p:Array Value->Prop}(h:(g,p)∈uO):∃cs e fr,W.heap[g]?=some (.cells cs e fr)/\p cs:=by
 obtain⟨cs,e,fr,h1,h2⟩:=hN.pO _ h
 exact⟨cs,e,fr,hT _ _ h1,h2⟩
def jU (s:ByteArray):Int×Bool:=match Lib.atoi s.data.toList with
 |some n=>(n,true)
 |none=>(0,false)
def akz:cu:=E2 [.s .str] (λs=>s.size<=18) λs=>.t [.s (.int (jU s).1),.s (.er (jU s).2)]
def anv:Has Tryz.prog 142 akz:=by
 refine Has.lib ⟨_,Tryz.func142,by rfl,by decide⟩ (λx=>⟨rfl,rfl⟩) λ(s:ByteArray) (hp:s.size<=18) W T β vs hT hN cB=>?_
 obtain⟨v,rfl⟩:∃v,vs=[v]:=by
  match vs,cB with
  |[v],_=>exact⟨v,rfl⟩
  |[],h=>exact h.elim
  |_::_::_,h=>exact h.2.elim
 have hv:v= .string s:=cB.1
 subst hv
 cases ha:Lib.atoi s.data.toList with
 |some n=>
  refine (Tryz.strconv_Atoi s n hp ha W).mono ?_
  rintro e w' ⟨rfl,t,rfl⟩
  refine⟨_,ζ,abf W _ t,?_⟩
  have e1:jU s=(n,true):=by unfold jU;rw [ha]
  show AV.rel _ _ (.t [.s (.int (jU s).1),.s (.er (jU s).2)]) _
  rw [e1]
  exact⟨_,rfl,rfl,rfl,trivial⟩
 |none=>
  obtain⟨cs,e,fr,h1,tp,p,rfl⟩:=KT hT hN (g:=1) (p:=λcs=>∃t v,cs= #[.iface t v]) (by unfold uO;simp)
  have hvar : W.var? Tryz.prog "strconv.ErrSyntax" = some #[.iface tp p] := by
   have hg : Tryz.prog.globalNamed "strconv.ErrSyntax" = some 1 := by kernel_rfl
   simp [World.var?,hg,h1]
  refine (Tryz.strconv_Atoi_err_var s hp ha tp p W hvar).mono ?_
  rintro e w' ⟨N,rfl,_,_,hB⟩
  refine⟨_,ζ,hB,?_⟩
  have e1:jU s=(0,false):=by unfold jU;rw [ha]
  show AV.rel _ _ (.t [.s (.int (jU s).1),.s (.er (jU s).2)]) _
  rw [e1]
  exact⟨_,rfl,rfl,⟨_,_,rfl⟩,trivial⟩
def aeD (n:Int):ByteArray:=⟨(Lib.itoa n).toArray⟩
def akx:cu:=E2 [.s .int] (λn=>gz<=n/\n<=imax) λn=>.s (.str (aeD n))
def ajb:Has Tryz.prog 170 akx:=by
 refine Has.lib ⟨_,Tryz.func170,by rfl,by decide⟩ (λx=>⟨rfl,rfl⟩) λ(n:Int) (hp:gz<=n/\n<=imax) W T β vs hT hN cB=>?_
 obtain⟨v,rfl⟩:∃v,vs=[v]:=by
  match vs,cB with
  |[v],_=>exact⟨v,rfl⟩
  |[],h=>exact h.elim
  |_::_::_,h=>exact h.2.elim
 have hv:v= .int .i64 n:=cB.1
 subst hv
 obtain⟨cs,e,fr,h1,rfl⟩:=KT hT hN (g:=3) (p:=λcs=>cs=(Lib.pow10Tab.map λz=>Value.int .u64 z).toArray) (by unfold uO;simp)
 have hvar : Lib.TabIs Tryz.prog W "internal/strconv.uint64pow10" .u64 Lib.pow10Tab := by
  have hg : Tryz.prog.globalNamed "internal/strconv.uint64pow10" = some 3 := by kernel_rfl
  simp [Lib.TabIs,World.var?,hg,h1]
 refine (Tryz.strconv_Itoa n hp.1 hp.2 W hvar).mono ?_
 rintro e w' ⟨rfl,k,os,rfl⟩
 exact⟨_,rfl,ady W k os,rfl⟩
theorem EP:∀l:List ByteArray,flat [.str 4096] l=l.map Value.string
 |[]=>rfl
 |x::l=>by rw [im,EP l];rfl
def jd (s sep:ByteArray):List ByteArray:=Lib.splitB sep 0 (Lib.countB s sep) s
def E8:cu:=E2 [.s .str,.s .str] (λ(s,sep)=>s.size<=1000000/\1<=sep.size) λ(s,sep)=>.s (.vw ab (jd s sep))
def KQ:Has Tryz.prog 151 E8:=by
 refine Has.lib ⟨_,Tryz.func151,by rfl,by decide⟩ (λx=>⟨rfl,rfl⟩) λ(x:ByteArray×ByteArray) (hp:x.1.size<=1000000/\1<=x.2.size) W T β vs hT hN cB=>?_
 obtain⟨s,sep⟩:=x
 obtain⟨v,u,rfl⟩:∃v u,vs=[v,u]:=by
  match vs,cB with
  |[v,u],_=>exact⟨v,u,rfl⟩
  |[],h=>exact h.elim
  |[_],h=>exact h.2.elim
  |_::_::_::_,h=>exact h.2.2.elim
 have hv:v= .string s:=cB.1
 have hu:u= .string sep:=cB.2.1
 subst hv;subst hu
 obtain⟨cs,e,fr,h1,m,rfl⟩:=KT hT hN (g:=0) (p:=λcs=>∃n,cs= #[.int .i64 n]) (by unfold uO;simp)
 have hm:W.cell? ⟨0,0,none⟩=some (.int .i64 m):=by rw [bO h1];rfl
 have hp1:s.size<=1000000:=hp.1
 have hs:s.size<4294967281:=by omega
 refine (Tryz.strings_Split s sep m W hs hm hp.2).mono ?_
 rintro e w' ⟨rfl,rfl⟩
 have hlen:(jd s sep).length=Lib.countB s sep+1:=Lib.splitB_all sep hp.2 0 _ s rfl
 refine⟨_,ζ,(Below.refl _ _).alloc (ZB0 _) _,?_⟩
 show (SV.vw ab (jd s sep)).rel _ β _
 refine .inr ⟨W.heap.size,0,Lib.countB s sep+1,_,_,_,?_,?_,NM (ZB0 _) (fr:=(0,0)) (Array.getElem?_push_size ..),?_⟩
 ·rw [hlen]
 ·rw [hlen];exact ZB0 _
 ·rw [EP]
  intro j v hj
  simpa [jd] using hj
def EG (sep:ByteArray) (l:List ByteArray):ByteArray:=⟨(Lib.join (l.map (·.data.toList)) sep.data.toList).toArray⟩
def P4:cu:=E2 [.s (.vz ab),.s .str] (λ(l,sep)=>(Lib.join (l.map (·.data.toList)) sep.data.toList).length<=1000000/\l.length<=1000000) λ(l,sep)=>.s (.str (EG sep l))
def WB:Has Tryz.prog 180 P4:=by
 refine Has.lib ⟨_,Tryz.func180,by rfl,by decide⟩ (λx=>⟨rfl,rfl⟩) λ(x:List ByteArray×ByteArray) (hp:(Lib.join (x.1.map (·.data.toList)) x.2.data.toList).length<=1000000/\x.1.length<=1000000) W T β vs hT hN cB=>?_
 obtain⟨l,sep⟩:=x
 obtain⟨v,u,rfl⟩:∃v u,vs=[v,u]:=by
  match vs,cB with
  |[v,u],_=>exact⟨v,u,rfl⟩
  |[],h=>exact h.elim
  |[_],h=>exact h.2.elim
  |_::_::_::_,h=>exact h.2.2.elim
 have hu:u= .string sep:=cB.2.1
 subst hu
 have hv:(SV.vz ab l).rel T β v:=cB.1
 rcases hv with ⟨rfl,p,cap,rfl⟩ |⟨b,o,cap,cs,rfl,hlc,dM,hw⟩
 ·refine (Tryz.strings_Join_none p cap sep W).mono ?_
  rintro e w' ⟨rfl,rfl⟩
  exact⟨_,rfl,Below.refl _ _,rfl⟩
 ·obtain⟨te,fr,hc⟩:=DT hT dM
  have hp1:(Lib.join (l.map (·.data.toList)) sep.data.toList).length<=1000000:=hp.1
  have hp2:l.length<=1000000:=hp.2
  refine (Tryz.strings_Join b o cap l sep W (λj x hj=>?_) ?_ (by omega) hlc (by omega)).mono ?_
  ·rw [bO hc]
   refine hw j _ ?_
   rw [EP,ZG7,hj];rfl
  ·rcases Nat.lt_or_ge b W.heap.size with h |h
   ·exact h
   ·rw [Array.getElem?_eq_none h] at hc;cases hc
  ·rintro e w' ⟨rfl,hB⟩
   exact⟨_,rfl,hB,rfl⟩
end GL
namespace GL
def apE (k:Nat):Lib.decDigits k=lb (dec k):=by
 induction k using Nat.strongRecOn with
 |_ k ih=>
  by_cases h:k<10
  ·rw [Lib.decDigits,dif_pos h,oy h]
  ·rw [Lib.decDigits,dif_neg h,qG h,ih (k / 10) (by omega)]
def SS {n:Int}(h:0<=n):aeD n=bL n:=by
 apply nq
 show Lib.itoa n=lb (dec n.toNat)
 unfold Lib.itoa
 rw [if_neg (by omega),apE]
def OQ (b:UInt8):Prop:=48<=b.toNat/\b.toNat<=57
def JP:∀(l:List UInt8) (acc m:Nat),Lib.decFrom acc l=some m->(∀b∈l,OQ b)/\(m:Int)=l.foldl (λn b=>10*n+((b.toNat:Int)-48)) (acc:Int)
 |[],acc,m,h=>by
  cases h
  refine⟨λb hb=>?_,ζ⟩
  cases hb
 |b::l,acc,m,h=>by
  unfold Lib.decFrom at h
  split at h
  ·rename_i d hd
   unfold Lib.digitVal at hd
   split at hd
   ·rename_i hb
    cases hd
    obtain⟨h1,h2⟩:=JP l _ _ h
    refine⟨λc hc=>?_,?_⟩
    ·rcases ZB7.1 hc with rfl |hc
     ·exact hb
     ·exact h1 c hc
    ·rw [h2,List.foldl_cons]
     congr 1
     have:=hb.1
     omega
   ·cases hd
  ·cases h
def PI:∀(l:List UInt8) (acc:Nat),(∀b∈l,OQ b)->∃m,Lib.decFrom acc l=some m
 |[],acc,_=>⟨acc,rfl⟩
 |b::l,acc,h=>by
  unfold Lib.decFrom Lib.digitVal
  have hb:48<=b.toNat/\b.toNat<=57:=h b (ZI4 ..)
  rw [if_pos hb]
  exact PI l _ λc hc=>h c (ZI0 _ hc)
def akH (k:Nat):Lib.atoi (lb (dec k))=some (k:Int):=by
 obtain⟨b,l,e,_⟩:=zY k
 have hd:=wy k
 rw [e] at hd ⊢
 have hb:=hd b (ZI4 ..)
 unfold Lib.atoi
 have h1:¬(b==45)=true:=λh=>by have:=beq_iff_eq.1 h;subst this;exact absurd hb.1 (by decide)
 have h2:¬(b==43)=true:=λh=>by have:=beq_iff_eq.1 h;subst this;exact absurd hb.1 (by decide)
 show (if (b==45)=true then _ else if (b==43)=true then _ else _)=_
 rw [if_neg h1,if_neg h2]
 unfold Lib.decNat
 rw [if_neg (by simp)]
 obtain⟨m,hm⟩:=PI (b::l) 0 hd
 rw [hm]
 have h3:=(JP _ _ _ hm).2
 have h4:=XL k
 rw [e] at h4
 unfold sC at h4
 simp only [Option.map_some,Option.some.injEq]
 rw [h3]
 exact h4
def canon:∀(n:Nat) (l:List UInt8),l.length=n->l≠[]->(∀b∈l,OQ b)->(∀b,l.head?=some b->b.toNat=48->l.length=1)->0<=sC l/\lb (dec (sC l).toNat)=l
 |0,l,hn,ft,_,_=>absurd (ZE2.1 hn) ft
 |n+1,l,hn,ft,hd,h0=>by
  obtain⟨l',b,rfl⟩:∃l' b,l=l'++[b]:=⟨l.dropLast,l.getLast ft,(List.dropLast_concat_getLast ft).symm⟩
  have hb:OQ b:=hd b (by simp)
  have hv:sC (l'++[b])=10*sC l'+((b.toNat:Int)-48):=zj l' b
  have hbo:UInt8.ofNat (48+(b.toNat-48))=b:=by
   have h1:=hb.1
   rw [show 48+(b.toNat-48)=b.toNat by omega]
   exact UInt8.ofNat_toNat
  by_cases hl:l'=[]
  ·subst hl
   rw [hv]
   have h1:sC []=0:=rfl
   rw [h1]
   obtain⟨h2,h3⟩:=hb
   refine⟨by omega,?_⟩
   rw [show (10*0+((b.toNat:Int)-48)).toNat=b.toNat-48 by omega,oy (by omega),hbo]
   rfl
  ·have hn':l'.length=n:=by simpa using hn
   obtain⟨c,m,rfl⟩:∃c m,l'=c::m:=by
    cases l' with
    |nil=>exact absurd rfl hl
    |cons c m=>exact⟨c,m,rfl⟩
   have apm:c.toNat≠48:=λh=>by
    have:=h0 c rfl h
    simp at this
   obtain⟨g1,g2⟩:=canon n (c::m) hn' (by simp) (λx hx=>hd x (List.mem_append_left _ hx)) (λx hx aqF=>by cases hx;exact absurd aqF apm)
   have oC:1<=(sC (c::m)).toNat:=by
    rcases Nat.eq_zero_or_pos (sC (c::m)).toNat with h |h
    ·rw [h,oy (by omega)] at g2
     cases g2
     exact absurd rfl apm
    ·exact h
   obtain⟨h2,h3⟩:=hb
   rw [hv]
   refine⟨by omega,?_⟩
   have e:(10*sC (c::m)+((b.toNat:Int)-48)).toNat=10*(sC (c::m)).toNat+(b.toNat-48):=by omega
   rw [e,qG (by omega),show (10*(sC (c::m)).toNat+(b.toNat-48)) / 10=(sC (c::m)).toNat by omega,show (10*(sC (c::m)).toNat+(b.toNat-48)) % 10=b.toNat-48 by omega,g2,hbo]
def VP:∀(f:Nat) (s:ByteArray) (k:Nat),k<=uI f s k/\uI f s k<=k+f/\∀i,k<=i->i<uI f s k->IE s i=true
 |0,s,k=>⟨ZB0 _,ZB0 _,λi h1 h2=>by unfold uI at h2;omega⟩
 |f+1,s,k=>by
  unfold uI
  cases h:IE s k with
  |false=>simp only [cond_false];exact⟨ZB0 _,by omega,λi h1 h2=>by omega⟩
  |true=>
   simp only [cond_true]
   obtain⟨h1,h2,h3⟩:=VP f s (k+1)
   refine⟨by omega,by omega,λi h4 h5=>?_⟩
   by_cases e:i=k
   ·subst e;exact h
   ·exact h3 i (by omega) h5
def aka {s:ByteArray}{i:Nat}(h:IE s i=true):i<(lb s).length/\∀b,(lb s)[i]?=some b->OQ b:=by
 unfold IE at h
 simp only [ZB1,decide_eq_true_eq] at h
 obtain⟨h1,_,h3,h4⟩:=h
 have hi:i<(lb s).length:=by rw [<-cT];omega
 refine⟨hi,λb hb=>?_⟩
 rw [oN,hb] at h3 h4
 simp only at h3 h4
 exact⟨by omega,by omega⟩
def num_inv {s:ByteArray}{m:Int}(h:aA s=(m,true)):s=bL m/\0<=m/\m<=999999999:=by
 unfold aA at h
 cases hc:decide ((D9 s).2=0)||decide ((D9 s).2≠(s.size:Int)) with
 |true=>rw [hc] at h;cases h
 |false=>
  rw [hc] at h
  simp only [cond_false,Prod.mk.injEq,and_true] at h
  simp only [ZD5,decide_eq_false_iff_not,ZE6] at hc
  obtain⟨hc1,hc2⟩:=hc
  obtain⟨b1,b2,b3⟩:=VP 9 s 0
  have hnl:uI 9 s 0=dC s:=rfl
  rw [hnl] at b2 b3
  have hle:dC s<=(lb s).length:=by
   by_cases h0:dC s=0
   ·omega
   ·have:=(aka (b3 (dC s-1) (ZA7 _) (by omega))).1
    omega
  unfold D9 at h hc1 hc2
  cases hq:decide ((dC s:Int)>1)&&decide (bX s 0=48) with
  |true=>
   rw [hq] at hc2
   simp only [ZB1,decide_eq_true_eq] at hq
   have h1:(1:Int)=s.size:=hc2
   rw [cT] at h1
   have:=hq.1
   omega
  |false=>
   rw [hq] at h hc1 hc2
   have h1:(dC s:Int)=s.size:=hc2
   have h0:(dC s:Int)≠0:=hc1
   have h2:jH s (dC s)=m:=h
   rw [cT] at h1
   have hlen:dC s=(lb s).length:=by omega
   have acZ:jH s (dC s)=sC (lb s):=by
    rw [HH s _ (by omega),hlen,List.take_length]
   have alD:∀b∈lb s,OQ b:=λb hb=>by
    obtain⟨i,hi⟩:=ZG0 hb
    have bR:i<(lb s).length:=(ZB9.1 hi).1
    exact (aka (b3 i (ZA7 _) (by omega))).2 b hi
   have ft:lb s≠[]:=λe=>by rw [e] at hlen;simp at hlen;omega
   obtain⟨g1,g2⟩:=canon _ (lb s) rfl ft alD (λb hb h48=>by
    have hb0:(lb s)[0]?=some b:=by rw [<-List.head?_eq_getElem?];exact hb
    have hby:bX s 0=48:=by rw [oN,hb0];simp only;omega
    rw [Bool.and_eq_false_iff] at hq
    rcases hq with hq |hq
    ·have:=aD hq;omega
    ·exact absurd hby (aD hq))
   rw [<-h2,acZ]
   refine⟨nq g2.symm,g1,?_⟩
   have hb9:(lb s).length<=9:=by omega
   have key:∀(l:List UInt8),(∀b∈l,OQ b)->sC l<(10:Int) ^ l.length:=by
    intro l
    generalize hk:l.length=k
    induction k generalizing l with
    |zero=>intro _;rw [ZE2.1 hk];exact (by decide:(0:Int)<1)
    |succ k ih=>
     intro hd
     have ft:l≠[]:=λe=>by subst e;simp at hk
     obtain⟨l',b,rfl⟩:∃l' b,l=l'++[b]:=⟨l.dropLast,l.getLast ft,(List.dropLast_concat_getLast ft).symm⟩
     have h1:=ih l' (by simpa using hk) (λx hx=>hd x (List.mem_append_left _ hx))
     have h2:=(hd b (by simp)).2
     rw [zj,Int.pow_succ]
     omega
   have h5:=key (lb s) alD
   have h6:(10:Int) ^ (lb s).length<=10 ^ 9:=by exact_mod_cast Nat.pow_le_pow_right (by omega) hb9
   omega
def bM (n:Int):ByteArray:=bif gC n 0 999999999 then bL n else ⟨#[]⟩
theorem y7 {s:ByteArray}(h9:s.size<=9):aA s=bif !(jU s).2||decide (bM (jU s).1≠s) then (0,false) else ((jU s).1,true):=by
 have tV:∀{r:Int×Bool},r=aA s->r.2=false->r=(0,false):=λ{r} e h=>by
  subst e
  unfold aA at h ⊢
  cases hq:decide ((D9 s).2=0)||decide ((D9 s).2≠(s.size:Int)) with
  |true=>rfl
  |false=>rw [hq] at h;cases h
 cases hg:(aA s).2 with
 |true=>
  have e:aA s=((aA s).1,true):=by rw [<-hg]
  obtain⟨h1,h2,h3⟩:=num_inv e
  have ha:jU s=((aA s).1,true):=by
   unfold jU
   have:Lib.atoi s.data.toList=some (aA s).1:=by
    have h4:=akH (aA s).1.toNat
    rw [show (((aA s).1.toNat:Nat):Int)=(aA s).1 by omega] at h4
    rw [<-h4]
    show Lib.atoi (lb s)=Lib.atoi (lb (bL (aA s).1))
    rw [<-h1]
   rw [this]
  have hp:bM (aA s).1=s:=by
   unfold bM
   rw [show gC (aA s).1 0 999999999=true from cy.2 ⟨h2,h3⟩]
   exact h1.symm
  rw [ha]
  simp only [Bool.not_true,Bool.false_or]
  rw [hp]
  simpa using e
 |false=>
  rw [tV rfl hg]
  cases ha:(jU s).2 with
  |false=>rfl
  |true=>
   have hd:decide (bM (jU s).1≠s)=true:=by
    apply decide_eq_true
    intro hp
    unfold bM at hp
    cases hi:gC (jU s).1 0 999999999 with
    |false=>
     rw [hi] at hp
     have hp:(⟨#[]⟩:ByteArray)=s:=hp
     subst hp
     exact absurd ha (by decide)
    |true=>
     rw [hi] at hp
     have hp:bL (jU s).1=s:=hp
     obtain⟨g1,g2⟩:=cy.1 hi
     have:=cI g1 (by omega)
     rw [hp] at this
     rw [this] at hg
     cases hg
   rw [hd];rfl
def Z0 {s:ByteArray}(h9:9<s.size):aA s=(0,false):=by
 unfold aA
 obtain⟨_,b2,_⟩:=VP 9 s 0
 have hnl:uI 9 s 0=dC s:=rfl
 rw [hnl] at b2
 have:decide ((D9 s).2≠(s.size:Int))=true:=by
  apply decide_eq_true
  unfold D9
  cases decide ((dC s:Int)>1)&&decide (bX s 0=48) with
  |true=>show (1:Int)≠s.size;omega
  |false=>show (dC s:Int)≠s.size;omega
 rw [this,ZC7];rfl
def X5 (c:UInt8):∀(n:Nat) (s:ByteArray),Lib.countB s ⟨#[c]⟩=n->(Lib.splitB ⟨#[c]⟩ 0 n s).map lb=nL c (lb s)
 |n,s,hn=>by
  rcases Lib.indexB_cases s ⟨#[c]⟩ with hix |⟨i,hix,nu⟩
  ·have h1:Lib.indexByte (lb s) c= -1:=by rw [<-Lib.index_one];exact hix
   have tV:c∉lb s:=λh=>by
    obtain⟨k,hk⟩:=ZG0 h
    exact Lib.indexByte_none h1 k hk
   rw [Lib.splitB_miss _ _ _ _ hix,ie c _ tV];rfl
  ·have h1:Lib.indexByte (lb s) c=i:=by rw [<-Lib.index_one];exact hix
   obtain⟨h2,h3⟩:=Lib.indexByte_some h1
   have asl:=Lib.countB_hit s ⟨#[c]⟩ i (ZB0 _) hix
   obtain⟨m,rfl⟩:∃m,n=m+1:=⟨n-1,by omega⟩
   rw [Lib.splitB_hit _ _ _ _ i hix,ZF1,X5 c m _ (by omega)]
   have db:(⟨#[c]⟩:ByteArray).size=1:=rfl
   have hi:i<(lb s).length:=(ZB9.1 h2).1
   have e:lb s=(lb s).take i++c::(lb s).drop (i+1):=by
    have h4:(lb s)[i]=c:=by have:=ZB2 hi;rw [this] at h2;exact ZF4 h2
    rw [<-h4,List.getElem_cons_drop,ZF3]
   have hni:c∉(lb s).take i:=λh=>by
    obtain⟨k,hk⟩:=ZG0 h
    rw [List.getElem?_take] at hk
    split at hk
    ·rename_i bR;exact h3 k bR hk
    ·cases hk
   rw [e,mN,ie c _ hni]
   show lb (s.extract 0 (i+0))::nL c (lb (s.extract (i+1) s.size))=_
   rw [iJ,iJ,cT,List.take_length,Nat.add_zero,ZD8]
   rfl
def X4 (s:ByteArray) (c:UInt8):jd s ⟨#[c]⟩=bz s c.toNat:=by
 apply B2
 rw [PM]
 exact X5 c _ s rfl
theorem KM (sep:ByteArray) (l:List ByteArray):lb (EG sep l)=Lib.join (l.map lb) (lb sep):=rfl
end GL
namespace GL
def dy (n:Int) (lo:Int) (hi:Int):Prop:=True
def xL (n:Int) (lo:Int) (hi:Int):AV:=.s (.q (gC n lo hi))
def acg (n:Int) (lo:Int) (hi:Int):List AV:=[]
def cA:cu where
 A:=[.s .int,.s .int,.s .int]
 B:=[]
 pre:=λx b=>dy (x.1) (x.2.1) (x.2.2)
 r:=λx b _=>xL (x.1) (x.2.1) (x.2.2)
 o:=λx b _=>acg (x.1) (x.2.1) (x.2.2)
def fy:Has Tryz.prog 39 cA:=by
 refine Has.fP zT zF zF (l:=[]) trivial Tryz.func39 ?_
 rintro⟨(n:Int),(lo:Int),(hi:Int)⟩ _ (hp:dy n lo hi)
 show vc _ _ _ _ (entry [.int n,.int lo,.int hi] []) _
 refine⟨aa,λw1=>?_,λw2=>?_⟩
 all_goals first|refine aw ?_|refine ax ?_|exact bb|exact ba|skip
 all_goals
  refine⟨[],[],_,_,_,ζ,aC,(),aa,?_,?_,ζ⟩
  ·show AV.q _=xL n lo hi;unfold xL;refine congrArg AV.q ?_;(simp_all [gC]<;>omega)
  ·rfl
def BR (n:Int):Prop:=True
def BB (n:Int):AV:=.s (.q (gC n 8 63))
def af6 (n:Int):List AV:=[]
def P1:cu where
 A:=[.s .int]
 B:=[]
 pre:=λx b=>BR x
 r:=λx b _=>BB x
 o:=λx b _=>af6 x
def ai8:Has Tryz.prog 114 P1:=by
 refine Has.fP zT zF zF (l:=[(39,cA)]) ⟨fy,aa⟩ Tryz.func114 ?_
 rintro (n:Int) _ (hp:BR n)
 show vc _ _ _ _ (entry [.int n] []) _
 refine⟨⟨tv4,aa⟩,λx1 w2=>?_⟩
 all_goals first|refine aw ?_|refine ax ?_|exact bb|(dsimp only [cA,dy];omega)|exact ba|skip
 refine⟨[],[],_,_,_,ζ,aC,(),aa,?_,?_,ζ⟩
 ·(show _=BB n);unfold BB;first|rfl
 ·rfl
def cl (p:Pt):Prop:=True
def vt (p:Pt):AV:=.s (.q (au p))
def ZL (p:Pt):List AV:=[]
def bQ:cu where
 A:=[.a [.int,.int,.int,.int,.int]]
 B:=[]
 pre:=λx b=>cl x
 r:=λx b _=>vt x
 o:=λx b _=>ZL x
def eo:Has Tryz.prog 56 bQ:=by
 refine Has.fP zT zF zF (l:=[]) trivial Tryz.func56 ?_
 rintro⟨(p1:Int),(p2:Int),(p3:Int),(p4:Int),(p5:Int)⟩ _ (hp:cl (p1,p2,p3,p4,p5))
 show vc _ _ _ _ (entry [.a [.int p1,.int p2,.int p3,.int p4,.int p5]] []) _
 refine ?_
 all_goals first|refine aw ?_|refine ax ?_|exact bb|exact ba|skip
 refine⟨[],[],_,_,_,ζ,aC,(),aa,?_,?_,ζ⟩
 ·(show _=vt (p1,p2,p3,p4,p5));unfold vt;first|rfl
 ·rfl
def da (p:Pt):Prop:=True
def BD (p:Pt):AV:=.s (.q (bc p))
def af8 (p:Pt):List AV:=[]
def cJ:cu where
 A:=[.a [.int,.int,.int,.int,.int]]
 B:=[]
 pre:=λx b=>da x
 r:=λx b _=>BD x
 o:=λx b _=>af8 x
def jI:Has Tryz.prog 74 cJ:=by
 refine Has.fP zT zF zF (l:=[(56,bQ),(114,P1),(39,cA)]) ⟨eo,ai8,fy,aa⟩ Tryz.func74 ?_
 rintro⟨(p1:Int),(p2:Int),(p3:Int),(p4:Int),(p5:Int)⟩ _ (hp:da (p1,p2,p3,p4,p5))
 show vc _ _ _ _ (entry [.a [.int p1,.int p2,.int p3,.int p4,.int p5]] []) _
 refine⟨⟨⟨tv6,aa⟩,aa⟩,λx1 w2=>⟨aa,λw3=>?_,λw4=>⟨⟨tv2,aa⟩,λx5 w6=>⟨aa,λw7=>⟨⟨tv4,aa⟩,λx8 w9=>⟨aa,λdB=>⟨⟨tv4,aa⟩,λlJ dW=>⟨aa,λiL=>⟨⟨tv4,aa⟩,λx14 nG=>⟨aa,λkC=>⟨⟨tv4,aa⟩,λx17 qU=>?_⟩,λo9=>?_⟩⟩,λtl=>?_⟩⟩,λFW=>?_⟩⟩,λDB=>?_⟩⟩⟩⟩
 all_goals first|refine aw ?_|refine ax ?_|exact bb|(dsimp only [bQ,cl,P1,BR,cA,dy];omega)|exact ba|skip
 all_goals
  refine⟨[],[],_,_,_,ζ,aC,(),aa,?_,?_,ζ⟩
  ·show AV.q _=BD (p1,p2,p3,p4,p5);unfold BD;refine congrArg AV.q ?_;simp_all [bc]
  ·rfl
def vM (s:ByteArray):Prop:=s.size<=1000000000
def BC (s:ByteArray):AV:=.s (.int (vi s))
def af7 (s:ByteArray):List AV:=[]
def P2:cu where
 A:=[.s .str]
 B:=[]
 pre:=λx b=>vM x
 r:=λx b _=>BC x
 o:=λx b _=>af7 x
def ai9:Has Tryz.prog 139 P2:=by
 refine Has.fP zT zF zF (l:=[]) trivial Tryz.func139 ?_
 rintro (s:ByteArray) _ (hp:vM s)
 show vc _ _ _ _ (entry [.str s] []) _
 unfold vM at hp
 refine ?_
 all_goals first|refine aw ?_|refine ax ?_|exact bb|exact ba|skip
 refine df (l:=[]) (ex:=zT) (wr:=zF) (pt:=zF) trivial [.s 0,.s 7] (λk:Nat=>[(.s 3,.int (uc s k).1),(.s 4,.int (uc s k).2),(.s 8,.int k)]) (λk=>k<=s.size) (λk=>s.size-k) 0 [] (ZA7 _) dP ?_
 rintro k hk
 have hb:=zZ s k
 have hs:=LU s k
 refine⟨λw1=>⟨⟨?_,?_⟩,⟨⟨?_,?_⟩,⟨⟨?_,?_⟩,⟨⟨?_,?_⟩,⟨⟨?_,?_⟩,⟨⟨?_,?_⟩,⟨⟨?_,?_⟩,⟨⟨?_,?_⟩,?_⟩⟩⟩⟩⟩⟩⟩⟩,λw2=>⟨⟨?_,?_⟩,⟨⟨?_,?_⟩,?_⟩⟩⟩
 all_goals first|refine aw ?_|refine ax ?_|exact bb|exact ba|skip
 ·refine⟨(k+1),[],?_,?_,?_⟩
  rotate_right
  ·repeat' (first|exact trivial|rfl|exact rfl|exact iO ZA0.symm|exact sJ|exact congrArg (λn:Int=>some (AV.int n)) (congrArg (· % 9973) (Int.add_comm _ _))|apply And.intro)
  ·have:=aF w1;omega
  ·have:=aF w1;omega
 ·have h2:¬(k:Int)<(s.size:Int):=aD w2
  have hk':k=s.size:=by omega
  subst hk'
  refine⟨[],[],_,_,_,ζ,aC,(),aa,?_,?_,ζ⟩
  ·(show _=BC s);unfold BC;first|rfl
  ·rfl
end GL
namespace GL
def vO (p:Pt) (s:ByteArray):Prop:=s.size<=1000000000
def vu (p:Pt) (s:ByteArray):AV:=.s (.q (iN p s))
def ZM (p:Pt) (s:ByteArray):List AV:=[]
def CW:cu where
 A:=[.a [.int,.int,.int,.int,.int],.s .str]
 B:=[]
 pre:=λx b=>vO (x.1) (x.2)
 r:=λx b _=>vu (x.1) (x.2)
 o:=λx b _=>ZM (x.1) (x.2)
def acP:Has Tryz.prog 101 CW:=by
 refine Has.fP zT zF zF (l:=[(56,bQ),(74,cJ),(139,P2)]) ⟨eo,jI,ai9,aa⟩ Tryz.func101 ?_
 rintro⟨⟨(p1:Int),(p2:Int),(p3:Int),(p4:Int),(p5:Int)⟩,(s:ByteArray)⟩ _ (hp:vO (p1,p2,p3,p4,p5) s)
 show vc _ _ _ _ (entry [.a [.int p1,.int p2,.int p3,.int p4,.int p5],.str s] []) _
 have hp:s.size<=1000000000:=hp
 refine⟨[.s 2,.b 1002],Sq5,ζ,Sq5,Sq6,ζ,⟨⟨tv6,aa⟩,aa⟩,?_,λx1 w2=>⟨Sq6,Sq7,ζ,aa,λw3=>⟨[.s 7,.s 2,.b 1002],Sq8,ζ,[.s 7,.s 8],Sq9,ζ,⟨⟨tv6,aa⟩,aa⟩,?_,λx4 w5=>⟨[.s 7,.s 9],Sq10,ζ,[.s 7,.s 10],Sq11,ζ,Sq11,Sq12,ζ,aa,λw6=>⟨[.s 12,.s 2],Sq13,ζ,[.s 12,.s 13,.b 1002],Sq14,ζ,[.s 12,.s 1],Sq15,ζ,[.s 12,.s 15],Sq16,ζ,[.s 12,.s 14,.s 16],Sq17,ζ,[.s 12,.s 17],Sq18,ζ,Sq18,Sq19,ζ,aa,λw7=>⟨[.s 19,.s 2],Sq20,ζ,[.s 19,.s 20,.b 1002],Sq21,ζ,[.s 19,.s 1],Sq22,ζ,[.s 19,.s 22],Sq23,ζ,⟨tv2,?_⟩,?_,λx8 w9=>⟨[.s 19,.s 21,.s 23],Sq24,ζ,[.s 19,.s 24],Sq25,ζ,Sq25,Sq4,ζ,?_⟩⟩,λdB=>⟨Sq19,Sq20,ζ,Sq19,Sq21,ζ,Sq19,Sq22,ζ,Sq19,Sq23,ζ,Sq19,Sq24,ζ,[.s 19,.s 24],Sq25,ζ,Sq25,Sq4,ζ,?_⟩⟩,λiP=>⟨Sq12,Sq13,ζ,Sq12,Sq14,ζ,Sq12,Sq15,ζ,Sq12,Sq16,ζ,Sq12,Sq17,ζ,[.s 12,.s 17],Sq18,ζ,Sq18,Sq19,ζ,Sq19,Sq20,ζ,Sq19,Sq21,ζ,Sq19,Sq22,ζ,Sq19,Sq23,ζ,Sq19,Sq24,ζ,[.s 19,.s 24],Sq25,ζ,Sq25,Sq4,ζ,?_⟩⟩⟩,λdW=>⟨Sq7,Sq8,ζ,Sq7,Sq9,ζ,Sq7,Sq10,ζ,[.s 7,.s 10],Sq11,ζ,Sq11,Sq12,ζ,Sq12,Sq13,ζ,Sq12,Sq14,ζ,Sq12,Sq15,ζ,Sq12,Sq16,ζ,Sq12,Sq17,ζ,[.s 12,.s 17],Sq18,ζ,Sq18,Sq19,ζ,Sq19,Sq20,ζ,Sq19,Sq21,ζ,Sq19,Sq22,ζ,Sq19,Sq23,ζ,Sq19,Sq24,ζ,[.s 19,.s 24],Sq25,ζ,Sq25,Sq4,ζ,?_⟩⟩⟩
 all_goals first|refine aw ?_|refine ax ?_|exact bb|(dsimp only [bQ,cl,cJ,da,P2,vM];omega)|exact ba|skip
 all_goals
  refine⟨[],[],_,_,_,ζ,aC,(),aa,?_,?_,ζ⟩
  ·show AV.q _=vu (p1,p2,p3,p4,p5) s;unfold vu;refine congrArg AV.q ?_;simp_all [iN]
  ·rfl
def dz (n:Int):Prop:=True
def pq (n:Int):AV:=.s (.str (bM n))
def acm (n:Int):List AV:=[]
def dA:cu where
 A:=[.s .int]
 B:=[]
 pre:=λx b=>dz x
 r:=λx b _=>pq x
 o:=λx b _=>acm x
def qJ:Has Tryz.prog 143 dA:=by
 refine Has.fP zT zF zF (l:=[(39,cA),(170,akx)]) ⟨fy,ajb,aa⟩ Tryz.func143 ?_
 rintro (n:Int) _ (hp:dz n)
 show vc _ _ _ _ (entry [.int n] []) _
 have cF:(!(gC n 0 999999999))=false->0<=n/\n<=999999999:=λh=>cy.1 (cr h)
 refine⟨⟨tv4,aa⟩,λx1 w2=>⟨λw3=>?_,λw4=>⟨⟨tv2,?_,?_⟩,λx5 w6=>?_⟩⟩⟩
 all_goals first|refine aw ?_|refine ax ?_|exact bb|(dsimp only [cA,dy];omega)|exact ba|(have:=cF w4;show (-9223372036854775808:Int)<=n;omega)|(have:=cF w4;show n<=(9223372036854775807:Int);omega)|skip
 ·have e:bM n=⟨#[]⟩:=by unfold bM;rw [show gC n 0 999999999=false from pJ w3];rfl
  refine⟨[],[],_,_,_,ζ,aC,(),aa,?_,?_,ζ⟩
  ·(show _=pq n);unfold pq;first|(rw [e];rfl)|rfl
  ·rfl
 ·have e:bM n=aeD n:=by unfold bM;rw [show gC n 0 999999999=true from cr w4,SS (cF w4).1];rfl
  refine⟨[],[],_,_,_,ζ,aC,(),aa,?_,?_,ζ⟩
  ·(show _=pq n);unfold pq;first|(rw [e];rfl)|rfl
  ·rfl
def di (s:ByteArray):Prop:=s.size<=1000000
def iu (s:ByteArray):AV:=.t [.s (.int (aA s).1),.s (.q (aA s).2)]
def acn (s:ByteArray):List AV:=[]
def dc:cu where
 A:=[.s .str]
 B:=[]
 pre:=λx b=>di x
 r:=λx b _=>iu x
 o:=λx b _=>acn x
def oA:Has Tryz.prog 103 dc:=by
 refine Has.fP zT zF zF (l:=[(143,dA),(142,akz)]) ⟨qJ,anv,aa⟩ Tryz.func103 ?_
 rintro (s:ByteArray) _ (hp:di s)
 show vc _ _ _ _ (entry [.str s] []) _
 have hp:s.size<=1000000:=hp
 have h9:decide ((s.size:Int)>9)=false->s.size<=9:=λh=>by have:=aD h;omega
 refine⟨λw1=>?_,λw2=>⟨⟨tv2,?_⟩,λx3 w4=>⟨aa,λw5=>?_,λw6=>⟨⟨tv2,aa⟩,λx7 w8=>⟨λw9=>?_,λdB=>?_⟩⟩⟩⟩⟩
 all_goals first|refine aw ?_|refine ax ?_|exact bb|(dsimp only [dA,dz];omega)|exact ba|(show s.size<=18;have:=h9 w2;omega)|skip
 ·have e:aA s=(0,false):=Z0 (by have:=aF (p:=(s.size:Int)>9) w1;omega)
  refine⟨[],[],_,_,_,ζ,aC,(),aa,?_,?_,ζ⟩
  ·(show _=iu s);unfold iu;first|(rw [e];rfl)|rfl
  ·rfl
 ·have e:aA s=(0,false):=by rw [y7 (h9 w2),show (!(jU s).2)=true from w5];rfl
  refine⟨[],[],_,_,_,ζ,aC,(),aa,?_,?_,ζ⟩
  ·(show _=iu s);unfold iu;first|(rw [e];rfl)|rfl
  ·rfl
 ·have e:aA s=(0,false):=by rw [y7 (h9 w2),show decide (bM (jU s).1≠s)=true from w9,ZC7];rfl
  refine⟨[],[],_,_,_,ζ,aC,(),aa,?_,?_,ζ⟩
  ·(show _=iu s);unfold iu;first|(rw [e];rfl)|rfl
  ·rfl
 ·have e:aA s=((jU s).1,true):=by rw [y7 (h9 w2),show (!(jU s).2)=false from w6,show decide (bM (jU s).1≠s)=false from dB];rfl
  refine⟨[],[],_,_,_,ζ,aC,(),aa,?_,?_,ζ⟩
  ·(show _=iu s);unfold iu;first|(rw [e];rfl)|rfl
  ·rfl
def en (p:Pt):Prop:=True
def BA (p:Pt):AV:=.s (.xs 1 1 0 5)
def HC (p:Pt):List AV:=[.a [.int p.1,.int p.2.1,.int p.2.2.1,.int p.2.2.2.1,.int p.2.2.2.2],.a [.bp 0 0,.bp 0 1,.bp 0 2,.bp 0 3,.bp 0 4]]
def fe:cu where
 A:=[.b 0]
 B:=[.a [.int,.int,.int,.int,.int]]
 pre:=λx b=>en b
 r:=λx b _=>BA b
 o:=λx b _=>HC b
 nf:=1
 ro:=true
def EC:Has Tryz.prog 171 fe:=by
 refine Has.fP zT zF zF (l:=[]) trivial Tryz.func171 ?_
 rintro _ ⟨(p1:Int),(p2:Int),(p3:Int),(p4:Int),(p5:Int)⟩ (hp:en (p1,p2,p3,p4,p5))
 show vc _ _ _ _ (entry [.s (.bp 0 0)] [.a [.int p1,.int p2,.int p3,.int p4,.int p5]]) _
 refine⟨Sq0,Sq3,ζ,Sq3,Sq4,ζ,Sq4,Sq5,ζ,Sq0,Sq6,ζ,Sq6,Sq7,ζ,Sq7,Sq8,ζ,Sq0,Sq9,ζ,Sq9,Sq10,ζ,Sq10,Sq11,ζ,Sq0,Sq12,ζ,Sq12,Sq13,ζ,Sq13,Sq14,ζ,Sq0,Sq15,ζ,Sq15,Sq16,ζ,Sq16,Sq17,ζ,[.s 5,.s 8,.s 11,.s 14,.s 17,.b 1018],[.s 18,.b 1018],ζ,Sq18,Sq2,ζ,?_⟩
 all_goals first|refine aw ?_|refine ax ?_|exact bb|exact ba|skip
 refine⟨[1018],[],_,_,_,ζ,aC,(),aa,?_,?_,ζ⟩
 ·(show _=BA (p1,p2,p3,p4,p5));unfold BA;first|rfl
 ·(show _=HC (p1,p2,p3,p4,p5));unfold HC;first|rfl
end GL
namespace GL
def jM {n:Int}(h0:0<=n) (h1:n<=999999999):bM n=bL n:=by unfold bM;rw [show gC n 0 999999999=true from cy.2 ⟨h0,h1⟩];rfl
def abU {p:Pt}(h:bc p=true) (h2:au p=false):(0<=p.1/\p.1<=999999999)/\(0<=p.2.1/\p.2.1<=999999999)/\(0<=p.2.2.1/\p.2.2.1<=999999999)/\(0<=p.2.2.2.1/\p.2.2.2.1<=999999999)/\(0<=p.2.2.2.2/\p.2.2.2.2<=999999999):=by
 unfold bc at h
 rw [h2,Bool.false_or] at h
 simp only [ZB1,cy] at h
 omega
def amu (a b c d e:ByteArray):lb (EG ⟨#[46]⟩ [a,b,c,d,e])=lb a++46::(lb b++46::(lb c++46::(lb d++46::lb e))):=by
 rw [KM]
 show Lib.join [lb a,lb b,lb c,lb d,lb e] [46]=_
 simp [Lib.join,List.intercalate]
def amv (a b c d:ByteArray):lb (EG ⟨#[44]⟩ [a,b,c,d])=lb a++44::(lb b++44::(lb c++44::lb d)):=by
 rw [KM]
 show Lib.join [lb a,lb b,lb c,lb d] [44]=_
 simp [Lib.join,List.intercalate]
def Y0 {p:Pt}(h:bc p=true) (h2:au p=false):bj p=EG ⟨#[46]⟩ [bM p.1,bM p.2.1,bM p.2.2.1,bM p.2.2.2.1,bM p.2.2.2.2]:=by
 obtain⟨h1,h3,h4,h5,h6⟩:=abU h h2
 apply nq
 rw [zC h h2,amu,jM h1.1 h1.2,jM h3.1 h3.2,jM h4.1 h4.2,jM h5.1 h5.2,jM h6.1 h6.2]
def ahZ (p:Pt):List ByteArray:=[bM p.1,bM p.2.1,bM p.2.2.1,bM p.2.2.2.1,bM p.2.2.2.2]
def gw (n:Int):(bM n).size<=12:=by
 unfold bM
 cases h:gC n 0 999999999 with
 |true=>exact cM (by have:=(cy.1 h).2;omega)
 |false=>exact ZA7 _
def agF (a b c d e:Int):(Lib.join ([bM a,bM b,bM c,bM d,bM e].map (·.data.toList)) (⟨#[46]⟩:ByteArray).data.toList).length<=1000000:=by
 have h:=congrArg List.length (amu (bM a) (bM b) (bM c) (bM d) (bM e))
 have e1:=gw a;have e2:=gw b;have e3:=gw c;have e4:=gw d;have e5:=gw e
 rw [cT] at e1 e2 e3 e4 e5
 rw [KM] at h
 have h':(Lib.join ([bM a,bM b,bM c,bM d,bM e].map (·.data.toList)) (⟨#[46]⟩:ByteArray).data.toList).length=_:=h
 rw [h']
 simp only [ZA0,ZA1]
 omega
def eN (p:Pt):Prop:=True
def j5 (p:Pt):AV:=.s (.str (bj p))
def acj (p:Pt):List AV:=[]
def eQ:cu where
 A:=[.a [.int,.int,.int,.int,.int]]
 B:=[]
 pre:=λx b=>eN x
 r:=λx b _=>j5 x
 o:=λx b _=>acj x
def uJ:Has Tryz.prog 172 eQ:=by
 refine Has.sF zT zF zF (l:=[(56,bQ),(74,cJ),(171,fe),(143,dA),(180,P4)]) ⟨eo,jI,EC,qJ,WB,aa⟩ Tryz.func172 ?_
 rintro⟨(p1:Int),(p2:Int),(p3:Int),(p4:Int),(p5:Int)⟩ _ (hp:eN (p1,p2,p3,p4,p5))
 show vc _ _ _ _ (entry [.a [.int p1,.int p2,.int p3,.int p4,.int p5]] []) _
 let A':=(p1,p2,p3,p4,p5)
 let B':=(1019,1025)
 refine⟨⟨⟨tv6,aa⟩,aa⟩,λx1 w2=>⟨λw3=>?_,λw4=>⟨⟨⟨tv6,aa⟩,aa⟩,λx5 w6=>⟨λw7=>?_,λw8=>⟨⟨⟨tv2,aa⟩,λx9 dB=>?_⟩,λlJ dW=>?_⟩⟩⟩⟩⟩
 all_goals first|refine aw ?_|refine ax ?_|exact bb|(dsimp only [bQ,cl,cJ,da,fe,en,dA,dz];omega)|exact ba|skip
 ·have e:bj A'=⟨#[]⟩:=by unfold bj;rw [show bc A'=false from pJ w3];rfl
  refine⟨[],[],_,_,_,ζ,aC,(),aa,?_,?_,ζ⟩
  ·(show _=j5 A');unfold j5;first|(rw [e];rfl)|rfl
  ·rfl
 ·have e:bj A'=⟨#[45]⟩:=sN w7
  refine⟨[],[],_,_,_,ζ,aC,(),aa,?_,?_,ζ⟩
  ·(show _=j5 A');unfold j5;first|(rw [e];rfl)|rfl
  ·rfl
 ·have cn:bc A'=true:=cr w4
  have hho:au A'=false:=w8
  refine jq (l:=[(56,bQ),(74,cJ),(171,fe),(143,dA),(180,P4)]) (ex:=zT) (wr:=zF) (pt:=zF) ⟨eo,jI,EC,qJ,WB,aa⟩ [.s 13,.s 14,.b 1001,.b 140000] (λn:Nat=>match n with |0=>[(.s 3,.s (.v (.slice none 0 0))),(.s 15,.int 0)] |n+1=>[(.s 3,.s (.xs 1019 1 0 (n+1))),(.s 15,.int ((n+1:Nat):Int)),(.b 1019,.rs ab ((ahZ A').take (n+1)))]) (λn=>n<=5) (λn=>5-n) 0 [] (ZA7 _) dP ?_
  rintro n (hn:n<=5)
  have h5:n=0\/n=1\/n=2\/n=3\/n=4\/n=5:=by omega
  rcases h5 with rfl |rfl |rfl |rfl |rfl |rfl
  ·refine⟨λw1=>⟨⟨?_,?_⟩,⟨tv2,aa⟩,λx2 w3=>⟨aa,⟨⟨?_,?_⟩,?_,?_⟩,⟨?_,?_⟩,?_⟩⟩,λw4=>⟨⟨tv3,?_,?_⟩,λx5 w6=>?_⟩⟩
   all_goals first|(exfalso;simp only [decide_eq_true_eq,decide_eq_false_iff_not] at *;omega)|refine aw ?_|refine ax ?_|exact bb|(dsimp only [bQ,cl,cJ,da,fe,en,dA,dz];omega)|exact ba|(show (0:Nat)+1<=1048576;omega)|skip
   ·refine⟨(1),[B'],?_,?_,?_⟩
    rotate_right
    ·exact bY
    ·show (1:Nat)<=5;omega
    ·show 5-1<5-0;omega
  ·refine⟨λw1=>⟨⟨?_,?_⟩,⟨tv2,aa⟩,λx2 w3=>⟨aa,⟨⟨?_,?_⟩,?_,?_⟩,⟨?_,?_⟩,?_⟩⟩,λw4=>⟨⟨⟨⟨?_,?_⟩,tv2⟩,?_,?_⟩,λx5 w6=>?_⟩⟩
   all_goals first|(exfalso;simp only [decide_eq_true_eq,decide_eq_false_iff_not] at *;omega)|refine aw ?_|refine ax ?_|exact bb|(dsimp only [bQ,cl,cJ,da,fe,en,dA,dz];omega)|exact ba|(show (1:Nat)+1<=1048576;omega)|skip
   ·refine⟨(2),[B'],?_,?_,?_⟩
    rotate_right
    ·exact bY
    ·show (2:Nat)<=5;omega
    ·show 5-2<5-1;omega
  ·refine⟨λw1=>⟨⟨?_,?_⟩,⟨tv2,aa⟩,λx2 w3=>⟨aa,⟨⟨?_,?_⟩,?_,?_⟩,⟨?_,?_⟩,?_⟩⟩,λw4=>⟨⟨⟨⟨?_,?_⟩,tv2⟩,?_,?_⟩,λx5 w6=>?_⟩⟩
   all_goals first|(exfalso;simp only [decide_eq_true_eq,decide_eq_false_iff_not] at *;omega)|refine aw ?_|refine ax ?_|exact bb|(dsimp only [bQ,cl,cJ,da,fe,en,dA,dz];omega)|exact ba|(show (2:Nat)+1<=1048576;omega)|skip
   ·refine⟨(3),[B'],?_,?_,?_⟩
    rotate_right
    ·exact bY
    ·show (3:Nat)<=5;omega
    ·show 5-3<5-2;omega
  ·refine⟨λw1=>⟨⟨?_,?_⟩,⟨tv2,aa⟩,λx2 w3=>⟨aa,⟨⟨?_,?_⟩,?_,?_⟩,⟨?_,?_⟩,?_⟩⟩,λw4=>⟨⟨⟨⟨?_,?_⟩,tv2⟩,?_,?_⟩,λx5 w6=>?_⟩⟩
   all_goals first|(exfalso;simp only [decide_eq_true_eq,decide_eq_false_iff_not] at *;omega)|refine aw ?_|refine ax ?_|exact bb|(dsimp only [bQ,cl,cJ,da,fe,en,dA,dz];omega)|exact ba|(show (3:Nat)+1<=1048576;omega)|skip
   ·refine⟨(4),[B'],?_,?_,?_⟩
    rotate_right
    ·exact bY
    ·show (4:Nat)<=5;omega
    ·show 5-4<5-3;omega
  ·refine⟨λw1=>⟨⟨?_,?_⟩,⟨tv2,aa⟩,λx2 w3=>⟨aa,⟨⟨?_,?_⟩,?_,?_⟩,⟨?_,?_⟩,?_⟩⟩,λw4=>⟨⟨⟨⟨?_,?_⟩,tv2⟩,?_,?_⟩,λx5 w6=>?_⟩⟩
   all_goals first|(exfalso;simp only [decide_eq_true_eq,decide_eq_false_iff_not] at *;omega)|refine aw ?_|refine ax ?_|exact bb|(dsimp only [bQ,cl,cJ,da,fe,en,dA,dz];omega)|exact ba|(show (4:Nat)+1<=1048576;omega)|skip
   ·refine⟨(5),[B'],?_,?_,?_⟩
    rotate_right
    ·exact bY
    ·show (5:Nat)<=5;omega
    ·show 5-5<5-4;omega
  ·refine⟨λw1=>⟨⟨?_,?_⟩,?_⟩,λw2=>⟨⟨⟨⟨?_,?_⟩,tv2⟩,?_,?_⟩,λx3 w4=>?_⟩⟩
   all_goals first|(exfalso;simp only [decide_eq_true_eq,decide_eq_false_iff_not] at *;omega)|refine aw ?_|refine ax ?_|exact bb|(dsimp only [bQ,cl,cJ,da,fe,en,dA,dz];omega)|exact ba|(exact agF p1 p2 p3 p4 p5)|(show (5:Nat)<=1000000;omega)|skip
   ·have e:bj A'=EG ⟨#[46]⟩ (ahZ A'):=Y0 cn hho
    refine⟨[],[],_,_,_,ζ,aC,(),aa,?_,?_,ζ⟩
    ·(show _=j5 A');unfold j5;first|(rw [e];rfl)|rfl
    ·rfl
end GL
namespace GL
def adu (c:UInt8):List (List UInt8)->List UInt8
 |[]=>[]
 |[x]=>x
 |x::y::l=>x++c::adu c (y::l)
theorem TV (c:UInt8):∀l:List UInt8,adu c (nL c l)=l
 |[]=>rfl
 |x::l=>by
  have ih:=TV c l
  rw [ue]
  split
  ·rename_i hx
   cases e:nL c l with
   |nil=>exact absurd e (DJ c l)
   |cons w a=>rw [e] at ih;show []++c::adu c (w::a)=_;rw [ih,hx];rfl
  ·cases e:nL c l with
   |nil=>exact absurd e (DJ c l)
   |cons w a=>
    rw [e] at ih
    cases a with
    |nil=>show x::w=_;rw [show w=l from ih]
    |cons v a=>show x::(w++c::adu c (v::a))=_;rw [show w++c::adu c (v::a)=l from ih]
def ae7 (s:ByteArray) (c:UInt8) {l:List ByteArray}(h:bz s c.toNat=l):adu c (l.map lb)=lb s:=by
 rw [<-h,PM];exact TV c _
theorem HG:∀(l:List ByteArray) (acc:List Int) (j:Nat),j<l.length->(aA (nth ab l j)).2=false->mz l acc=none
 |t::l,acc,0,_,h=>by rw [mz,show (aA t).2=false from h];rfl
 |t::l,acc,j+1,hj,h=>by
  rw [mz]
  cases (aA t).2 with
  |false=>rfl
  |true=>exact HG l _ j (by simpa using hj) h
def yj {t:ByteArray}(h:(aA t).2=true):aA t=((aA t).1,true):=by rw [<-h]
def UW (l:List ByteArray):Pt:=((aA (nth ab l 0)).1,(aA (nth ab l 1)).1,(aA (nth ab l 2)).1,(aA (nth ab l 3)).1,(aA (nth ab l 4)).1)
def MP {s:ByteArray}(h0:decide (s=⟨#[45]⟩)=false) (h5:(bz s 46).length=5) (hk:∀j,j<5->(aA (nth ab (bz s 46) j)).2=true):bC s=bif decide (bj (UW (bz s 46))≠s) then (ch,false) else (UW (bz s 46),true):=by
 rw [uo h0 (by rw [h5];rfl)]
 have hs0:s≠⟨#[45]⟩:=aD h0
 have ajA:=λl h=>ae7 s 46 (l:=l) h
 have ft:s≠⟨#[]⟩:=by
  rintro rfl
  exact absurd h5 (by decide)
 change (∀l,bz s 46=l->adu 46 (l.map lb)=lb s) at ajA
 match hl:bz s 46,h5 with
 |[a,b,c,d,e],_=>
  rw [hl] at hk
  have ha:=yj (t:=a) (hk 0 (by omega))
  have hb:=yj (t:=b) (hk 1 (by omega))
  have hc:=yj (t:=c) (hk 2 (by omega))
  have hd:=yj (t:=d) (hk 3 (by omega))
  have he:=yj (t:=e) (hk 4 (by omega))
  have hn:mz [a,b,c,d,e] []=some [(aA a).1,(aA b).1,(aA c).1,(aA d).1,(aA e).1]:=by
   simp [mz,show (aA a).2=true from hk 0 (by omega),show (aA b).2=true from hk 1 (by omega),show (aA c).2=true from hk 2 (by omega),show (aA d).2=true from hk 3 (by omega),show (aA e).2=true from hk 4 (by omega)]
  rw [GY hn]
  show ru [(aA a).1,(aA b).1,(aA c).1,(aA d).1,(aA e).1]=bif decide (bj (mX [(aA a).1,(aA b).1,(aA c).1,(aA d).1,(aA e).1])≠s) then (ch,false) else (mX [(aA a).1,(aA b).1,(aA c).1,(aA d).1,(aA e).1],true)
  generalize hp:mX [(aA a).1,(aA b).1,(aA c).1,(aA d).1,(aA e).1]=p
  have hf:∀r,mX [(aA a).1,(aA b).1,(aA c).1,(aA d).1,(aA e).1]=r->r=p:=λr h=>h ▸ hp
  cases hh:au p with
  |true=>
   rw [Y2 (by rw [hp];exact hh),sN hh,decide_eq_true (p:=¬(⟨#[45]⟩:ByteArray)=s) (λh=>hs0 h.symm)];rfl
  |false=>
   cases ho:bc p with
   |false=>
    rw [Y3 (by rw [hp,ho];rfl),show bj p=⟨#[]⟩ by unfold bj;rw [ho];rfl,decide_eq_true (p:=¬(⟨#[]⟩:ByteArray)=s) (λh=>ft h.symm)];rfl
   |true=>
    rw [MR (by rw [hp,ho];rfl) (by rw [hp];exact hh),hp]
    have e1:bj p=s:=by
     apply nq
     rw [zC ho hh,<-ajA _ hl]
     have q1:=(num_inv ha).1;have q2:=(num_inv hb).1;have q3:=(num_inv hc).1;have q4:=(num_inv hd).1;have q5:=(num_inv he).1
     rw [show p.1=(aA a).1 by rw [<-hp];rfl,show p.2.1=(aA b).1 by rw [<-hp];rfl,show p.2.2.1=(aA c).1 by rw [<-hp];rfl,show p.2.2.2.1=(aA d).1 by rw [<-hp];rfl,show p.2.2.2.2=(aA e).1 by rw [<-hp];rfl,<-q1,<-q2,<-q3,<-q4,<-q5]
     rfl
    rw [decide_eq_false (p:=¬bj p=s) (λh=>h e1)];rfl
def aqt (l:List ByteArray) (n:Nat):List SV:=[.int (bif Nat.blt 0 n then (aA (nth ab l 0)).1 else 0),.int (bif Nat.blt 1 n then (aA (nth ab l 1)).1 else 0),.int (bif Nat.blt 2 n then (aA (nth ab l 2)).1 else 0),.int (bif Nat.blt 3 n then (aA (nth ab l 3)).1 else 0),.int (bif Nat.blt 4 n then (aA (nth ab l 4)).1 else 0)]
def ka (s:ByteArray):Prop:=s.size<=1000000
def c6 (s:ByteArray):AV:=.t [ptA (bC s).1,.s (.q (bC s).2)]
def ack (s:ByteArray):List AV:=[]
def mG:cu where
 A:=[.s .str]
 B:=[]
 pre:=λx b=>ka x
 r:=λx b _=>c6 x
 o:=λx b _=>ack x
def HT:Has Tryz.prog 144 mG:=by
 refine Has.sF zT zF zF (l:=[(151,E8),(171,fe),(103,dc),(172,eQ)]) ⟨KQ,EC,oA,uJ,aa⟩ Tryz.func144 ?_
 rintro (s:ByteArray) _ (hp:ka s)
 show vc _ _ _ _ (entry [.str s] []) _
 unfold ka at hp
 have KR:jd s ⟨#[46]⟩=bz s 46:=X4 s 46
 refine⟨λw1=>?_,λw2=>⟨⟨tv3,?_,?_⟩,λx3 w4=>⟨⟨⟨tv2,aa⟩,λx5 w6=>?_⟩,λx7 w8=>⟨λw9=>?_,λdB=>?_⟩⟩⟩⟩
 all_goals first|refine aw ?_|refine ax ?_|exact bb|(dsimp only [fe,en,dc,di,eQ,eN];omega)|exact ba|(show 1<=(1:Nat);omega)|skip
 ·refine⟨[],[],_,_,_,ζ,aC,(),aa,?_,?_,ζ⟩
  ·(show _=c6 s);unfold c6;first|(rw [zr (by assumption)];rfl)|rfl
  ·rfl
 ·have e:=w9
  rw [KR] at e
  refine⟨[],[],_,_,_,ζ,aC,(),aa,?_,?_,ζ⟩
  ·(show _=c6 s);unfold c6;first|(rw [G0 w2 e];rfl)|rfl
  ·rfl
 ·have h0:=w2
  rw [KR] at dB
  have h5:(bz s 46).length=5:=by have:=aD (p:=((bz s 46).length:Int)≠5) dB;omega
  refine jq (l:=[(151,E8),(171,fe),(103,dc),(172,eQ)]) (ex:=zT) (wr:=zF) (pt:=zF) ⟨KQ,EC,oA,uJ,trivial⟩ [.s 0,.s 2,.b 1002,.s 4,.s 6,.b 170000,.s 23,.s 24] (λn:Nat=>[(.s 25,.int n),(.b 1004,.a (aqt (jd s ⟨#[46]⟩) n))]) (λn=>n<=5/\∀j,j<n->(aA (nth ab (jd s ⟨#[46]⟩) j)).2=true) (λn=>5-n) 0 [] ⟨ZA7 _,λj hj=>absurd hj (by omega)⟩ dP ?_
  rintro n ⟨(hn:n<=5),hk⟩
  have db:∀n,n<5->(nth ab (jd s ⟨#[46]⟩) n).size<=1000000:=λn h=>by rw [KR];exact ZA9 (th (s:=s) (c:=46) _ (bS (ek:=ab) (by omega))) hp
  have hL:((jd s ⟨#[46]⟩).length:Int)=5:=by rw [KR,h5];rfl
  have jt:∀n,n<5->(!(aA (nth ab (jd s ⟨#[46]⟩) n)).2)=true->bC s=(ch,false):=λn hn h=>by
   rw [KR] at h
   rw [uo h0 dB,GZ (HG _ [] n (by rw [h5];exact hn) (pJ h))]
  have cP:∀n,(∀j,j<n->(aA (nth ab (jd s ⟨#[46]⟩) j)).2=true)->(!(aA (nth ab (jd s ⟨#[46]⟩) n)).2)=false->∀j,j<n+1->(aA (nth ab (jd s ⟨#[46]⟩) j)).2=true:=λn h h2 j hj=>by
   by_cases hjn:j=n
   ·rw [hjn];exact cr h2
   ·exact h j (by omega)
  have alC:(∀j,j<5->(aA (nth ab (jd s ⟨#[46]⟩) j)).2=true)->bC s=bif decide (bj (UW (jd s ⟨#[46]⟩))≠s) then (ch,false) else (UW (jd s ⟨#[46]⟩),true):=by
   rw [KR];exact MP h0 h5
  have h6:n=0\/n=1\/n=2\/n=3\/n=4\/n=5:=by omega
  rcases h6 with rfl |rfl |rfl |rfl |rfl |rfl
  ·refine⟨λw1=>⟨⟨?_,?_⟩,⟨tv2,?_⟩,λx2 w3=>⟨λw4=>?_,λw5=>⟨⟨?_,?_⟩,⟨?_,?_⟩,?_⟩⟩⟩,λw6=>⟨⟨⟨tv6,aa⟩,aa⟩,λx7 w8=>⟨λw9=>?_,λdB=>?_⟩⟩⟩
   all_goals first|(exfalso;simp only [decide_eq_true_eq,decide_eq_false_iff_not] at *;omega)|refine aw ?_|refine ax ?_|exact bb|(dsimp only [fe,en,dc,di,eQ,eN];omega)|exact ba|exact db 0 (by omega)|skip
   ·refine⟨[],[],_,_,_,ζ,aC,(),aa,?_,?_,ζ⟩
    ·(show _=c6 s);unfold c6;first|(rw [jt 0 (by omega) w4];rfl)|rfl
    ·rfl
   ·refine⟨(1),[],?_,?_,?_⟩
    rotate_right
    ·exact bY
    ·exact⟨by omega,cP 0 hk w5⟩
    ·show 5-1<5-0;omega
  ·refine⟨λw1=>⟨⟨?_,?_⟩,⟨tv2,?_⟩,λx2 w3=>⟨λw4=>?_,λw5=>⟨⟨?_,?_⟩,⟨?_,?_⟩,?_⟩⟩⟩,λw6=>⟨⟨⟨tv6,aa⟩,aa⟩,λx7 w8=>⟨λw9=>?_,λdB=>?_⟩⟩⟩
   all_goals first|(exfalso;simp only [decide_eq_true_eq,decide_eq_false_iff_not] at *;omega)|refine aw ?_|refine ax ?_|exact bb|(dsimp only [fe,en,dc,di,eQ,eN];omega)|exact ba|exact db 1 (by omega)|skip
   ·refine⟨[],[],_,_,_,ζ,aC,(),aa,?_,?_,ζ⟩
    ·(show _=c6 s);unfold c6;first|(rw [jt 1 (by omega) w4];rfl)|rfl
    ·rfl
   ·refine⟨(2),[],?_,?_,?_⟩
    rotate_right
    ·exact bY
    ·exact⟨by omega,cP 1 hk w5⟩
    ·show 5-2<5-1;omega
  ·refine⟨λw1=>⟨⟨?_,?_⟩,⟨tv2,?_⟩,λx2 w3=>⟨λw4=>?_,λw5=>⟨⟨?_,?_⟩,⟨?_,?_⟩,?_⟩⟩⟩,λw6=>⟨⟨⟨tv6,aa⟩,aa⟩,λx7 w8=>⟨λw9=>?_,λdB=>?_⟩⟩⟩
   all_goals first|(exfalso;simp only [decide_eq_true_eq,decide_eq_false_iff_not] at *;omega)|refine aw ?_|refine ax ?_|exact bb|(dsimp only [fe,en,dc,di,eQ,eN];omega)|exact ba|exact db 2 (by omega)|skip
   ·refine⟨[],[],_,_,_,ζ,aC,(),aa,?_,?_,ζ⟩
    ·(show _=c6 s);unfold c6;first|(rw [jt 2 (by omega) w4];rfl)|rfl
    ·rfl
   ·refine⟨(3),[],?_,?_,?_⟩
    rotate_right
    ·exact bY
    ·exact⟨by omega,cP 2 hk w5⟩
    ·show 5-3<5-2;omega
  ·refine⟨λw1=>⟨⟨?_,?_⟩,⟨tv2,?_⟩,λx2 w3=>⟨λw4=>?_,λw5=>⟨⟨?_,?_⟩,⟨?_,?_⟩,?_⟩⟩⟩,λw6=>⟨⟨⟨tv6,aa⟩,aa⟩,λx7 w8=>⟨λw9=>?_,λdB=>?_⟩⟩⟩
   all_goals first|(exfalso;simp only [decide_eq_true_eq,decide_eq_false_iff_not] at *;omega)|refine aw ?_|refine ax ?_|exact bb|(dsimp only [fe,en,dc,di,eQ,eN];omega)|exact ba|exact db 3 (by omega)|skip
   ·refine⟨[],[],_,_,_,ζ,aC,(),aa,?_,?_,ζ⟩
    ·(show _=c6 s);unfold c6;first|(rw [jt 3 (by omega) w4];rfl)|rfl
    ·rfl
   ·refine⟨(4),[],?_,?_,?_⟩
    rotate_right
    ·exact bY
    ·exact⟨by omega,cP 3 hk w5⟩
    ·show 5-4<5-3;omega
  ·refine⟨λw1=>⟨⟨?_,?_⟩,⟨tv2,?_⟩,λx2 w3=>⟨λw4=>?_,λw5=>⟨⟨?_,?_⟩,⟨?_,?_⟩,?_⟩⟩⟩,λw6=>⟨⟨⟨tv6,aa⟩,aa⟩,λx7 w8=>⟨λw9=>?_,λdB=>?_⟩⟩⟩
   all_goals first|(exfalso;simp only [decide_eq_true_eq,decide_eq_false_iff_not] at *;omega)|refine aw ?_|refine ax ?_|exact bb|(dsimp only [fe,en,dc,di,eQ,eN];omega)|exact ba|exact db 4 (by omega)|skip
   ·refine⟨[],[],_,_,_,ζ,aC,(),aa,?_,?_,ζ⟩
    ·(show _=c6 s);unfold c6;first|(rw [jt 4 (by omega) w4];rfl)|rfl
    ·rfl
   ·refine⟨(5),[],?_,?_,?_⟩
    rotate_right
    ·exact bY
    ·exact⟨by omega,cP 4 hk w5⟩
    ·show 5-5<5-4;omega
  ·refine⟨λw1=>⟨⟨?_,?_⟩,⟨tv2,?_⟩,λx2 w3=>⟨λw4=>?_,λw5=>⟨⟨?_,?_⟩,?_⟩⟩⟩,λw6=>⟨⟨⟨tv6,aa⟩,aa⟩,λx7 w8=>⟨λw9=>?_,λdB=>?_⟩⟩⟩
   all_goals first|(exfalso;simp only [decide_eq_true_eq,decide_eq_false_iff_not] at *;omega)|refine aw ?_|refine ax ?_|exact bb|(dsimp only [fe,en,dc,di,eQ,eN];omega)|exact ba|skip
   ·have e:bC s=(ch,false):=by rw [alC hk,show decide (bj (UW (jd s ⟨#[46]⟩))≠s)=true from w9];rfl
    refine⟨[],[],_,_,_,ζ,aC,(),aa,?_,?_,ζ⟩
    ·(show _=c6 s);unfold c6;first|(rw [e];rfl)|rfl
    ·rfl
   ·have e:bC s=(UW (jd s ⟨#[46]⟩),true):=by rw [alC hk,show decide (bj (UW (jd s ⟨#[46]⟩))≠s)=false from dB];rfl
    refine⟨[],[],_,_,_,ζ,aC,(),aa,?_,?_,ζ⟩
    ·(show _=c6 s);unfold c6;first|(rw [e];rfl)|rfl
    ·rfl
end GL
namespace GL
def qs (p:Pt):Prop:=True
def vx (p:Pt):AV:=.s (.q (!(au p)))
def ZP (p:Pt):List AV:=[]
def sk:cu where
 A:=[.a [.int,.int,.int,.int,.int]]
 B:=[]
 pre:=λx b=>qs x
 r:=λx b _=>vx x
 o:=λx b _=>ZP x
def OK:Has Tryz.prog 179 sk:=by
 refine Has.sF zT zF zF (l:=[(56,bQ)]) ⟨eo,aa⟩ Tryz.func179 ?_
 rintro⟨(p1:Int),(p2:Int),(p3:Int),(p4:Int),(p5:Int)⟩ _ (hp:qs (p1,p2,p3,p4,p5))
 show vc _ _ _ _ (entry [.a [.int p1,.int p2,.int p3,.int p4,.int p5]] []) _
 refine⟨⟨⟨tv6,aa⟩,aa⟩,λx1 w2=>?_⟩
 all_goals first|refine aw ?_|refine ax ?_|exact bb|(dsimp only [bQ,cl];omega)|exact ba|skip
 refine⟨[],[],_,_,_,ζ,aC,(),aa,?_,?_,ζ⟩
 ·(show _=vx (p1,p2,p3,p4,p5));unfold vx;first|rfl
 ·rfl
def p8:List Pt->Nat->Int
 |[],_=> -1
 |p::l,i=>bif au p then p8 l (i+1) else i
theorem sW {b:Bool}(h:(!b)=true):b=false:=by cases b with
 |false=>rfl
 |true=>cases h
def qc (l:List Pt):Prop:=l.length<=1000000
def jF (l:List Pt):AV:=.s (.int (p8 l 0))
def M7 (l:List Pt):List AV:=[]
def tQ:cu where
 A:=[.s (.vz ae),.fn 179 []]
 B:=[]
 pre:=λx b=>qc (x.1)
 r:=λx b _=>jF (x.1)
 o:=λx b _=>M7 (x.1)
def Q4:Has Tryz.prog 153 tQ:=by
 refine Has.sF zT zF zF (l:=[(179,sk)]) ⟨OK,aa⟩ Tryz.func153 ?_
 rintro⟨(l:List Pt),_⟩ _ (hp:qc l)
 show vc _ _ _ _ (entry [.s (.vz ae l),.fn 179 []] []) _
 have hp:l.length<=1000000:=hp
 refine ?_
 all_goals first|refine aw ?_|refine ax ?_|exact bb|(dsimp only [sk,qs];omega)|exact ba|skip
 refine jq (l:=[(179,sk)]) (ex:=zT) (wr:=zF) (pt:=zF) ⟨OK,aa⟩ [.s 0,.s 1,.s 6,.s 7] (λi:Nat=>[(.s 8,.int i)]) (λi=>i<=l.length/\p8 (l.drop i) i=p8 l 0) (λi=>l.length-i) 0 [] ⟨ZA7 _,rfl⟩ dP ?_
 rintro i ⟨(hi:i<=l.length),(hr:p8 (l.drop i) i=p8 l 0)⟩
 have cP:i<l.length->l.drop i=nth ae l i::l.drop (i+1):=λh=>bJ (ek:=ae) h
 have cF:decide ((i:Int)<(l.length:Int))=true->i<l.length:=λh=>by have:=aF h;omega
 refine⟨λw1=>⟨⟨?_,?_⟩,⟨⟨tv6,aa⟩,aa⟩,λx2 w3=>⟨λw4=>?_,λw5=>⟨⟨?_,?_⟩,?_⟩⟩⟩,λw6=>?_⟩
 all_goals first|refine aw ?_|refine ax ?_|exact bb|(dsimp only [sk,qs];omega)|exact ba|(show (i:Int)+1<=9223372036854775807;omega)|skip
 ·have e:p8 l 0=(i:Int):=by rw [<-hr,cP (cF w1),p8,show au (nth ae l i)=false from sW w4];rfl
  refine⟨[],[],_,_,_,ζ,aC,(),aa,?_,?_,ζ⟩
  ·(show _=jF l);unfold jF;first|(rw [e];rfl)|rfl
  ·rfl
 ·refine⟨(i+1),[],?_,?_,?_⟩
  rotate_right
  ·exact bY
  ·refine⟨cF w1,?_⟩
   rw [<-hr,cP (cF w1),p8,show au (nth ae l i)=true from cr w5];rfl
  ·show l.length-(i+1)<l.length-i;have:=cF w1;omega
 ·have e:p8 l 0= -1:=by rw [<-hr,ZB3 (by have:=aD w6;omega)];rfl
  refine⟨[],[],_,_,_,ζ,aC,(),aa,?_,?_,ζ⟩
  ·(show _=jF l);unfold jF;first|(rw [e];rfl)|rfl
  ·rfl
theorem LZ:∀(l:List Pt) (i:Nat),decide (p8 l i>=0)=l.any (λp=> !(au p))
 |[],_=>rfl
 |p::l,i=>by
  rw [p8,List.any_cons]
  cases au p with
  |true=>exact LZ l (i+1)
  |false=>show decide ((i:Int)>=0)=true;exact decide_eq_true (Int.natCast_nonneg i)
def lA (l:List Pt):Prop:=l.length<=1000000
def tB (l:List Pt):AV:=.s (.q (l.any (λp=> !(au p))))
def U8 (l:List Pt):List AV:=[]
def mH:cu where
 A:=[.s (.vz ae),.fn 179 []]
 B:=[]
 pre:=λx b=>lA (x.1)
 r:=λx b _=>tB (x.1)
 o:=λx b _=>U8 (x.1)
def JC:Has Tryz.prog 112 mH:=by
 refine Has.sF zT zF zF (l:=[(153,tQ)]) ⟨Q4,aa⟩ Tryz.func112 ?_
 rintro⟨(l:List Pt),_⟩ _ (hp:lA l)
 show vc _ _ _ _ (entry [.s (.vz ae l),.fn 179 []] []) _
 have hp:l.length<=1000000:=hp
 refine⟨⟨tv3,?_⟩,λx1 w2=>?_⟩
 all_goals first|refine aw ?_|refine ax ?_|exact bb|(dsimp only [tQ,qc];omega)|exact ba|exact hp|skip
 refine⟨[],[],_,_,_,ζ,aC,(),aa,?_,?_,ζ⟩
 ·(show _=tB l);unfold tB;first|(rw [<-LZ l 0];rfl)|rfl
 ·rfl
def PA {l:List Pt}(h:(bN l).2=false):bN l=(⟨#[]⟩,false):=by
 cases h0:decide ((l.length:Int)≠4) with
 |true=>exact zS h0
 |false=>
  rw [zR h0] at h ⊢
  match e:ja l 0 ⟨#[]⟩ false with
  |none=>exact qN e
  |some (o,sm)=>
   rw [uP e] at h ⊢
   cases hs: !sm with
   |true=>exact IB hs
   |false=>rw [zU hs] at h;cases h
def WN {l:List Pt}(h0:decide ((l.length:Int)≠4)=false) (h:l.any (λp=> !(au p))=false):bN l=(⟨#[]⟩,false):=by
 cases h2:(bN l).2 with
 |true=>
  obtain⟨a,b,c,d,rfl,ha,hb,hc,hd,hs,_⟩:=ny h2
  simp only [List.any_cons,List.any_nil,Bool.or_false] at h
  simp_all
 |false=>exact PA h2
def p7 (l:List Pt) (n:Nat):List ByteArray:=(l.take n).map bj
def IX {l:List Pt}{n:Nat}(h:n<l.length):p7 l (n+1)=p7 l n++[bj (nth ae l n)]:=by
 unfold p7
 rw [List.take_succ,qe (ek:=ae) h,List.map_append];rfl
def ac9 {l:List Pt}(h4:l.length=4) (n:Nat) (hn:n<4) (h:bc (nth ae l n)=false):bN l=(⟨#[]⟩,false):=by
 cases h2:(bN l).2 with
 |true=>
  obtain⟨a,b,c,d,rfl,ha,hb,hc,hd,_⟩:=ny h2
  have h6:n=0\/n=1\/n=2\/n=3:=by omega
  rcases h6 with rfl |rfl |rfl |rfl
  ·exact absurd (ha.symm.trans h) (by decide)
  ·exact absurd (hb.symm.trans h) (by decide)
  ·exact absurd (hc.symm.trans h) (by decide)
  ·exact absurd (hd.symm.trans h) (by decide)
 |false=>exact PA h2
def afo {l:List Pt}(h4:l.length=4):(Lib.join ((p7 l 4).map (·.data.toList)) (⟨#[44]⟩:ByteArray).data.toList).length<=1000000:=by
 match l,h4 with
 |[a,b,c,d],_=>
  have h:=congrArg List.length (amv (bj a) (bj b) (bj c) (bj d))
  have e1:=fH a;have e2:=fH b;have e3:=fH c;have e4:=fH d
  rw [cT] at e1 e2 e3 e4
  rw [KM] at h
  have h':(Lib.join ((p7 [a,b,c,d] 4).map (·.data.toList)) (⟨#[44]⟩:ByteArray).data.toList).length=_:=h
  rw [h']
  simp only [ZA0,ZA1]
  omega
def aaW {l:List Pt}(h4:l.length=4) (hs:l.any (λp=> !(au p))=true) (hk:∀j,j<4->bc (nth ae l j)=true):bN l=(EG ⟨#[44]⟩ (p7 l 4),true):=by
 have h2:(bN l).2=true:=yE h4 (λp hp=>by
  obtain⟨j,hj,rfl⟩:=List.getElem_of_mem hp
  have:=hk j (by omega)
  unfold nth at this;rw [ZB2 hj] at this;exact this) (by rw [hs];rfl)
 obtain⟨a,b,c,d,rfl,ha,hb,hc,hd,_,hl⟩:=ny h2
 have e:(bN [a,b,c,d]).1=EG ⟨#[44]⟩ (p7 [a,b,c,d] 4):=nq (by rw [hl];exact (amv _ _ _ _).symm)
 rw [<-e,<-h2]
def pB (l:List Pt):Prop:=True
def fQ (l:List Pt):AV:=.t [.s (.str (bN l).1),.s (.q (bN l).2)]
def acp (l:List Pt):List AV:=[]
def qO:cu where
 A:=[.s (.vz ae)]
 B:=[]
 pre:=λx b=>pB x
 r:=λx b _=>fQ x
 o:=λx b _=>acp x
def SO:Has Tryz.prog 152 qO:=by
 refine Has.sF zT zF zF (l:=[(112,mH),(74,cJ),(172,eQ),(180,P4)]) ⟨JC,jI,uJ,WB,aa⟩ Tryz.func152 ?_
 rintro (l:List Pt) _ (hp:pB l)
 show vc _ _ _ _ (entry [.s (.vz ae l)] []) _
 have h4:decide ((l.length:Int)≠4)=false->l.length=4:=λh=>by have:=aD h;omega
 refine⟨aa,λw1=>?_,λw2=>⟨⟨tv3,?_⟩,λx3 w4=>⟨λw5=>?_,λw6=>?_⟩⟩⟩
 all_goals first|refine aw ?_|refine ax ?_|exact bb|(dsimp only [mH,lA,cJ,da,eQ,eN];omega)|exact ba|(show l.length<=1000000;have:=h4 (by assumption);omega)|skip
 ·refine⟨[],[],_,_,_,ζ,aC,(),aa,?_,?_,ζ⟩
  ·(show _=fQ l);unfold fQ;first|(rw [zS w1];rfl)|rfl
  ·rfl
 ·have e:bN l=(⟨#[]⟩,false):=WN w2 (sW w5)
  refine⟨[],[],_,_,_,ζ,aC,(),aa,?_,?_,ζ⟩
  ·(show _=fQ l);unfold fQ;first|(rw [e];rfl)|rfl
  ·rfl
 ·have hl:=h4 w2
  have hs:l.any (λp=> !(au p))=true:=cr w6
  refine jq (l:=[(112,mH),(74,cJ),(172,eQ),(180,P4)]) (ex:=zT) (wr:=zF) (pt:=zF) ⟨JC,jI,uJ,WB,trivial⟩ [.s 0,.s 15,.s 16] (λy:Nat×List ByteArray=>match y.1 with |0=>[(.s 4,.s (.v (.slice none 0 0))),(.s 17,.int 0)] |n+1=>[(.s 4,.s (.xs 1019 1 0 y.2.length)),(.s 17,.int ((n+1:Nat):Int)),(.b 1019,.rs ab y.2)]) (λy=>y.1<=4/\y.2=p7 l y.1/\∀j,j<y.1->bc (nth ae l j)=true) (λy=>4-y.1) (0,[]) [] ⟨ZA7 _,rfl,λj hj=>absurd hj (by omega)⟩ dP ?_
  rintro⟨n,T⟩ ⟨(hn:n<=4),(hT:T=p7 l n),hk⟩
  have hlen:T.length<=4:=by rw [hT];unfold p7;rw [ZH3,ZB6];omega
  have jt:∀n,n<4->(!(bc (nth ae l n)))=true->bN l=(⟨#[]⟩,false):=λn hn h=>ac9 hl n hn (sW h)
  have cP:∀n,(∀j,j<n->bc (nth ae l j)=true)->(!(bc (nth ae l n)))=false->∀j,j<n+1->bc (nth ae l j)=true:=λn h h2 j hj=>by
   by_cases hjn:j=n
   ·rw [hjn];exact cr h2
   ·exact h j (by omega)
  cases n with
  |zero=>
   refine⟨λw1=>⟨⟨?_,?_⟩,⟨⟨tv6,aa⟩,aa⟩,λx2 w3=>⟨λw4=>?_,λw5=>⟨⟨⟨tv6,aa⟩,aa⟩,λx6 w7=>⟨aa,⟨⟨?_,?_⟩,?_,?_⟩,⟨?_,?_⟩,?_⟩⟩⟩⟩,λw8=>⟨⟨tv3,?_,?_⟩,λx9 dB=>?_⟩⟩
   all_goals first|(exfalso;simp only [decide_eq_true_eq,decide_eq_false_iff_not] at *;omega)|refine aw ?_|refine ax ?_|exact bb|(dsimp only [mH,lA,cJ,da,eQ,eN];omega)|exact ba|skip
   ·refine⟨[],[],_,_,_,ζ,aC,(),aa,?_,?_,ζ⟩
    ·(show _=fQ l);unfold fQ;first|(rw [jt 0 (by omega) w4];rfl)|rfl
    ·rfl
   ·refine⟨(1,[bj (nth ae l 0)]),[(1019,1028)],?_,?_,?_⟩
    rotate_right
    ·exact bY
    ·exact⟨by show 1<=4;omega,(by show _=p7 l (0+1);rw [IX (by omega)];rfl),cP 0 hk w5⟩
    ·show 4-1<4-0;omega
  |succ n=>
   have cF:decide (((n+1:Nat):Int)<(l.length:Int))=true->n+1<4:=λh=>by have:=aF h;omega
   have hj:n+1=4->(Lib.join (T.map (·.data.toList)) (⟨#[44]⟩:ByteArray).data.toList).length<=1000000:=λh=>by rw [hT,h];exact afo hl
   have lZ:decide (((n+1:Nat):Int)<(l.length:Int))=false->n+1=4:=λh=>by have:=aD h;omega
   refine⟨λw1=>⟨⟨?_,?_⟩,⟨⟨tv6,aa⟩,aa⟩,λx2 w3=>⟨λw4=>?_,λw5=>⟨⟨⟨tv6,aa⟩,aa⟩,λx6 w7=>⟨aa,⟨⟨?_,?_⟩,?_,?_⟩,⟨?_,?_⟩,?_⟩⟩⟩⟩,λw8=>⟨⟨⟨⟨?_,?_⟩,tv2⟩,?_,?_⟩,λx9 dB=>?_⟩⟩
   all_goals first|(exfalso;simp only [decide_eq_true_eq,decide_eq_false_iff_not] at *;omega)|refine aw ?_|refine ax ?_|exact bb|(dsimp only [mH,lA,cJ,da,eQ,eN];omega)|exact ba|(show T.length+1<=1048576;omega)|exact hj (lZ w8)|(show T.length<=1000000;omega)|skip
   ·refine⟨[],[],_,_,_,ζ,aC,(),aa,?_,?_,ζ⟩
    ·(show _=fQ l);unfold fQ;first|(rw [jt (n+1) (cF w1) w4];rfl)|rfl
    ·rfl
   ·have bR:=cF w1
    refine⟨(n+2,T++[bj (nth ae l (n+1))]),[(1019,1028)],?_,?_,?_⟩
    rotate_right
    ·exact bY
    ·exact⟨by show n+2<=4;omega,by show _=p7 l (n+1+1);rw [IX (by omega),hT],cP (n+1) hk w5⟩
    ·show 4-(n+2)<4-(n+1);omega
   ·have e:bN l=(EG ⟨#[44]⟩ T,true):=by rw [hT,lZ w8];exact aaW hl hs (by rw [<-lZ w8];exact hk)
    refine⟨[],[],_,_,_,ζ,aC,(),aa,?_,?_,ζ⟩
    ·(show _=fQ l);unfold fQ;first|(rw [e];rfl)|rfl
    ·rfl
end GL
namespace GL
theorem abV {s:ByteArray}(h:(bC s).2=true):bj (bC s).1=s:=by
 cases h0:decide (s=⟨#[45]⟩) with
 |true=>rw [zr h0,aF h0];rfl
 |false=>
  cases h5:decide (((bz s 46).length:Int)≠5) with
  |true=>rw [G0 h0 h5] at h;cases h
  |false=>
   have hl:(bz s 46).length=5:=by have:=aD (p:=((bz s 46).length:Int)≠5) h5;omega
   have hk:∀j,j<5->(aA (nth ab (bz s 46) j)).2=true:=λj hj=>by
    cases hb:(aA (nth ab (bz s 46) j)).2 with
    |true=>rfl
    |false=>rw [uo h0 h5,GZ (HG _ [] j (by rw [hl];exact hj) hb)] at h;cases h
   have e:=MP h0 hl hk
   cases hd:decide (bj (UW (bz s 46))≠s) with
   |true=>rw [e,hd] at h;cases h
   |false=>
    rw [e,hd]
    exact ZE6.1 (aD (p:=¬bj (UW (bz s 46))=s) hd)
def sH (t:ByteArray):Pt:=(bC t).1
def aaZ:∀{l:List ByteArray}{out o:List Pt}{sm sm':Bool},pS l out sm=some (o,sm')->o=out++l.map sH/\(∀t∈l,(bC t).2=true)/\sm'=(sm||(l.map sH).any (λp=> !(au p)))
 |[],out,o,sm,sm',h=>by
  unfold pS at h;cases h;simp
 |t::l,out,o,sm,sm',h=>by
  unfold pS at h
  cases ht:(bC t).2 with
  |false=>rw [ht] at h;cases h
  |true=>
   rw [ht] at h
   obtain⟨h1,h2,h3⟩:=aaZ (l:=l) h
   refine⟨by rw [h1];simp [sH],?_,by rw [h3];simp [sH,Bool.or_assoc]⟩
   intro t' ht'
   rcases ZB7.1 ht' with rfl |h'
   ·exact ht
   ·exact h2 t' h'
def adg {s:ByteArray}(h:(bw s).2=false):bw s=([],false):=by
 match e:pS (bz s 44) [] false with
 |none=>exact zV e
 |some (o,sm)=>
  rw [kQ e] at h ⊢
  cases h4:decide ((o.length:Int)≠4) with
  |true=>exact EW h4
  |false=>
   cases hs: !sm with
   |true=>exact EV hs
   |false=>rw [yH h4 hs] at h;cases h
def CL {s:ByteArray}(h:(bw s).2=true):(bz s 44).length=4/\(bw s).1=(bz s 44).map sH/\(∀t∈bz s 44,(bC t).2=true)/\bN ((bz s 44).map sH)=(s,true):=by
 match e:pS (bz s 44) [] false with
 |none=>rw [zV e] at h;cases h
 |some (o,sm)=>
  rw [kQ e] at h ⊢
  obtain⟨h1,h2,h3⟩:=aaZ e
  rw [ZC9] at h1
  cases h4:decide ((o.length:Int)≠4) with
  |true=>rw [EW h4] at h;cases h
  |false=>
   cases hs: !sm with
   |true=>rw [EV hs] at h;cases h
   |false=>
    rw [yH h4 hs]
    have hol:o.length=4:=by have:=aD (p:=(o.length:Int)≠4) h4;omega
    have hl:(bz s 44).length=4:=by rw [h1,ZH3] at hol;exact hol
    refine⟨hl,h1,h2,?_⟩
    have aro:((bz s 44).map sH).any (λp=> !(au p))=true:=by rw [Bool.false_or] at h3;rw [<-h3];exact cr hs
    have hy:(bN ((bz s 44).map sH)).2=true:=yE (by rw [ZH3];exact hl) (λp hp=>by
     obtain⟨t,_,rfl⟩:=List.mem_map.1 hp
     exact MQ t) (by rw [aro];rfl)
    obtain⟨a,b,c,d,he,_,_,_,_,_,hlb⟩:=ny hy
    have ajA:=ae7 s 44 (l:=bz s 44) rfl
    match aaI:bz s 44,hl with
    |[w,x,y,z],_=>
     rw [aaI] at he hlb h2 hy ajA
     have hi:∀t∈[w,x,y,z],bj (sH t)=t:=λt ht=>abV (h2 t ht)
     injection he with ea he;injection he with eb he;injection he with ec he;injection he with ed he
     rw [<-ea,<-eb,<-ec,<-ed,hi w (by simp),hi x (by simp),hi y (by simp),hi z (by simp)] at hlb
     have e1:(bN (List.map sH [w,x,y,z])).1=s:=nq (by rw [hlb,<-ajA];rfl)
     rw [<-e1,<-hy]
theorem ade {s:ByteArray}{n:Nat}(hn:n<(bz s 44).length) (h:(!(bC (nth ab (bz s 44) n)).2)=true):(bw s).2=false:=by
 cases h2:(bw s).2 with
 |false=>rfl
 |true=>
  obtain⟨_,_,h3,_⟩:=CL h2
  have:=h3 _ (bS (ek:=ab) hn)
  rw [this] at h;cases h
theorem aaY {s:ByteArray}(h:(bz s 44).length≠4):(bw s).2=false:=by
 cases h2:(bw s).2 with
 |false=>rfl
 |true=>exact absurd (CL h2).1 h
theorem adb {s:ByteArray}{l:List Pt}(hl:l=(bz s 44).map sH) (h:(bN l).2=false\/(bN l).1≠s):(bw s).2=false:=by
 cases h2:(bw s).2 with
 |false=>rfl
 |true=>
  have e:=(CL h2).2.2.2
  rw [<-hl] at e
  rcases h with h |h
  ·rw [e] at h;cases h
  ·rw [e] at h;exact absurd rfl h
def S2 {l:List ByteArray}{n:Nat}(h:n<l.length):(l.take (n+1)).map sH=(l.take n).map sH++[sH (nth ab l n)]:=by
 rw [List.take_succ,qe (ek:=ab) h,List.map_append];rfl
def sU (s:ByteArray):Prop:=s.size<=1000000
def Y7 (s:ByteArray) (z:Bool):Prop:=z=(bw s).2
def dw (s:ByteArray) (z:Bool):AV:=.t [match z with |true=>.s (.xs 0 5 0 (bw s).1.length) |false=>.s (.v (.slice none 0 0)),.s (.q z)]
def dT (s:ByteArray) (z:Bool):List AV:=match z with |true=>[.rs ae (bw s).1] |false=>[.zz]
def IP:cu where
 A:=[.s .str]
 B:=[]
 pre:=λx b=>sU x
 α:=λ_ _=>Bool
 φ:=λx b z=>Y7 x z
 r:=λx b z=>dw x z
 o:=λx b z=>dT x z
 nf:=1
def agD:Has Tryz.prog 111 IP:=by
 refine Has.acA zT zF zF (l:=[(151,E8),(144,mG),(152,qO)]) ⟨KQ,HT,SO,aa⟩ Tryz.func111 ?_
 rintro (s:ByteArray) _ (hp:sU s)
 show vc _ _ _ _ (entry [.str s] []) _
 unfold sU at hp
 have KR:jd s ⟨#[44]⟩=bz s 44:=X4 s 44
 have hL:(jd s ⟨#[44]⟩).length<=s.size+1:=by rw [KR];exact (wz s 44).2
 refine⟨⟨tv3,?_,?_⟩,λx1 w2=>?_⟩
 all_goals first|refine aw ?_|refine ax ?_|exact bb|(dsimp only [mG,ka,qO,pB];omega)|exact ba|(show 1<=(1:Nat);omega)|skip
 have db:∀n,n<(jd s ⟨#[44]⟩).length->(nth ab (jd s ⟨#[44]⟩) n).size<=1000000:=λn h=>by rw [KR] at *;exact ZA9 (th (s:=s) (c:=44) _ (bS (ek:=ab) h)) hp
 have jt:∀n,n<(jd s ⟨#[44]⟩).length->(!(bC (nth ab (jd s ⟨#[44]⟩) n)).2)=true->false=(bw s).2:=λn hn h=>by rw [KR] at *;exact (ade hn h).symm
 have apa:(jd s ⟨#[44]⟩).length≠4->false=(bw s).2:=λh=>by rw [KR] at h;exact (aaY h).symm
 have aaB:∀l,l=(jd s ⟨#[44]⟩).map sH->((bN l).2=false\/(bN l).1≠s)->false=(bw s).2:=λl hl h=>by rw [KR] at hl;exact (adb hl h).symm
 refine jq (l:=[(151,E8),(144,mG),(152,qO)]) (ex:=zT) (wr:=zF) (pt:=zF) ⟨KQ,HT,SO,aa⟩ [.s 0,.s 12,.s 13] (λy:Nat×List Pt=>match y.1 with |0=>[(.s 4,.s (.v (.slice none 0 0))),(.s 14,.int 0)] |n+1=>[(.s 4,.s (.xs 1019 5 0 y.2.length)),(.s 14,.int ((n+1:Nat):Int)),(.b 1019,.rs ae y.2)]) (λy=>y.1<=(jd s ⟨#[44]⟩).length/\y.1<=4/\y.2=((jd s ⟨#[44]⟩).take y.1).map sH) (λy=>4-y.1) (0,[]) [] ⟨ZA7 _,ZA7 _,rfl⟩ dP ?_
 rintro⟨n,T⟩ ⟨(hn:n<=(jd s ⟨#[44]⟩).length),(hn4:n<=4),(hT:T=((jd s ⟨#[44]⟩).take n).map sH)⟩
 have hlen:T.length=n:=by rw [hT,ZH3,ZB6];omega
 have cF:∀m:Nat,decide ((m:Int)<((jd s ⟨#[44]⟩).length:Int))=true->m<(jd s ⟨#[44]⟩).length:=λm h=>by have:=aF h;omega
 have lZ:decide ((n:Int)<((jd s ⟨#[44]⟩).length:Int))=false->T=(jd s ⟨#[44]⟩).map sH:=λh=>by
  have:=aD h
  rw [hT,ZC4 (by omega)]
 have apf:(!(bN T).2)=false->decide ((bN T).1≠s)=false->bw s=(T,true):=λh h2=>by
  have e:(bN T).1=s:=ZE6.1 (aD (p:=¬(bN T).1=s) h2)
  rw [<-e];exact JL (cr h)
 cases n with
 |zero=>
  have hT0:T=[]:=hT
  subst hT0
  refine⟨λw1=>⟨⟨?_,?_⟩,⟨tv2,?_⟩,λx2 w3=>⟨aa,λw4=>?_,λw5=>⟨λw6=>?_,λw7=>⟨aa,⟨⟨?_,?_⟩,?_,?_⟩,⟨?_,?_⟩,?_⟩⟩⟩⟩,λw8=>⟨⟨tv2,aa⟩,λx9 dB=>⟨aa,λiP=>?_,λdW=>⟨λiL=>?_,λgY=>?_⟩⟩⟩⟩
  all_goals first|(exfalso;simp only [decide_eq_true_eq,decide_eq_false_iff_not] at *;omega)|refine aw ?_|refine ax ?_|exact bb|(dsimp only [mG,ka,qO,pB];omega)|exact ba|exact db 0 (cF 0 w1)|skip
  ·refine⟨[],[],_,_,_,ζ,aC,false,1,(jt 0 (cF 0 w1) w4),?_,?_,ζ⟩
   ·(show _=dw s false);unfold dw;first|(rw [rfl];rfl)|rfl
   ·(show _=dT s false);unfold dT;first|(rw [rfl];rfl)|rfl
  ·refine⟨(1,[sH (nth ab (jd s ⟨#[44]⟩) 0)]),[(1019,1033)],?_,?_,?_⟩
   rotate_right
   ·exact bY
   ·exact⟨cF 0 w1,by show 1<=4;omega,by show _=((jd s ⟨#[44]⟩).take (0+1)).map sH;rw [S2 (cF 0 w1)];rfl⟩
   ·show 4-1<4-0;omega
  ·refine⟨[],[],_,_,_,ζ,aC,false,1,(aaB [] (lZ w8) (.inl (sW iP))),?_,?_,ζ⟩
   ·(show _=dw s false);unfold dw;first|(rw [rfl];rfl)|rfl
   ·(show _=dT s false);unfold dT;first|(rw [rfl];rfl)|rfl
  ·refine⟨[],[],_,_,_,ζ,aC,false,1,(aaB [] (lZ w8) (.inr (aF iL))),?_,?_,ζ⟩
   ·(show _=dw s false);unfold dw;first|(rw [rfl];rfl)|rfl
   ·(show _=dT s false);unfold dT;first|(rw [rfl];rfl)|rfl
  ·exact absurd dW (by decide)
 |succ n=>
  refine⟨λw1=>⟨⟨?_,?_⟩,⟨tv2,?_⟩,λx2 w3=>⟨aa,λw4=>?_,λw5=>⟨λw6=>?_,λw7=>⟨aa,⟨⟨?_,?_⟩,?_,?_⟩,⟨?_,?_⟩,?_⟩⟩⟩⟩,λw8=>⟨⟨⟨⟨?_,?_⟩,aa⟩,aa⟩,λx9 dB=>⟨aa,λiP=>?_,λdW=>⟨λiL=>?_,λgY=>?_⟩⟩⟩⟩
  all_goals first|(exfalso;simp only [decide_eq_true_eq,decide_eq_false_iff_not] at *;omega)|refine aw ?_|refine ax ?_|exact bb|(dsimp only [mG,ka,qO,pB];omega)|exact ba|exact db (n+1) (cF (n+1) w1)|skip
  ·refine⟨[],[],_,_,_,ζ,aC,false,1,(jt (n+1) (cF (n+1) w1) w4),?_,?_,ζ⟩
   ·(show _=dw s false);unfold dw;first|(rw [rfl];rfl)|rfl
   ·(show _=dT s false);unfold dT;first|(rw [rfl];rfl)|rfl
  ·have h4:T.length=4:=by have:=aF (p:=(T.length:Int)=4) w6;omega
   refine⟨[],[],_,_,_,ζ,aC,false,1,(apa (by have:=cF (n+1) w1;omega)),?_,?_,ζ⟩
   ·(show _=dw s false);unfold dw;first|(rw [rfl];rfl)|rfl
   ·(show _=dT s false);unfold dT;first|(rw [rfl];rfl)|rfl
  ·have h4:T.length≠4:=by have:=aD (p:=(T.length:Int)=4) w7;omega
   refine⟨(n+2,T++[sH (nth ab (jd s ⟨#[44]⟩) (n+1))]),[(1019,1033)],?_,?_,?_⟩
   rotate_right
   ·exact bY
   ·exact⟨cF (n+1) w1,by show n+2<=4;omega,by show _=((jd s ⟨#[44]⟩).take (n+1+1)).map sH;rw [S2 (cF (n+1) w1),hT]⟩
   ·show 4-(n+2)<4-(n+1);omega
  ·refine⟨[],[],_,_,_,ζ,aC,false,1,(aaB T (lZ w8) (.inl (sW iP))),?_,?_,ζ⟩
   ·(show _=dw s false);unfold dw;first|(rw [rfl];rfl)|rfl
   ·(show _=dT s false);unfold dT;first|(rw [rfl];rfl)|rfl
  ·refine⟨[],[],_,_,_,ζ,aC,false,1,(aaB T (lZ w8) (.inr (aF iL))),?_,?_,ζ⟩
   ·(show _=dw s false);unfold dw;first|(rw [rfl];rfl)|rfl
   ·(show _=dT s false);unfold dT;first|(rw [rfl];rfl)|rfl
  ·have e:=apf dW gY
   refine⟨[1019],[],_,_,_,ζ,aC,true,0,(show true=(bw s).2 by rw [e]),?_,?_,ζ⟩
   ·(show _=dw s true);unfold dw;first|(rw [e];rfl)|rfl
   ·(show _=dT s true);unfold dT;first|(rw [e];rfl)|rfl
end GL
namespace GL
def iv (n:Int):Prop:=True
def vr (n:Int):AV:=.int (bo n)
def ZI (n:Int):List AV:=[]
def gj:cu where
 A:=[.s .int]
 B:=[]
 pre:=λx b=>iv x
 r:=λx b _=>vr x
 o:=λx b _=>ZI x
def rW:Has Tryz.prog 100 gj:=by
 refine Has.sF zT zF zF (l:=[]) trivial Tryz.func100 ?_
 rintro (n:Int) _ (hp:iv n)
 show vc _ _ _ _ (entry [.int n] []) _
 refine⟨λw1=>?_,λw2=>⟨λw3=>?_,λw4=>?_⟩⟩
 all_goals first|refine aw ?_|refine ax ?_|exact bb|exact ba|skip
 all_goals
  refine⟨[],[],_,_,_,ζ,aC,(),aa,?_,?_,ζ⟩
  ·(show _=vr n);unfold vr;first|((simp only [bo, *];rfl))|rfl
  ·rfl
def kI (S:ay) (p:Pt):Prop:=S.szs/\S.rows.length=64/\bc p=true
def od (S:ay) (p:Pt):AV:=.t [.s (.str (bB S p).1),.s (.q (bB S p).2)]
def aif (S:ay) (p:Pt):List AV:=[]
def lR:cu where
 A:=[.vs vj,.a [.int,.int,.int,.int,.int]]
 B:=[]
 pre:=λx b=>kI (x.1) (x.2)
 r:=λx b _=>od (x.1) (x.2)
 o:=λx b _=>aif (x.1) (x.2)
def zM:Has Tryz.prog 57 lR:=by
 refine Has.sF zT zF zF (l:=[(56,bQ),(101,CW)]) ⟨eo,acP,aa⟩ Tryz.func57 ?_
 rintro⟨⟨(aj:List ByteArray),(ak:List Int),(an:List Int),(ao:Int),(ah:List Pt),(aq:Int),(ai:List Pt),(ar:Bool)⟩,⟨(p1:Int),(p2:Int),(p3:Int),(p4:Int),(p5:Int)⟩⟩ _ (hp:kI (aj,ak,an,ao,ah,aq,ai,ar) (p1,p2,p3,p4,p5))
 show vc _ _ _ _ (entry [.s (.vs [.vz ab aj,.vz ag ak,.vz ag an,.v (.int .i64 ao),.vz ae ah,.v (.int .i64 aq),.vz ae ai,.q ar] 0),.a [.int p1,.int p2,.int p3,.int p4,.int p5]] []) _
 obtain⟨h1,(hlen:aj.length=64),cn⟩:=hp
 have cn:bc (p1,p2,p3,p4,p5)=true:=cn
 have AH:au (p1,p2,p3,p4,p5)=false->0<=p1/\p1<64:=λh=>by
  have:=px cn;dsimp only at this;omega
 have db:au (p1,p2,p3,p4,p5)=false->(nth ab aj p1.toNat).size<=1000000000:=λh=>ZA9 (h1 _ (bS (ek:=ab) (show p1.toNat<aj.length by have:=AH h;omega))) (by omega)
 refine⟨⟨⟨tv6,aa⟩,aa⟩,λx1 w2=>⟨λw3=>?_,λw4=>⟨[.s 3,.b 1003],Sq10,ζ,Sq0,Sq11,ζ,Sq11,Sq12,ζ,Sq12,Sq13,ζ,Sq13,Sq14,ζ,Sq3,Sq15,ζ,[.s 15,.b 1003],Sq16,ζ,[.s 14,.s 16],Sq17,ζ,⟨?_,?_⟩,Sq17,Sq18,ζ,[.s 10,.s 18],Sq19,ζ,⟨⟨tv6,tv2⟩,?_⟩,?_,λx5 w6=>⟨Sq19,Sq20,ζ,Sq20,Sq9,ζ,λw7=>?_,λw8=>⟨Sq0,Sq21,ζ,Sq21,Sq22,ζ,Sq22,Sq23,ζ,Sq23,Sq24,ζ,Sq3,Sq25,ζ,[.s 25,.b 1003],Sq26,ζ,[.s 24,.s 26],Sq27,ζ,⟨?_,?_⟩,Sq27,Sq28,ζ,Sq28,Sq4,ζ,[],Sq5,ζ,?_⟩⟩⟩⟩⟩
 all_goals first|refine aw ?_|refine ax ?_|exact bb|(dsimp only [bQ,cl,CW,vO];omega)|exact ba|exact db w4|exact (AH w4).1|(have:=(AH w4).2;show p1<(aj.length:Int);omega)|skip
 ·refine⟨[],[],_,_,_,ζ,aC,(),aa,?_,?_,ζ⟩
  ·(show _=od (aj,ak,an,ao,ah,aq,ai,ar) (p1,p2,p3,p4,p5));unfold od;first|(rw [fw w3];rfl)|rfl
  ·rfl
 ·refine⟨[],[],_,_,_,ζ,aC,(),aa,?_,?_,ζ⟩
  ·(show _=od (aj,ak,an,ao,ah,aq,ai,ar) (p1,p2,p3,p4,p5));unfold od;first|(rw [GR w4 (P7 w7)];rfl)|rfl
  ·rfl
 ·refine⟨[],[],_,_,_,ζ,aC,(),aa,?_,?_,ζ⟩
  ·(show _=od (aj,ak,an,ao,ah,aq,ai,ar) (p1,p2,p3,p4,p5));unfold od;first|(rw [vD w4 (qi w8)];rfl)|rfl
  ·rfl
def zt (k:Pt) (p:Pt):Prop:=True
def GF (k:Pt) (p:Pt):AV:=.s (.q (late p k))
def M6 (k:Pt) (p:Pt):List AV:=[.a [.int p.1,.int p.2.1,.int p.2.2.1,.int p.2.2.2.1,.int p.2.2.2.2]]
def E5:cu where
 A:=[.a [.int,.int,.int,.int,.int],.b 0]
 B:=[.a [.int,.int,.int,.int,.int]]
 pre:=λx b=>zt (x.1) b
 r:=λx b _=>GF (x.1) b
 o:=λx b _=>M6 (x.1) b
 ro:=true
def aeA:Has Tryz.prog 113 E5:=by
 refine Has.sF zT zF zF (l:=[]) trivial Tryz.func113 ?_
 rintro⟨⟨(k1:Int),(k2:Int),(k3:Int),(k4:Int),(k5:Int)⟩,_⟩ ⟨(p1:Int),(p2:Int),(p3:Int),(p4:Int),(p5:Int)⟩ (hp:zt (k1,k2,k3,k4,k5) (p1,p2,p3,p4,p5))
 show vc _ _ _ _ (entry [.a [.int k1,.int k2,.int k3,.int k4,.int k5],.s (.bp 0 0)] [.a [.int p1,.int p2,.int p3,.int p4,.int p5]]) _
 refine ?_
 all_goals first|refine aw ?_|refine ax ?_|exact bb|exact ba|skip
 refine⟨[],[],_,_,_,ζ,aC,(),aa,?_,?_,ζ⟩
 ·(show _=GF (k1,k2,k3,k4,k5) (p1,p2,p3,p4,p5));unfold GF;first|rfl
 ·(show _=M6 (k1,k2,k3,k4,k5) (p1,p2,p3,p4,p5));unfold M6;first|rfl
def wV (p:Pt):List Pt->Nat->Int
 |[],_=> -1
 |q::l,i=>bif late p q then i else wV p l (i+1)
def rH (l:List Pt) (f:Pt):Prop:=l.length<=1000000
def j6 (l:List Pt) (f:Pt):AV:=.s (.int (wV f l 0))
def lC (l:List Pt) (f:Pt):List AV:=[.a [.int f.1,.int f.2.1,.int f.2.2.1,.int f.2.2.2.1,.int f.2.2.2.2]]
def wK:cu where
 A:=[.s (.vz ae),.fn 113 [0]]
 B:=[.a [.int,.int,.int,.int,.int]]
 pre:=λx b=>rH (x.1) b
 r:=λx b _=>j6 (x.1) b
 o:=λx b _=>lC (x.1) b
 ro:=true
def V8:Has Tryz.prog 153 wK:=by
 refine Has.sF zT zF zF (l:=[(113,E5)]) ⟨aeA,aa⟩ Tryz.func153 ?_
 rintro⟨(l:List Pt),_⟩ ⟨(f1:Int),(f2:Int),(f3:Int),(f4:Int),(f5:Int)⟩ (hp:rH l (f1,f2,f3,f4,f5))
 show vc _ _ _ _ (entry [.s (.vz ae l),.fn 113 [(0,0)]] [.a [.int f1,.int f2,.int f3,.int f4,.int f5]]) _
 let A':=(f1,f2,f3,f4,f5)
 have hp:l.length<=1000000:=hp
 refine ?_
 all_goals first|refine aw ?_|refine ax ?_|exact bb|(dsimp only [E5,zt];omega)|exact ba|skip
 refine jq (l:=[(113,E5)]) (ex:=zT) (wr:=zF) (pt:=zF) ⟨aeA,aa⟩ [.s 0,.s 1,.s 6,.s 7,.b 0] (λi:Nat=>[(.s 8,.int i)]) (λi=>i<=l.length/\wV A' (l.drop i) i=wV A' l 0) (λi=>l.length-i) 0 [] ⟨ZA7 _,rfl⟩ dP ?_
 rintro i ⟨(hi:i<=l.length),(hr:wV A' (l.drop i) i=wV A' l 0)⟩
 have cP:i<l.length->l.drop i=nth ae l i::l.drop (i+1):=λh=>bJ (ek:=ae) h
 have cF:decide ((i:Int)<(l.length:Int))=true->i<l.length:=λh=>by have:=aF h;omega
 refine⟨λw1=>⟨⟨?_,?_⟩,⟨⟨⟨tv6,tv2⟩,aa⟩,λx2 w3=>?_⟩,λx4 w5=>⟨λw6=>?_,λw7=>⟨⟨?_,?_⟩,?_⟩⟩⟩,λw8=>?_⟩
 all_goals first|refine aw ?_|refine ax ?_|exact bb|(dsimp only [E5,zt];omega)|exact ba|(show (i:Int)+1<=9223372036854775807;omega)|skip
 ·have e:wV A' l 0=(i:Int):=by rw [<-hr,cP (cF w1),wV,show late A' (nth ae l i)=true from w6];rfl
  refine⟨[],[],_,_,_,ζ,aC,(),aa,?_,?_,ζ⟩
  ·(show _=j6 l A');unfold j6;first|(rw [e];rfl)|rfl
  ·(show _=lC l A');unfold lC;first|(rw [e];rfl)|rfl
 ·refine⟨(i+1),[],?_,?_,?_⟩
  rotate_right
  ·exact bY
  ·refine⟨cF w1,?_⟩
   rw [<-hr,cP (cF w1),wV,show late A' (nth ae l i)=false from w7];rfl
  ·show l.length-(i+1)<l.length-i;have:=cF w1;omega
 ·have e:wV A' l 0= -1:=by rw [<-hr,ZB3 (by have:=aD w8;omega)];rfl
  refine⟨[],[],_,_,_,ζ,aC,(),aa,?_,?_,ζ⟩
  ·(show _=j6 l A');unfold j6;first|(rw [e];rfl)|rfl
  ·(show _=lC l A');unfold lC;first|(rw [e];rfl)|rfl
theorem HR (p:Pt):∀(l:List Pt) (i:Nat),decide (wV p l i>=0)=l.any (late p)
 |[],_=>rfl
 |q::l,i=>by
  rw [wV,List.any_cons]
  cases late p q with
  |false=>exact HR p l (i+1)
  |true=>show decide ((i:Int)>=0)=true;exact decide_eq_true (Int.natCast_nonneg i)
def vQ (l:List Pt) (f:Pt):Prop:=l.length<=1000000
def vy (l:List Pt) (f:Pt):AV:=.s (.q (l.any (late f)))
def yf (l:List Pt) (f:Pt):List AV:=[.a [.int f.1,.int f.2.1,.int f.2.2.1,.int f.2.2.2.1,.int f.2.2.2.2]]
def CY:cu where
 A:=[.s (.vz ae),.fn 113 [0]]
 B:=[.a [.int,.int,.int,.int,.int]]
 pre:=λx b=>vQ (x.1) b
 r:=λx b _=>vy (x.1) b
 o:=λx b _=>yf (x.1) b
 ro:=true
def acS:Has Tryz.prog 112 CY:=by
 refine Has.sF zT zF zF (l:=[(153,wK)]) ⟨V8,aa⟩ Tryz.func112 ?_
 rintro⟨(l:List Pt),_⟩ ⟨(f1:Int),(f2:Int),(f3:Int),(f4:Int),(f5:Int)⟩ (hp:vQ l (f1,f2,f3,f4,f5))
 show vc _ _ _ _ (entry [.s (.vz ae l),.fn 113 [(0,0)]] [.a [.int f1,.int f2,.int f3,.int f4,.int f5]]) _
 let A':=(f1,f2,f3,f4,f5)
 have hp:l.length<=1000000:=hp
 refine⟨⟨⟨tv3,?_⟩,λx1 w2=>?_⟩,λx3 w4=>?_⟩
 all_goals first|refine aw ?_|refine ax ?_|exact bb|(dsimp only [wK,rH];omega)|exact ba|exact hp|skip
 refine⟨[],[],_,_,_,ζ,aC,(),aa,?_,?_,ζ⟩
 ·(show _=vy l A');unfold vy;first|(rw [<-HR A' l 0];rfl)|rfl
 ·(show _=yf l A');unfold yf;first|(rw [<-HR A' l 0];rfl)|rfl
end GL
namespace GL
def r8 (s:ay) (p:Pt):List Pt:=bif au p then cL 4 else (bw (bB s p).1).1
def oG (s:ay) (p:Pt) (lv:Int):Bool:=bif au p then true else bif !(bB s p).2 then false else bif decide (p.2.2.2.2≠lv) then false else (bw (bB s p).1).2&& !((bw (bB s p).1).1.any (late p))
section
variable {s:ay}{p:Pt}{lv:Int}
def adi (h:au p=true):oG s p lv=true:=by unfold oG;rw [h];rfl
def adh (h:au p=false) (h1:(!(bB s p).2)=true):oG s p lv=false:=by unfold oG;rw [h,h1];rfl
def ajW (h:au p=false) (h1:(!(bB s p).2)=false) (h2:decide (p.2.2.2.2≠lv)=true):oG s p lv=false:=by unfold oG;rw [h,h1,h2];rfl
def ajV (h:au p=false) (h1:(!(bB s p).2)=false) (h2:decide (p.2.2.2.2≠lv)=false) (h3:false=(bw (bB s p).1).2):oG s p lv=false:=by unfold oG;rw [h,h1,h2,<-h3];rfl
def ajU (h:au p=false) (h1:(!(bB s p).2)=false) (h2:decide (p.2.2.2.2≠lv)=false) (h3:true=(bw (bB s p).1).2):oG s p lv= !((bw (bB s p).1).1.any (late p)):=by unfold oG;rw [h,h1,h2,<-h3];rfl
def PB (h:au p=true):r8 s p=cL 4:=by unfold r8;rw [h];rfl
def ajS (h:au p=false):r8 s p=(bw (bB s p).1).1:=by unfold r8;rw [h];rfl
theorem TE (cn:bc p=true) (hb:au p=false->p.2.1<=s.cz):oG s p lv=(bl s p lv).2/\(oG s p lv=true->r8 s p=(bl s p lv).1):=by
 cases hh:au p with
 |true=>rw [adi hh,lG hh];exact⟨rfl,λ_=>PB hh⟩
 |false=>
  have hb:=hb hh
  cases hl:decide (p.2.2.2.2≠lv) with
  |true=>
   rw [y0 hh hl]
   cases hr: !(bB s p).2 with
   |true=>rw [adh hh hr];exact⟨rfl,λh=>by cases h⟩
   |false=>rw [ajW hh hr hl];exact⟨rfl,λh=>by cases h⟩
  |false=>
   have h1:(!(bc p))=false:=by rw [cn];rfl
   have h3:decide (p.2.1>s.cz)=false:=decide_eq_false (by omega)
   cases hr: !(bB s p).2 with
   |true=>rw [adh hh hr,yZ hh h1 hl h3 hr];exact⟨rfl,λh=>by cases h⟩
   |false=>
    rw [yY hh h1 hl h3 hr]
    cases hf:(bw (bB s p).1).2 with
    |false=>
     rw [ajV hh hr hl hf.symm,adg hf];exact⟨rfl,λh=>by cases h⟩
    |true=>
     rw [ajU hh hr hl hf.symm,ajS hh]
     cases ha:(bw (bB s p).1).1.any (late p) with
     |true=>rw [y5 ha];exact⟨rfl,λh=>by cases h⟩
     |false=>rw [uY ha];exact⟨by rw [hf];rfl,λ_=>rfl⟩
end
def j9 (S:ay) (p:Pt) (lv:Int):Prop:=S.rd/\bc p=true
def abY (S:ay) (p:Pt) (lv:Int) (z:Bool):Prop:=oG S p lv=true->z=true
def gi (S:ay) (p:Pt) (lv:Int) (z:Bool):AV:=.t [match z with |true=>.s (.xs 0 5 0 (r8 S p).length) |false=>.s (.v (.slice none 0 0)),.s (.q (oG S p lv))]
def iW (S:ay) (p:Pt) (lv:Int) (z:Bool):List AV:=match z with |true=>[.rs ae (r8 S p)] |false=>[.zz]
def lF:cu where
 A:=[.vs vj,.a [.int,.int,.int,.int,.int],.s .int]
 B:=[]
 pre:=λx b=>j9 (x.1) (x.2.1) (x.2.2)
 α:=λ_ _=>Bool
 φ:=λx b z=>abY (x.1) (x.2.1) (x.2.2) z
 r:=λx b z=>gi (x.1) (x.2.1) (x.2.2) z
 o:=λx b z=>iW (x.1) (x.2.1) (x.2.2) z
 nf:=1
def yr:Has Tryz.prog 70 lF:=by
 refine Has.acA zT zF zF (l:=[(56,bQ),(57,lR),(111,IP),(112,CY)]) ⟨eo,zM,agD,acS,aa⟩ Tryz.func70 ?_
 rintro⟨⟨(aj:List ByteArray),(ak:List Int),(an:List Int),(ao:Int),(ah:List Pt),(aq:Int),(ai:List Pt),(ar:Bool)⟩,⟨(p1:Int),(p2:Int),(p3:Int),(p4:Int),(p5:Int)⟩,(lv:Int)⟩ _ (hp:j9 (aj,ak,an,ao,ah,aq,ai,ar) (p1,p2,p3,p4,p5) lv)
 show vc _ _ _ _ (entry [.s (.vs [.vz ab aj,.vz ag ak,.vz ag an,.v (.int .i64 ao),.vz ae ah,.v (.int .i64 aq),.vz ae ai,.q ar] 0),.a [.int p1,.int p2,.int p3,.int p4,.int p5],.int lv] []) _
 obtain⟨dM,cn⟩:=hp
 have dM:ay.rd (aj,ak,an,ao,ah,aq,ai,ar):=dM
 have cn:bc (p1,p2,p3,p4,p5)=true:=cn
 have db:∀q,(bB (aj,ak,an,ao,ah,aq,ai,ar) q).1.size<=1000000:=λq=>DS dM
 have hF:=(yG (bB (aj,ak,an,ao,ah,aq,ai,ar) (p1,p2,p3,p4,p5)).1).1
 refine⟨⟨⟨tv6,aa⟩,aa⟩,λx1 w2=>⟨λw3=>⟨⟨?_,?_,?_⟩,?_⟩,λw4=>⟨⟨⟨aa,tv6,aa⟩,λx5 w6=>?_,?_,?_⟩,λx7 w8=>⟨aa,λw9=>?_,λdB=>⟨λiP=>?_,λdW=>⟨⟨tv2,?_⟩,λ|false=>λiL=>⟨aa,λgY=>⟨⟨⟨tv3,?_⟩,λnN kC=>?_⟩,λx17 qU=>?_⟩,λo9=>?_⟩ |true=>λtl=>⟨aa,λFW=>⟨⟨⟨⟨⟨?_,?_⟩,tv2⟩,?_⟩,λx22 zi=>?_⟩,λFP FV=>?_⟩,λw26=>?_⟩⟩⟩⟩⟩⟩⟩
 all_goals first|refine aw ?_|refine ax ?_|exact bb|(dsimp only [bQ,cl,lR,kI,IP,sU,CY,vQ];omega)|exact ba|exact dM.1|exact cn|exact dM.2 _ w6|exact dM.2 _ (by assumption)|exact ZA7 _|exact db _|(show (bw (bB (aj,ak,an,ao,ah,aq,ai,ar) (p1,p2,p3,p4,p5)).1).1.length<=1000000;omega)|skip
 ·refine⟨[1014],[],_,_,_,ζ,aC,true,0,(λ_=>rfl),?_,?_,ζ⟩
  ·(show _=gi (aj,ak,an,ao,ah,aq,ai,ar) (p1,p2,p3,p4,p5) lv true);unfold gi;first|(rw [adi (s:=(aj,ak,an,ao,ah,aq,ai,ar)) (lv:=lv) w3,PB (s:=(aj,ak,an,ao,ah,aq,ai,ar)) w3];rfl)|(rw [PB (s:=(aj,ak,an,ao,ah,aq,ai,ar)) w3];rfl)|rfl
  ·(show _=iW (aj,ak,an,ao,ah,aq,ai,ar) (p1,p2,p3,p4,p5) lv true);unfold iW;first|(rw [adi (s:=(aj,ak,an,ao,ah,aq,ai,ar)) (lv:=lv) w3,PB (s:=(aj,ak,an,ao,ah,aq,ai,ar)) w3];rfl)|(rw [PB (s:=(aj,ak,an,ao,ah,aq,ai,ar)) w3];rfl)|rfl
 ·have e:=adh (s:=(aj,ak,an,ao,ah,aq,ai,ar)) (lv:=lv) w4 w9
  refine⟨[],[],_,_,_,ζ,aC,false,1,(λh:oG (aj,ak,an,ao,ah,aq,ai,ar) (p1,p2,p3,p4,p5) lv=true=>absurd (e.symm.trans h) (by decide)),?_,?_,ζ⟩
  ·(show _=gi (aj,ak,an,ao,ah,aq,ai,ar) (p1,p2,p3,p4,p5) lv false);unfold gi;first|(rw [e];rfl)|rfl
  ·(show _=iW (aj,ak,an,ao,ah,aq,ai,ar) (p1,p2,p3,p4,p5) lv false);unfold iW;first|(rw [e];rfl)|rfl
 ·have e:=ajW (s:=(aj,ak,an,ao,ah,aq,ai,ar)) (lv:=lv) w4 dB iP
  refine⟨[],[],_,_,_,ζ,aC,false,1,(λh:oG (aj,ak,an,ao,ah,aq,ai,ar) (p1,p2,p3,p4,p5) lv=true=>absurd (e.symm.trans h) (by decide)),?_,?_,ζ⟩
  ·(show _=gi (aj,ak,an,ao,ah,aq,ai,ar) (p1,p2,p3,p4,p5) lv false);unfold gi;first|(rw [e];rfl)|rfl
  ·(show _=iW (aj,ak,an,ao,ah,aq,ai,ar) (p1,p2,p3,p4,p5) lv false);unfold iW;first|(rw [e];rfl)|rfl
 ·cases gY
 ·have e:=ajV (s:=(aj,ak,an,ao,ah,aq,ai,ar)) (lv:=lv) w4 dB dW (show false=(bw (bB (aj,ak,an,ao,ah,aq,ai,ar) (p1,p2,p3,p4,p5)).1).2 from iL)
  refine⟨[],[],_,_,_,ζ,aC,false,1,(λh:oG (aj,ak,an,ao,ah,aq,ai,ar) (p1,p2,p3,p4,p5) lv=true=>absurd (e.symm.trans h) (by decide)),?_,?_,ζ⟩
  ·(show _=gi (aj,ak,an,ao,ah,aq,ai,ar) (p1,p2,p3,p4,p5) lv false);unfold gi;first|(rw [e];rfl)|rfl
  ·(show _=iW (aj,ak,an,ao,ah,aq,ai,ar) (p1,p2,p3,p4,p5) lv false);unfold iW;first|(rw [e];rfl)|rfl
 ·have e:=ajU (s:=(aj,ak,an,ao,ah,aq,ai,ar)) (lv:=lv) w4 dB dW (show true=(bw (bB (aj,ak,an,ao,ah,aq,ai,ar) (p1,p2,p3,p4,p5)).1).2 from tl)
  have e2:=ajS (s:=(aj,ak,an,ao,ah,aq,ai,ar)) w4
  refine⟨[320000],[],_,_,_,ζ,aC,true,0,(λ_=>rfl),?_,?_,ζ⟩
  ·(show _=gi (aj,ak,an,ao,ah,aq,ai,ar) (p1,p2,p3,p4,p5) lv true);unfold gi;first|(rw [e,e2];rfl)|(rw [e2];rfl)|rfl
  ·(show _=iW (aj,ak,an,ao,ah,aq,ai,ar) (p1,p2,p3,p4,p5) lv true);unfold iW;first|(rw [e,e2];rfl)|(rw [e2];rfl)|rfl
 ·cases w26
