/- Part 5 of the proof of a drawn law. -/
import Derived.Test.YtndmmmcglebllaaGreatDoorRad
set_option maxHeartbeats 20000000
set_option maxRecDepth 100000
set_option linter.all false
namespace Go.Proofs.YtndmmmcglebllaaGreatDoor
namespace GL
def bo (n:Int):Int:=bif decide (n<=1) then 0 else bif decide (n<=4) then 1 else 2
def lg (k:Int):Int:=bif decide (k=1) then 12 else bif decide (k=2) then 128 else 0
def bn (size each:Int):Int:=(size+each-1) / each
def bq (k s:Int):Int:=bif decide (lg k=0)|| !(gC s 0 (16*lg k)) then -1 else bn s (lg k)
def yK (k:Int):lg k=12\/lg k=128\/lg k=0:=by
 unfold lg
 cases decide (k=1)<;>cases decide (k=2)<;>simp
def fS (n:Int):Prop:=True
def xE (n:Int):AV:=.int (bo n)
def ab5 (n:Int):List AV:=[]
def ee:cu where
 A:=[.s .int]
 B:=[]
 pre:=λx b=>fS x
 r:=λx b _=>xE x
 o:=λx b _=>ab5 x
def kO:Has Tryz.prog 93 ee:=by
 refine Has.fP zT zF zF (l:=[]) trivial Tryz.func93 ?_
 rintro (n:Int) _ (hp:fS n)
 show vc _ _ _ _ (entry [.int n] []) _
 refine⟨λw1=>?_,λw2=>⟨λw3=>?_,λw4=>?_⟩⟩
 all_goals first|refine aw ?_|refine ax ?_|exact bb|exact ba|skip
 all_goals
  refine⟨[],[],_,_,_,ζ,aC,(),aa,?_,?_,ζ⟩
  ·(show _=xE n);unfold xE;first|((simp only [bo, *];rfl))|rfl
  ·rfl
def xX (k:Int):Prop:=True
def xK (k:Int):AV:=.int (lg k)
def acf (k:Int):List AV:=[]
def IL:cu where
 A:=[.s .int]
 B:=[]
 pre:=λx b=>xX x
 r:=λx b _=>xK x
 o:=λx b _=>acf x
def agA:Has Tryz.prog 149 IL:=by
 refine Has.fP zT zF zF (l:=[]) trivial Tryz.func149 ?_
 rintro (k:Int) _ (hp:xX k)
 show vc _ _ _ _ (entry [.int k] []) _
 refine⟨λw1=>?_,λw2=>⟨λw3=>?_,λw4=>?_⟩⟩
 all_goals first|refine aw ?_|refine ax ?_|exact bb|exact ba|skip
 all_goals
  refine⟨[],[],_,_,_,ζ,aC,(),aa,?_,?_,ζ⟩
  ·(show _=xK k);unfold xK;first|((simp only [lg, *];rfl))|rfl
  ·rfl
def lz (a:Int) (b:Int):Prop:=0<=a/\a<=1000000/\0<b/\b<=1000000
def tA (a:Int) (b:Int):AV:=.int (bn a b)
def U6 (a:Int) (b:Int):List AV:=[]
def mE:cu where
 A:=[.s .int,.s .int]
 B:=[]
 pre:=λx b=>lz (x.1) (x.2)
 r:=λx b _=>tA (x.1) (x.2)
 o:=λx b _=>U6 (x.1) (x.2)
def I9:Has Tryz.prog 150 mE:=by
 refine Has.fP zT zF zF (l:=[]) trivial Tryz.func150 ?_
 rintro⟨(a:Int),(b:Int)⟩ _ (hp:lz a b)
 show vc _ _ _ _ (entry [.int a,.int b] []) _
 obtain⟨h1,h2,h3,h4⟩:=hp
 refine⟨⟨?_,?_⟩,⟨⟨?_,?_⟩,⟨⟨?_,⟨?_,?_⟩⟩,?_⟩⟩⟩
 all_goals first|refine aw ?_|refine ax ?_|exact bb|exact ba|skip
 refine⟨[],[],_,_,_,ζ,aC,(),aa,?_,?_,ζ⟩
 ·(show _=tA a b);unfold tA;first|rfl
 ·rfl
def rJ (k:Int) (s:Int):Prop:=True
def rn (k:Int) (s:Int):AV:=.int (bq k s)
def QV (k:Int) (s:Int):List AV:=[]
def wL:cu where
 A:=[.s .int,.s .int]
 B:=[]
 pre:=λx b=>rJ (x.1) (x.2)
 r:=λx b _=>rn (x.1) (x.2)
 o:=λx b _=>QV (x.1) (x.2)
def WA:Has Tryz.prog 110 wL:=by
 refine Has.fP zT zF zF (l:=[(149,IL),(60,jc),(150,mE)]) ⟨agA,jr,I9,aa⟩ Tryz.func110 ?_
 rintro⟨(k:Int),(s:Int)⟩ _ (hp:rJ k s)
 show vc _ _ _ _ (entry [.int k,.int s] []) _
 have hE:=yK k
 have hI:(!(gC s 0 (16*lg k)))=false->0<=s/\s<=2048:=λh=>by
  have:=cy.1 (cr h)
  omega
 refine⟨⟨tv2,aa⟩,λx1 w2=>⟨aa,λw3=>?_,λw4=>⟨⟨?_,?_⟩,⟨tv4,aa⟩,λx5 w6=>⟨λw7=>?_,λw8=>⟨⟨tv3,?_,?_,?_,?_⟩,λx9 dB=>?_⟩⟩⟩⟩⟩
 all_goals first|refine aw ?_|refine ax ?_|exact bb|(dsimp only [IL,xX,mE,lz];omega)|exact ba|(have:=hI (by assumption);have:=aD (p:=lg k=0) (by assumption);dsimp only [mE,lz];omega)|skip
 all_goals
  refine⟨[],[],_,_,_,ζ,aC,(),aa,?_,?_,ζ⟩
  ·(show _=rn k s);unfold rn;first|((simp only [bq, *];rfl))|rfl
  ·rfl
def tG (k s:Int): -1<=bq k s/\bq k s<=16:=by
 unfold bq
 cases h:decide (lg k=0)|| !(gC s 0 (16*lg k)) with
 |true=>simp
 |false=>
  simp only [ZD5,decide_eq_false_iff_not] at h
  have h2:=cy.1 (cr h.2)
  simp only [cond_false,bn]
  rcases yK k with e |e |e
  ·rw [e] at h2 ⊢;omega
  ·rw [e] at h2 ⊢;omega
  ·exact absurd e h.1
abbrev dN.root (n:dN):Pt:=(n.2.2.2.1,n.2.2.2.2.1,n.2.2.2.2.2.1,n.2.2.2.2.2.2.1,n.2.2.2.2.2.2.2.1)
abbrev dN.tree (n:dN):bf:=n.2.2.2
def cx (n:dN):Bool:=
 bif decide (bq n.1 n.2.2.1<0)||(decide (n.2.2.2.2.2.2.2.2.2≠bq n.1 n.2.2.1)||(decide (n.2.2.2.2.2.2.2.2.1≠bo (bq n.1 n.2.2.1))|| !(bc n.root))) then false
 else gC n.2.1 1 (bif decide (n.1=2) then 1 else 9)&&(au n.root||decide (n.2.2.2.2.2.2.2.1=n.2.2.2.2.2.2.2.2.1))
def rK (n:dN):Prop:=True
def BF (n:dN):AV:=.q (cx n)
def agd (n:dN):List AV:=[]
def ss:cu where
 A:=[.a [.int,.int,.int,.int,.int,.int,.int,.int,.int,.int]]
 B:=[]
 pre:=λx b=>rK x
 r:=λx b _=>BF x
 o:=λx b _=>agd x
def OP:Has Tryz.prog 68 ss:=by
 refine Has.fP zT zF zF (l:=[(110,wL),(93,ee),(61,dD),(62,cN),(60,jc)]) ⟨WA,kO,js,cQ,jr,aa⟩ Tryz.func68 ?_
 rintro⟨(n1:Int),(n2:Int),(n3:Int),(n4:Int),(n5:Int),(n6:Int),(n7:Int),(n8:Int),(n9:Int),(cg:Int)⟩ _ (hp:rK (n1,n2,n3,n4,n5,n6,n7,n8,n9,cg))
 show vc _ _ _ _ (entry [.a [.int n1,.int n2,.int n3,.int n4,.int n5,.int n6,.int n7,.int n8,.int n9,.int cg]] []) _
 have hbd:=tG n1 n3
 refine⟨⟨tv3,aa⟩,λx1 w2=>⟨Sq3,Sq10,ζ,Sq10,Sq11,ζ,Sq11,Sq12,ζ,aa,λw3=>⟨Sq12,Sq13,ζ,Sq12,Sq14,ζ,Sq12,Sq15,ζ,Sq12,Sq16,ζ,Sq12,Sq17,ζ,[.s 12,.s 17],Sq18,ζ,Sq18,Sq19,ζ,Sq19,Sq20,ζ,Sq19,Sq21,ζ,Sq19,Sq22,ζ,Sq19,Sq23,ζ,Sq19,Sq24,ζ,Sq19,Sq25,ζ,[.s 19,.s 25],Sq26,ζ,Sq26,Sq27,ζ,Sq27,Sq28,ζ,Sq27,Sq29,ζ,Sq27,Sq30,ζ,Sq27,Sq31,ζ,Sq27,Sq32,ζ,[.s 27,.s 32],Sq33,ζ,?_⟩,λw4=>⟨[.s 12,.s 1],Sq13,ζ,[.s 12,.s 13],Sq14,ζ,[.s 12,.s 14,.b 1001],Sq15,ζ,[.s 12,.s 3],Sq16,ζ,[.s 12,.s 15,.s 16],Sq17,ζ,[.s 12,.s 17],Sq18,ζ,Sq18,Sq19,ζ,aa,λw5=>⟨Sq19,Sq20,ζ,Sq19,Sq21,ζ,Sq19,Sq22,ζ,Sq19,Sq23,ζ,Sq19,Sq24,ζ,Sq19,Sq25,ζ,[.s 19,.s 25],Sq26,ζ,Sq26,Sq27,ζ,Sq27,Sq28,ζ,Sq27,Sq29,ζ,Sq27,Sq30,ζ,Sq27,Sq31,ζ,Sq27,Sq32,ζ,[.s 27,.s 32],Sq33,ζ,?_⟩,λw6=>⟨[.s 19,.s 1],Sq20,ζ,[.s 19,.s 20],Sq21,ζ,[.s 19,.s 21,.b 1001],Sq22,ζ,[.s 19,.s 3],Sq23,ζ,[.s 19,.s 23],Sq24,ζ,⟨tv2,aa⟩,?_,λx7 w8=>⟨[.s 19,.s 22,.s 24],Sq25,ζ,[.s 19,.s 25],Sq26,ζ,Sq26,Sq27,ζ,aa,λw9=>⟨Sq27,Sq28,ζ,Sq27,Sq29,ζ,Sq27,Sq30,ζ,Sq27,Sq31,ζ,Sq27,Sq32,ζ,[.s 27,.s 32],Sq33,ζ,?_⟩,λdB=>⟨[.s 27,.s 1],Sq28,ζ,[.s 27,.s 28],Sq29,ζ,[.s 27,.s 29,.b 1001],Sq30,ζ,[.s 27,.s 30],Sq31,ζ,⟨⟨tv6,aa⟩,aa⟩,?_,λlJ dW=>⟨[.s 27,.s 31],Sq32,ζ,[.s 27,.s 32],Sq33,ζ,λiL=>?_,λgY=>⟨λnG=>⟨⟨tv4,aa⟩,λx16 xh=>⟨aa,λqU=>⟨⟨⟨tv6,aa⟩,aa⟩,λx19 tl=>⟨aa,λFW=>?_,λDB=>?_⟩⟩,λzi=>?_⟩⟩,λtZ=>⟨⟨tv4,aa⟩,λx25 w26=>⟨aa,λw27=>⟨⟨⟨tv6,aa⟩,aa⟩,λx28 w29=>⟨aa,λw30=>?_,λw31=>?_⟩⟩,λw32=>?_⟩⟩⟩⟩⟩⟩⟩⟩⟩⟩
 all_goals first|refine aw ?_|refine ax ?_|exact bb|(dsimp only [wL,rJ,ee,fS,dD,eO];omega)|exact ba|skip
 all_goals
  refine⟨[],[],_,_,_,ζ,aC,(),aa,?_,?_,ζ⟩
  ·(show _=BF (n1,n2,n3,n4,n5,n6,n7,n8,n9,cg));unfold BF;first|((simp only [cx, *];rfl))|((simp [cx, *]<;>rfl))|rfl
  ·rfl
def oI (n:Int):0<=bo n/\bo n<=2:=by
 unfold bo
 cases decide (n<=1)<;>cases decide (n<=4)<;>simp
def il {n:dN}(h:cx n=true):(1<=n.1/\n.1<=2)/\(1<=n.2.1/\n.2.1<=9)/\(0<=n.2.2.1/\n.2.2.1<=2048)/\(0<=n.2.2.2.2.2.2.2.2.1/\n.2.2.2.2.2.2.2.2.1<=2)/\(0<=n.2.2.2.2.2.2.2.2.2/\n.2.2.2.2.2.2.2.2.2<=16)/\bc n.root=true/\
  n.2.2.2.2.2.2.2.2.2=bq n.1 n.2.2.1/\n.2.2.2.2.2.2.2.2.1=bo n.2.2.2.2.2.2.2.2.2/\(au n.root=true\/n.2.2.2.2.2.2.2.1=n.2.2.2.2.2.2.2.2.1):=by
 unfold cx at h
 cases hb:decide (bq n.1 n.2.2.1<0)||(decide (n.2.2.2.2.2.2.2.2.2≠bq n.1 n.2.2.1)||(decide (n.2.2.2.2.2.2.2.2.1≠bo (bq n.1 n.2.2.1))|| !(bc n.root))) with
 |true=>rw [hb] at h;cases h
 |false=>
  rw [hb,cond_false] at h
  simp only [ZD5,decide_eq_false_iff_not,ZE6,Bool.not_eq_false] at hb
  obtain⟨h1,h2,h3,h4⟩:=hb
  have h4:=cr h4
  simp only [ZB1,Bool.or_eq_true,decide_eq_true_eq] at h
  have h5:=cy.1 h.1
  have h6:=tG n.1 n.2.2.1
  have h7:=oI (bq n.1 n.2.2.1)
  have hk:(1<=n.1/\n.1<=2)/\(0<=n.2.2.1/\n.2.2.1<=2048):=by
   unfold bq at h1
   cases hc:decide (lg n.1=0)|| !(gC n.2.2.1 0 (16*lg n.1)) with
   |true=>rw [hc] at h1;exact absurd (show (-1:Int)<0 by decide) h1
   |false=>
    simp only [ZD5,decide_eq_false_iff_not] at hc
    have h8:=cy.1 (cr hc.2)
    have h9:=yK n.1
    refine⟨?_,by omega⟩
    by_cases e1:n.1=1
    ·omega
    ·by_cases e2:n.1=2
     ·omega
     ·exact absurd (by unfold lg;rw [decide_eq_false e1,decide_eq_false e2];rfl) hc.1
  have h10:(bif decide (n.1=2) then (1:Int) else 9)<=9:=by cases decide (n.1=2)<;>simp
  refine⟨hk.1,⟨h5.1,by omega⟩,hk.2,by omega,by omega,h4,by omega,?_,h.2⟩
  rw [show n.2.2.2.2.2.2.2.2.2=bq n.1 n.2.2.1 by omega];omega
def aB (n:dN):ByteArray:=bif cx n then (bK [bL n.1,bL n.2.1,bL n.2.2.1,bj n.root,bL n.2.2.2.2.2.2.2.2.1,bL n.2.2.2.2.2.2.2.2.2,⟨#[101,110,100]⟩]).1 else ⟨#[]⟩
def pE (n:dN):Prop:=True
def pw (n:dN):AV:=.str (aB n)
def acv (n:dN):List AV:=[]
def oM:cu where
 A:=[.a [.int,.int,.int,.int,.int,.int,.int,.int,.int,.int]]
 B:=[]
 pre:=λx b=>pE x
 r:=λx b _=>pw x
 o:=λx b _=>acv x
def HV:Has Tryz.prog 54 oM:=by
 refine Has.fP zT zF zF (l:=[(68,ss),(98,kX),(99,so),(97,kx)]) ⟨OP,zK,OM,yu,aa⟩ Tryz.func54 ?_
 rintro⟨(n1:Int),(n2:Int),(n3:Int),(n4:Int),(n5:Int),(n6:Int),(n7:Int),(n8:Int),(n9:Int),(cg:Int)⟩ _ (hp:pE (n1,n2,n3,n4,n5,n6,n7,n8,n9,cg))
 show vc _ _ _ _ (entry [.a [.int n1,.int n2,.int n3,.int n4,.int n5,.int n6,.int n7,.int n8,.int n9,.int cg]] []) _
 by_cases cn:cx (n1,n2,n3,n4,n5,n6,n7,n8,n9,cg)=true
 ·obtain⟨b1,b2,b3,b4,b5,b6,_,_,_⟩:=il cn
  dsimp only at b1 b2 b3 b4 b5 b6
  refine⟨⟨⟨tv11,aa⟩,aa⟩,λx1 w2=>⟨λw3=>?_,λw4=>⟨Sq1,Sq9,ζ,[.s 9,.b 1001],Sq10,ζ,Sq10,Sq11,ζ,⟨tv2,?_,?_⟩,?_,λx5 w6=>⟨Sq1,Sq12,ζ,[.s 12,.b 1001],Sq13,ζ,Sq13,Sq14,ζ,⟨tv2,?_,?_⟩,?_,λx7 w8=>⟨Sq1,Sq15,ζ,[.s 15,.b 1001],Sq16,ζ,Sq16,Sq17,ζ,⟨tv2,?_,?_⟩,?_,λx9 dB=>⟨Sq1,Sq18,ζ,Sq18,Sq19,ζ,[.s 19,.b 1001],Sq20,ζ,Sq20,Sq21,ζ,⟨⟨tv6,aa⟩,aa⟩,?_,λlJ dW=>⟨Sq1,Sq22,ζ,Sq22,Sq23,ζ,[.s 23,.b 1001],Sq24,ζ,Sq24,Sq25,ζ,⟨tv2,?_,?_⟩,?_,λtY gY=>⟨Sq1,Sq26,ζ,Sq26,Sq27,ζ,[.s 27,.b 1001],Sq28,ζ,Sq28,Sq29,ζ,⟨tv2,?_,?_⟩,?_,λnN kC=>⟨[.s 11,.s 14,.s 17,.s 21,.s 25,.s 29,.b 1030],[.s 30,.b 1030],ζ,aa,[.s 30,.b 1030],Sq31,ζ,⟨⟨⟨?_,?_⟩,aa⟩,aa⟩,?_,λx17 qU=>⟨Sq31,Sq8,ζ,Sq8,Sq32,ζ,Sq8,Sq33,ζ,Sq32,Sq3,ζ,Sq33,Sq4,ζ,?_⟩⟩⟩⟩⟩⟩⟩⟩⟩⟩
  all_goals first|refine aw ?_|refine ax ?_|exact bb|(dsimp only [ss,rK,kX,oi,so,rI,kx,lB];omega)|exact ba|skip
  ·rw [cn] at *;contradiction
  ·have e:aB (n1,n2,n3,n4,n5,n6,n7,n8,n9,cg)=(bK [bL n1,bL n2,bL n3,bj (n4,n5,n6,n7,n8),bL n9,bL cg,⟨#[101,110,100]⟩]).1:=by unfold aB;rw [cn];rfl
   refine⟨[],[],_,_,_,ζ,aC,(),aa,?_,?_,ζ⟩
   ·(show _=pw (n1,n2,n3,n4,n5,n6,n7,n8,n9,cg));unfold pw;first|(rw [e];rfl)|rfl
   ·rfl
 ·have tV:cx (n1,n2,n3,n4,n5,n6,n7,n8,n9,cg)=false:=by simpa using cn
  refine⟨⟨⟨tv11,aa⟩,aa⟩,λx1 w2=>⟨λw3=>?_,λw4=>⟨Sq1,Sq9,ζ,[.s 9,.b 1001],Sq10,ζ,Sq10,Sq11,ζ,⟨tv2,?_,?_⟩,?_,λx5 w6=>⟨Sq1,Sq12,ζ,[.s 12,.b 1001],Sq13,ζ,Sq13,Sq14,ζ,⟨tv2,?_,?_⟩,?_,λx7 w8=>⟨Sq1,Sq15,ζ,[.s 15,.b 1001],Sq16,ζ,Sq16,Sq17,ζ,⟨tv2,?_,?_⟩,?_,λx9 dB=>⟨Sq1,Sq18,ζ,Sq18,Sq19,ζ,[.s 19,.b 1001],Sq20,ζ,Sq20,Sq21,ζ,⟨⟨tv6,aa⟩,aa⟩,?_,λlJ dW=>⟨Sq1,Sq22,ζ,Sq22,Sq23,ζ,[.s 23,.b 1001],Sq24,ζ,Sq24,Sq25,ζ,⟨tv2,?_,?_⟩,?_,λtY gY=>⟨Sq1,Sq26,ζ,Sq26,Sq27,ζ,[.s 27,.b 1001],Sq28,ζ,Sq28,Sq29,ζ,⟨tv2,?_,?_⟩,?_,λnN kC=>⟨[.s 11,.s 14,.s 17,.s 21,.s 25,.s 29,.b 1030],[.s 30,.b 1030],ζ,aa,[.s 30,.b 1030],Sq31,ζ,⟨⟨⟨?_,?_⟩,aa⟩,aa⟩,?_,λx17 qU=>⟨Sq31,Sq8,ζ,Sq8,Sq32,ζ,Sq8,Sq33,ζ,Sq32,Sq3,ζ,Sq33,Sq4,ζ,?_⟩⟩⟩⟩⟩⟩⟩⟩⟩⟩
  all_goals first|exact absurd (cr (by assumption)) cn|skip
  ·have e:aB (n1,n2,n3,n4,n5,n6,n7,n8,n9,cg)=⟨#[]⟩:=by unfold aB;rw [tV];rfl
   refine⟨[],[],_,_,_,ζ,aC,(),aa,?_,?_,ζ⟩
   ·(show _=pw (n1,n2,n3,n4,n5,n6,n7,n8,n9,cg));unfold pw;first|(rw [e];rfl)|rfl
   ·rfl
end GL
namespace GL
def SC {s:ByteArray}:∀(f k:Nat),(∀j,j<k->IE s j=true)->(∀j,j<uI f s k->IE s j=true)/\uI f s k<=k+f
 |0,k,h=>⟨h,ZB0 _⟩
 |f+1,k,h=>by
  unfold uI
  cases hd:IE s k with
  |true=>
   have:=SC (s:=s) f (k+1) (λj hj=>by
    by_cases e:j=k
    ·rw [e];exact hd
    ·exact h j (by omega))
   exact⟨this.1,ZA9 this.2 (by omega)⟩
  |false=>exact⟨h,ZD9 _ _⟩
def aj9 {s:ByteArray}{k:Nat}(h:IE s k=true):k<s.size/\48<=bX s k/\bX s k<=57:=by
 unfold IE at h
 simp only [ZB1,decide_eq_true_eq] at h
 omega
def ZZ {s:ByteArray}:∀(k:Nat),(∀j,j<k->IE s j=true)->0<=jH s k/\jH s k<(10:Int) ^ k
 |0,_=>⟨ZC1 _,by show (0:Int)<1;omega⟩
 |k+1,h=>by
  have h1:=ZZ k (λj hj=>h j (by omega))
  have h2:=aj9 (h k (by omega))
  rw [Int.pow_succ]
  show 0<=10*jH s k+(bX s k-48)/\10*jH s k+(bX s k-48)<_
  omega
def agl (s:ByteArray):dC s<=9/\dC s<=s.size/\(0<=jH s (dC s)/\jH s (dC s)<=999999999):=by
 have h:=SC (s:=s) 9 0 (λj hj=>absurd hj (by omega))
 have hn:uI 9 s 0=dC s:=rfl
 rw [hn] at h
 have h1:dC s<=9:=by omega
 have h2:=ZZ _ h.1
 have h3:(10:Int) ^ dC s<=10 ^ 9:=by exact_mod_cast Nat.pow_le_pow_right (by omega) h1
 refine⟨h1,?_,h2.1,by omega⟩
 by_cases e:dC s=0
 ·omega
 ·have:=aj9 (h.1 (dC s-1) (by omega));omega
def ant (s:ByteArray):(0<=(D9 s).1/\(D9 s).1<=999999999)/\(0<=(D9 s).2/\(D9 s).2<=9)/\(D9 s).2<=s.size:=by
 have h:=agl s
 unfold D9
 cases hc:decide ((dC s:Int)>1)&&decide (bX s 0=48) with
 |true=>
  simp only [ZB1,decide_eq_true_eq] at hc
  show (0<=(0:Int)/\(0:Int)<=999999999)/\(0<=(1:Int)/\(1:Int)<=9)/\(1:Int)<=s.size
  omega
 |false=>
  show (0<=jH s (dC s)/\jH s (dC s)<=999999999)/\(0<=(dC s:Int)/\(dC s:Int)<=9)/\(dC s:Int)<=s.size
  omega
def r7 (s:ByteArray) (i:Int) (r:Int×Int):Bool:=
 decide (r.2=0)||(decide (i+r.2>=s.size)||(decide (bX s (i+r.2).toNat≠58)||decide (r.1>s.size-i-r.2-1)))
abbrev wq (s:ByteArray) (i:Int):Int×Int:=D9 (s.extract i.toNat s.size)
def J8:Nat->ByteArray->Int->List ByteArray->Option (List ByteArray)
 |0,_,_,_=>none
 |f+1,s,i,out=>bif decide (i<s.size) then
   (bif r7 s i (wq s i) then none else
    J8 f s (i+(wq s i).2+1+(wq s i).1) (out++[s.extract (i+(wq s i).2+1).toNat (i+(wq s i).2+1+(wq s i).1).toNat]))
  else some out
def JJ {f:Nat}{s:ByteArray}{i:Int}{out:List ByteArray}(h:decide (i<s.size)=true) (hb:r7 s i (wq s i)=true):J8 (f+1) s i out=none:=by rw [J8,h,hb];rfl
def amF {f:Nat}{s:ByteArray}{i:Int}{out:List ByteArray}(h:decide (i<s.size)=true) (hb:r7 s i (wq s i)=false):J8 (f+1) s i out=J8 f s (i+(wq s i).2+1+(wq s i).1) (out++[s.extract (i+(wq s i).2+1).toNat (i+(wq s i).2+1+(wq s i).1).toNat]):=by rw [J8,h,hb];rfl
def ajQ {f:Nat}{s:ByteArray}{i:Int}{out:List ByteArray}(h:decide (i<s.size)=false):J8 (f+1) s i out=some out:=by rw [J8,h];rfl
def aeS {s:ByteArray}{i:Int}{r:Int×Int}(h:decide (r.2=0)=true):r7 s i r=true:=by unfold r7;rw [h];rfl
def aeR {s:ByteArray}{i:Int}{r:Int×Int}(h:decide (i+r.2>=s.size)=true):r7 s i r=true:=by unfold r7;rw [h,Bool.true_or,ZC7]
def aeQ {s:ByteArray}{i:Int}{r:Int×Int}(h:decide (bX s (i+r.2).toNat≠58)=true):r7 s i r=true:=by unfold r7;rw [h,Bool.true_or,ZC7,ZC7]
def aeP {s:ByteArray}{i:Int}{r:Int×Int}(h:decide (r.1>s.size-i-r.2-1)=true):r7 s i r=true:=by unfold r7;rw [h,ZC7,ZC7,ZC7]
def aeT {s:ByteArray}{i:Int}{r:Int×Int}(h1:decide (r.2=0)=false) (h2:decide (i+r.2>=s.size)=false) (h3:decide (bX s (i+r.2).toNat≠58)=false) (h4:decide (r.1>s.size-i-r.2-1)=false):r7 s i r=false:=by unfold r7;rw [h1,h2,h3,h4];rfl
def yD (s:ByteArray) (out:List ByteArray):List ByteArray×Bool:=bif !(bK out).2||decide ((bK out).1≠s) then ([],false) else (out,true)
def az (s:ByteArray):List ByteArray×Bool:=
 bif decide ((s.size:Int)<=2048) then (match J8 (s.size+1) s 0 [] with
  |none=>([],false)
  |some out=>yD s out) else ([],false)
def fL {s:ByteArray}(h:decide ((s.size:Int)<=2048)=true) (h2:J8 (s.size+1) s 0 []=none):az s=([],false):=by unfold az;rw [h,h2];rfl
def iB {s:ByteArray}{out:List ByteArray}(h:decide ((s.size:Int)<=2048)=true) (h2:J8 (s.size+1) s 0 []=some out):az s=yD s out:=by unfold az;rw [h,h2];rfl
def jv {s:ByteArray}(h:decide ((s.size:Int)<=2048)=false):az s=([],false):=by unfold az;rw [h];rfl
def KX {s:ByteArray}{out:List ByteArray}(h:(!(bK out).2)=true):yD s out=([],false):=by unfold yD;rw [h];rfl
def KW {s:ByteArray}{out:List ByteArray}(h:decide ((bK out).1≠s)=true):yD s out=([],false):=by unfold yD;rw [h,ZC7];rfl
def KV {s:ByteArray}{out:List ByteArray}(h:(!(bK out).2)=false) (h2:decide ((bK out).1≠s)=false):yD s out=(out,true):=by unfold yD;rw [h,h2];rfl
def oT (s:ByteArray):Prop:=s.size<=1000000
def cw (s:ByteArray):AV:=.t [.s (.xs 0 1 0 (az s).1.length),.s (.q (az s).2)]
def cH (s:ByteArray):List AV:=[.rs ab (az s).1]
def yV:cu where
 A:=[.s .str]
 B:=[]
 pre:=λx b=>oT x
 r:=λx b _=>cw x
 o:=λx b _=>cH x
 nf:=1
theorem aay:Has Tryz.prog 65 yV:=by
 refine Has.fP zT zF zF (l:=[(108,wC),(97,kx)]) ⟨V0,yu,aa⟩ Tryz.func65 ?_
 rintro (s:ByteArray) _ (hp:oT s)
 show vc _ _ _ _ (entry [.str s] []) _
 unfold oT at hp
 refine⟨aa,?_⟩
 all_goals first|refine aw ?_|refine ax ?_|exact bb|(dsimp only [wC,mx,kx,lB];omega)|exact ba|skip
 refine df (l:=[(108,wC),(97,kx)]) (ex:=zT) (wr:=zF) (pt:=zF) ⟨V0,yu,trivial⟩ [.s 0] (λy:Int×List ByteArray×Nat=>[(.s 4,.s (.xs 1010 1 0 y.2.1.length)),(.s 5,.int y.1),(.b 1010,.rs ab y.2.1)]) (λy=>(0<=y.1/\y.1<=s.size)/\(y.2.1.length:Int)<=y.1/\(s.size:Int)<y.1+y.2.2/\(s.size<=2048->J8 y.2.2 s y.1 y.2.1=J8 (s.size+1) s 0 [])/\(2048<s.size->y.1=0/\y.2.1=[])) (λy=>(s.size-y.1).toNat) (0,[],s.size+1) [] ⟨⟨ZC1 _,by show (0:Int)<=s.size;omega⟩,ZC1 _,by show (s.size:Int)<0+(s.size+1:Nat);omega,λ_=>rfl,λ_=>⟨rfl,rfl⟩⟩ dP ?_
 rintro⟨i,out,f⟩ ⟨⟨(hi0:0<=i),(hi:i<=s.size)⟩,(hl:(out.length:Int)<=i),(hf:(s.size:Int)<i+f),(hr:s.size<=2048->J8 f s i out=J8 (s.size+1) s 0 []),(h0:2048<s.size->i=0/\out=[])⟩
 have hb:=ant (s.extract i.toNat s.size)
 rw [ZC2] at hb
 have h48:decide ((s.size:Int)<=2048)=true->s.size<=2048:=λh=>by have:=aF h;omega
 obtain⟨g,rfl⟩:∃g,f=g+1:=⟨f-1,by omega⟩
 refine⟨aa,λw1=>⟨λw2=>⟨⟨?_,?_,?_⟩,⟨tv2,?_⟩,λx3 w4=>⟨aa,λw5=>⟨aa,?_⟩,λw6=>⟨⟨?_,?_⟩,aa,λw7=>⟨aa,?_⟩,λw8=>⟨⟨?_,?_⟩,⟨?_,?_⟩,aa,λw9=>⟨aa,?_⟩,λdB=>⟨⟨?_,?_⟩,⟨?_,?_⟩,⟨?_,?_⟩,λiP=>⟨aa,?_⟩,λdW=>⟨⟨?_,?_⟩,⟨?_,?_⟩,⟨?_,?_⟩,⟨?_,?_⟩,⟨?_,?_⟩,⟨?_,?_,?_⟩,aa,⟨⟨?_,?_⟩,?_,?_⟩,⟨?_,?_⟩,⟨?_,?_⟩,⟨?_,?_⟩,?_⟩⟩⟩⟩⟩⟩,λiL=>⟨⟨⟨⟨?_,?_⟩,aa⟩,aa⟩,λx14 nG=>⟨aa,λkC=>⟨aa,?_⟩,λxh=>⟨λqU=>⟨aa,?_⟩,λo9=>?_⟩⟩⟩⟩,λtl=>⟨⟨⟨⟨?_,?_⟩,aa⟩,aa⟩,λx21 DB=>⟨aa,λzi=>⟨aa,?_⟩,λtZ=>⟨λFV=>⟨aa,?_⟩,λw26=>?_⟩⟩⟩⟩
 all_goals first|refine aw ?_|refine ax ?_|exact bb|(dsimp only [wC,mx,kx,lB];omega)|exact ba|(show mx (s.extract i.toNat s.size);unfold mx;rw [ZC2];omega)|skip
 ·refine⟨[1056],[],_,_,_,ζ,aC,(),aa,?_,?_,ζ⟩
  ·(show _=cw s);unfold cw;first|(rw [fL w2 (by rw [<-hr (h48 w2),JJ w1 (aeS w5)])];rfl)|rfl
  ·(show _=cH s);unfold cH;first|(rw [fL w2 (by rw [<-hr (h48 w2),JJ w1 (aeS w5)])];rfl)|rfl
 ·refine⟨[1056],[],_,_,_,ζ,aC,(),aa,?_,?_,ζ⟩
  ·(show _=cw s);unfold cw;first|(rw [fL w2 (by rw [<-hr (h48 w2),JJ w1 (aeR w7)])];rfl)|rfl
  ·(show _=cH s);unfold cH;first|(rw [fL w2 (by rw [<-hr (h48 w2),JJ w1 (aeR w7)])];rfl)|rfl
 ·refine⟨[1056],[],_,_,_,ζ,aC,(),aa,?_,?_,ζ⟩
  ·(show _=cw s);unfold cw;first|(rw [fL w2 (by rw [<-hr (h48 w2),JJ w1 (aeQ w9)])];rfl)|rfl
  ·(show _=cH s);unfold cH;first|(rw [fL w2 (by rw [<-hr (h48 w2),JJ w1 (aeQ w9)])];rfl)|rfl
 ·refine⟨[1056],[],_,_,_,ζ,aC,(),aa,?_,?_,ζ⟩
  ·(show _=cw s);unfold cw;first|(rw [fL w2 (by rw [<-hr (h48 w2),JJ w1 (aeP iP)])];rfl)|rfl
  ·(show _=cH s);unfold cH;first|(rw [fL w2 (by rw [<-hr (h48 w2),JJ w1 (aeP iP)])];rfl)|rfl
 ·have h5:¬((wq s i).2=0):=aD w6
  have h6:¬(i+(wq s i).2>=s.size):=aD w8
  have h7:¬((wq s i).1>s.size-i-(wq s i).2-1):=aD dW
  have h8:s.size<=2048:=h48 w2
  have hb:(0<=(wq s i).1/\(wq s i).1<=999999999)/\(0<=(wq s i).2/\(wq s i).2<=9)/\_:=hb
  refine⟨(i+(wq s i).2+1+(wq s i).1,out++[s.extract (i+(wq s i).2+1).toNat (i+(wq s i).2+1+(wq s i).1).toNat],g),[(1010,1071)],?_,?_,?_⟩
  rotate_right
  ·exact bY
  ·refine⟨⟨?_,?_⟩,?_,?_,λh=>?_,λh=>absurd h8 (by omega)⟩
   ·show 0<=i+(wq s i).2+1+(wq s i).1;omega
   ·show i+(wq s i).2+1+(wq s i).1<=_;omega
   ·show ((List.length (_++_):Nat):Int)<=i+(wq s i).2+1+(wq s i).1;rw [ZA0];show ((out.length+1:Nat):Int)<=_;omega
   ·show (s.size:Int)<i+(wq s i).2+1+(wq s i).1+(g:Int);omega
   ·rw [<-hr h,amF w1 (aeT w6 w8 dB dW)]
  ·show (s.size-(i+(wq s i).2+1+(wq s i).1)).toNat<(s.size-i).toNat;omega
 ·obtain⟨rfl,rfl⟩:=h0 (by have:=aD iL;omega)
  refine⟨[1090],[],_,_,_,ζ,aC,(),aa,?_,?_,ζ⟩
  ·(show _=cw s);unfold cw;first|(rw [jv iL];rfl)|rfl
  ·(show _=cH s);unfold cH;first|(rw [jv iL];rfl)|rfl
 ·obtain⟨rfl,rfl⟩:=h0 (by have:=aD iL;omega)
  refine⟨[1090],[],_,_,_,ζ,aC,(),aa,?_,?_,ζ⟩
  ·(show _=cw s);unfold cw;first|(rw [jv iL];rfl)|rfl
  ·(show _=cH s);unfold cH;first|(rw [jv iL];rfl)|rfl
 ·obtain⟨rfl,rfl⟩:=h0 (by have:=aD iL;omega)
  have h9:¬((⟨#[]⟩:ByteArray)≠s):=aD o9
  have h10:(⟨#[]⟩:ByteArray)=s:=ZE6.1 h9
  have h11:¬((s.size:Int)<=2048):=aD iL
  exact absurd (show ((s.size:Nat):Int)<=2048 by rw [<-h10];show (0:Int)<=2048;omega) h11
 all_goals
  have h13:¬(i<(s.size:Int)):=aD tl
  have h14:J8 (g+1) s i out=some out:=ajQ tl
  have AI:decide ((s.size:Int)<=2048)=true:=by
   cases hh:decide ((s.size:Int)<=2048) with
   |true=>rfl
   |false=>
    have h16:=aD hh
    obtain⟨rfl,_⟩:=h0 (by omega)
    omega
  have e:J8 (s.size+1) s 0 []=some out:=by rw [<-hr (h48 AI),h14]
 ·refine⟨[1090],[],_,_,_,ζ,aC,(),aa,?_,?_,ζ⟩
  ·(show _=cw s);unfold cw;first|(rw [iB AI e,KX (out:=out) zi];rfl)|rfl
  ·(show _=cH s);unfold cH;first|(rw [iB AI e,KX (out:=out) zi];rfl)|rfl
 ·refine⟨[1090],[],_,_,_,ζ,aC,(),aa,?_,?_,ζ⟩
  ·(show _=cw s);unfold cw;first|(rw [iB AI e,KW (out:=out) FV];rfl)|rfl
  ·(show _=cH s);unfold cH;first|(rw [iB AI e,KW (out:=out) FV];rfl)|rfl
 ·refine⟨[1010],[],_,_,_,ζ,aC,(),aa,?_,?_,ζ⟩
  ·(show _=cw s);unfold cw;first|(rw [iB AI e,KV (out:=out) tZ w26];rfl)|rfl
  ·(show _=cH s);unfold cH;first|(rw [iB AI e,KV (out:=out) tZ w26];rfl)|rfl
def ia (w:List ByteArray):dN:=
 ((aA (nth ab w 0)).1,(aA (nth ab w 1)).1,(aA (nth ab w 2)).1,
   (bC (nth ab w 3)).1.1,(bC (nth ab w 3)).1.2.1,(bC (nth ab w 3)).1.2.2.1,(bC (nth ab w 3)).1.2.2.2.1,(bC (nth ab w 3)).1.2.2.2.2,
   (aA (nth ab w 4)).1,(aA (nth ab w 5)).1)
def dq:dN:=(0,0,0,0,0,0,0,0,0,0)
def aG (s:ByteArray):dN×Bool:=
 bif !(az s).2||(decide (((az s).1.length:Int)≠7)||(!(cx (ia (az s).1))||decide (aB (ia (az s).1)≠s))) then (dq,false) else (ia (az s).1,true)
def rS {s:ByteArray}(h:(!(az s).2)=true):aG s=(dq,false):=by unfold aG;rw [h];rfl
def ox {s:ByteArray}(h:decide (((az s).1.length:Int)≠7)=true):aG s=(dq,false):=by unfold aG;rw [h,Bool.true_or,ZC7];rfl
def vV {s:ByteArray}(h:(!(cx (ia (az s).1)))=true):aG s=(dq,false):=by unfold aG;rw [h,Bool.true_or,ZC7,ZC7];rfl
def rR {s:ByteArray}(h:decide (aB (ia (az s).1)≠s)=true):aG s=(dq,false):=by unfold aG;rw [h,ZC7,ZC7,ZC7];rfl
def vW {s:ByteArray}(h1:(!(az s).2)=false) (h2:decide (((az s).1.length:Int)≠7)=false) (h3:(!(cx (ia (az s).1)))=false) (h4:decide (aB (ia (az s).1)≠s)=false):aG s=(ia (az s).1,true):=by unfold aG;rw [h1,h2,h3,h4];rfl
def ndA (n:dN):A0:=.a (EK.FQ gf n)
def ajP {s:ByteArray}:∀{f:Nat}{i:Int}{out r:List ByteArray},J8 f s i out=some r->(∀x∈out,x.size<=s.size)->∀x∈r,x.size<=s.size
 |0,_,_,_,h,_=>by cases h
 |f+1,i,out,r,h,ho=>by
  unfold J8 at h
  cases hc:decide (i<(s.size:Int)) with
  |true=>
   rw [hc,cond_true] at h
   cases hb:r7 s i (wq s i) with
   |true=>rw [hb] at h;cases h
   |false=>
    rw [hb,cond_false] at h
    refine ajP h λx hx=>?_
    rcases ZB5.1 hx with hx |hx
    ·exact ho x hx
    ·simp only [ZB7,ZF6,or_false] at hx
     subst hx
     rw [ZC2];omega
  |false=>rw [hc] at h;cases h;exact ho
def AJ {s:ByteArray}:∀x∈(az s).1,x.size<=s.size:=by
 intro x hx
 unfold az at hx
 cases hc:decide ((s.size:Int)<=2048) with
 |true=>
  rw [hc,cond_true] at hx
  cases hr:J8 (s.size+1) s 0 [] with
  |none=>rw [hr] at hx;cases hx
  |some out=>
   rw [hr] at hx
   have ho:=ajP hr (λ_ h=>by cases h)
   unfold yD at hx
   cases hd: !(bK out).2||decide ((bK out).1≠s) with
   |true=>simp only [hd,cond_true] at hx;cases hx
   |false=>simp only [hd,cond_false] at hx;exact ho x hx
 |false=>rw [hc] at hx;cases hx
def gv (s:ByteArray):Prop:=s.size<=1000000
def fR (s:ByteArray):AV:=.t [ndA (aG s).1,.s (.q (aG s).2)]
def acw (s:ByteArray):List AV:=[]
def fC:cu where
 A:=[.s .str]
 B:=[]
 pre:=λx b=>gv x
 r:=λx b _=>fR x
 o:=λx b _=>acw x
def oB:Has Tryz.prog 34 fC:=by
 refine Has.fP zT zF zF (l:=[(65,yV),(66,ku),(67,sq),(68,ss),(54,oM)]) ⟨aay,yt,ON,OP,HV,aa⟩ Tryz.func34 ?_
 rintro (s:ByteArray) _ (hp:gv s)
 show vc _ _ _ _ (entry [.str s] []) _
 unfold gv at hp
 have db:∀k,(nth ab (az s).1 k).size<=1000000:=λk=>by
  by_cases h:k<(az s).1.length
  ·exact ZA9 (AJ _ (bS (ek:=ab) h)) hp
  ·unfold nth;rw [ZE1 (by omega)];exact ZA7 _
 have alx:∀k,iH (nth ab (az s).1 k):=λk=>by unfold iH;have:=db k;omega
 refine⟨⟨tv2,?_⟩,λx1 w2=>⟨aa,λw3=>?_,λw4=>⟨λw5=>?_,λw6=>⟨⟨?_,?_⟩,?_,⟨tv2,?_⟩,λx7 w8=>⟨⟨?_,?_⟩,?_,⟨tv2,?_⟩,λx9 dB=>⟨⟨?_,?_⟩,?_,⟨tv2,?_⟩,λlJ dW=>⟨⟨?_,?_⟩,?_,⟨tv2,?_⟩,λtY gY=>⟨⟨?_,?_⟩,?_,⟨tv2,?_⟩,λnN kC=>⟨⟨?_,?_⟩,?_,⟨tv2,?_⟩,λx17 qU=>⟨⟨⟨tv11,aa⟩,aa⟩,λx19 tl=>⟨aa,λFW=>?_,λDB=>⟨⟨⟨tv11,aa⟩,aa⟩,λx23 tZ=>⟨λFV=>?_,λw26=>?_⟩⟩⟩⟩⟩⟩⟩⟩⟩⟩⟩⟩⟩
 all_goals first|refine aw ?_|refine ax ?_|exact bb|(dsimp only [yV,oT,ku,iH,sq,oo,ss,rK,oM,pE];omega)|exact ba|exact db _|exact alx _|skip
 ·refine⟨[],[],_,_,_,ζ,aC,(),aa,?_,?_,ζ⟩
  ·(show _=fR s);unfold fR;first|(rw [rS w3];rfl)|rfl
  ·rfl
 ·refine⟨[],[],_,_,_,ζ,aC,(),aa,?_,?_,ζ⟩
  ·(show _=fR s);unfold fR;first|(rw [ox w5];rfl)|rfl
  ·rfl
 ·refine⟨[],[],_,_,_,ζ,aC,(),aa,?_,?_,ζ⟩
  ·(show _=fR s);unfold fR;first|(rw [vV FW];rfl)|rfl
  ·rfl
 ·refine⟨[],[],_,_,_,ζ,aC,(),aa,?_,?_,ζ⟩
  ·(show _=fR s);unfold fR;first|(rw [rR FV];rfl)|rfl
  ·rfl
 ·refine⟨[],[],_,_,_,ζ,aC,(),aa,?_,?_,ζ⟩
  ·(show _=fR s);unfold fR;first|(rw [vW w4 w6 DB w26];rfl)|rfl
  ·rfl
end GL
namespace GL
def cL (n:Nat):List Pt:=List.replicate n ch
def mu (n:Int):Prop:=0<=n/\n<=1000
def xD (n:Int):AV:=.s (.xs 0 5 0 (cL n.toNat).length)
def BV (n:Int):List AV:=[.rs ae (cL n.toNat)]
def kV:cu where
 A:=[.s .int]
 B:=[]
 pre:=λx b=>mu x
 r:=λx b _=>xD x
 o:=λx b _=>BV x
 nf:=1
def zI:Has Tryz.prog 89 kV:=by
 refine Has.fP zT zF zF (l:=[]) trivial Tryz.func89 ?_
 rintro (n:Int) _ (hp:mu n)
 show vc _ _ _ _ (entry [.int n] []) _
 obtain⟨h1,h2⟩:=hp
 refine⟨⟨?_,⟨?_,?_⟩⟩,?_⟩
 all_goals first|refine aw ?_|refine ax ?_|exact bb|exact ba|skip
 refine⟨[1004],[],_,_,_,ζ,aC,(),aa,?_,?_,ζ⟩
 ·(show _=xD n);unfold xD;first|(rw [show (cL n.toNat).length=n.toNat from ZF9];rfl)|rfl
 ·(show _=BV n);unfold BV;first|(rw [show (cL n.toNat).length=n.toNat from ZF9];rfl)|rfl
structure ay.rd (s:ay):Prop where
 len:s.rows.length=64
 sz:∀x∈s.rows,x.size<=1000000
def DS {s:ay}{p:Pt}(h:s.rd):(bB s p).1.size<=1000000:=by
 unfold bB
 cases au p with
 |true=>exact ZA7 _
 |false=>
  cases iN p (nth ab s.rows p.1.toNat) with
  |true=>
   show (nth ab s.rows p.1.toNat).size<=1000000
   by_cases hk:p.1.toNat<s.rows.length
   ·exact h.2 _ (bS (ek:=ab) hk)
   ·unfold nth;rw [ZE1 (by omega)];exact ZA7 _
  |false=>exact ZA7 _
def qj (p:Pt) (r:List Pt×Bool):List Pt×Bool:=bif r.1.any (λq=>decide (q.2.1>p.2.1)) then ([],false) else r
def bl (s:ay) (p:Pt) (lv:Int):List Pt×Bool:=
 bif au p then (cL 4,true) else
 bif !(bc p)||(decide (p.2.2.2.2≠lv)||decide (p.2.1>s.cz)) then ([],false) else
 bif !(bB s p).2 then ([],false) else qj p (bw (bB s p).1)
def lG {s:ay}{p:Pt}{lv:Int}(h:au p=true):bl s p lv=(cL 4,true):=by unfold bl;rw [h];rfl
def P9 {s:ay}{p:Pt}{lv:Int}(h:au p=false) (h1:(!(bc p))=true):bl s p lv=([],false):=by unfold bl;rw [h,h1];rfl
def y0 {s:ay}{p:Pt}{lv:Int}(h:au p=false) (h1:decide (p.2.2.2.2≠lv)=true):bl s p lv=([],false):=by unfold bl;rw [h,h1,Bool.true_or,ZC7];rfl
def FA {s:ay}{p:Pt}{lv:Int}(h:au p=false) (h1:decide (p.2.1>s.cz)=true):bl s p lv=([],false):=by unfold bl;rw [h,h1,ZC7,ZC7];rfl
def yZ {s:ay}{p:Pt}{lv:Int}(h:au p=false) (h1:(!(bc p))=false) (h2:decide (p.2.2.2.2≠lv)=false) (h3:decide (p.2.1>s.cz)=false) (h4:(!(bB s p).2)=true):bl s p lv=([],false):=by unfold bl;rw [h,h1,h2,h3,h4];rfl
def yY {s:ay}{p:Pt}{lv:Int}(h:au p=false) (h1:(!(bc p))=false) (h2:decide (p.2.2.2.2≠lv)=false) (h3:decide (p.2.1>s.cz)=false) (h4:(!(bB s p).2)=false):bl s p lv=qj p (bw (bB s p).1):=by unfold bl;rw [h,h1,h2,h3,h4];rfl
def yG (s:ByteArray):(bw s).1.length<=4/\((bw s).2=true->(bw s).1.length=4):=by
 unfold bw
 cases pS (bz s 44) [] false with
 |none=>exact⟨ZA7 _,λh=>by cases h⟩
 |some r=>
  obtain⟨o,sm⟩:=r
  show (nA o sm).1.length<=4/\((nA o sm).2=true->(nA o sm).1.length=4)
  unfold nA
  cases hc:decide ((o.length:Int)≠4)|| !sm with
  |true=>exact⟨ZA7 _,λh=>by cases h⟩
  |false=>
   simp only [ZD5,decide_eq_false_iff_not,ZE6] at hc
   have:o.length=4:=by omega
   exact⟨by show o.length<=4;omega,λ_=>this⟩
abbrev late (p:Pt):Pt->Bool:=λq=>decide (q.2.1>p.2.1)
def y5 {p:Pt}{r:List Pt×Bool}(h:r.1.any (late p)=true):qj p r=([],false):=by unfold qj;rw [h];rfl
def uY {p:Pt}{r:List Pt×Bool}(h:r.1.any (late p)=false):qj p r=r:=by unfold qj;rw [h];rfl
def adB {l:List Pt}{f:Pt->Bool}{i:Nat}(hi:i<l.length) (hr:(l.drop i).any f=l.any f) (h:f (nth ae l i)=true):l.any f=true:=by
 rw [<-hr,bJ (ek:=ae) hi,List.any_cons,h];rfl
def akM {l:List Pt}{f:Pt->Bool}{i:Nat}(hi:i<l.length) (hr:(l.drop i).any f=l.any f) (h:f (nth ae l i)=false):(l.drop (i+1)).any f=l.any f:=by
 rw [<-hr,bJ (ek:=ae) hi,List.any_cons,h];rfl
def adC {l:List Pt}{f:Pt->Bool}{i:Nat}(hi:¬i<l.length) (hr:(l.drop i).any f=l.any f):l.any f=false:=by
 rw [<-hr,ZB3 (by omega)];rfl
def gu (S:ay) (p:Pt) (lv:Int):Prop:=S.rd
def dR (S:ay) (p:Pt) (lv:Int):AV:=.t [.s (.xs 0 5 0 (bl S p lv).1.length),.s (.q (bl S p lv).2)]
def eK (S:ay) (p:Pt) (lv:Int):List AV:=[.rs ae (bl S p lv).1]
def eP:cu where
 A:=[.a vj,.a [.int,.int,.int,.int,.int],.s .int]
 B:=[]
 pre:=λx b=>gu (x.1) (x.2.1) (x.2.2)
 r:=λx b _=>dR (x.1) (x.2.1) (x.2.2)
 o:=λx b _=>eK (x.1) (x.2.1) (x.2.2)
 nf:=1
def mB:Has Tryz.prog 64 eP:=by
 refine Has.fP zT zF zF (l:=[(62,cN),(89,kV),(61,dD),(50,fb),(107,yW)]) ⟨cQ,zI,js,ns,aaz,aa⟩ Tryz.func64 ?_
 rintro⟨⟨(aj:List ByteArray),(ak:List Int),(an:List Int),(ao:Int),(ah:List Pt),(aq:Int),(ai:List Pt),(ar:Bool)⟩,⟨(p1:Int),(p2:Int),(p3:Int),(p4:Int),(p5:Int)⟩,(lv:Int)⟩ _ (hp:gu (aj,ak,an,ao,ah,aq,ai,ar) (p1,p2,p3,p4,p5) lv)
 show vc _ _ _ _ (entry [.a [.vz ab aj,.vz ag ak,.vz ag an,.int ao,.vz ae ah,.int aq,.vz ae ai,.q ar],.a [.int p1,.int p2,.int p3,.int p4,.int p5],.int lv] []) _
 have dM:ay.rd (aj,ak,an,ao,ah,aq,ai,ar):=hp
 have hlen:aj.length=64:=dM.1
 have db:∀q,(bB (aj,ak,an,ao,ah,aq,ai,ar) q).1.size<=1000000:=λq=>DS dM
 have AH:au (p1,p2,p3,p4,p5)=false->(!(bc (p1,p2,p3,p4,p5)))=false->0<=p1/\p1<64:=λh h1=>by
  have:=px (cr h1);dsimp only at this;omega
 refine⟨⟨⟨tv6,aa⟩,aa⟩,λx1 w2=>⟨λw3=>⟨⟨tv2,?_,?_⟩,λx4 w5=>?_⟩,λw6=>⟨⟨⟨tv6,aa⟩,aa⟩,λx7 w8=>⟨aa,λw9=>⟨aa,?_⟩,λdB=>⟨aa,λiP=>⟨aa,?_⟩,λdW=>⟨λiL=>⟨aa,?_⟩,λgY=>⟨⟨⟨tv9,tv6,aa⟩,λnN kC=>?_,?_,?_⟩,λx17 qU=>⟨λo9=>⟨aa,?_⟩,λtl=>⟨⟨tv2,?_⟩,λx21 DB=>?_⟩⟩⟩⟩⟩⟩⟩⟩⟩
 all_goals first|refine aw ?_|refine ax ?_|exact bb|(dsimp only [kV,mu,dD,eO,fb,gJ,yW,rL];omega)|exact ba|exact dM.2 _ (by assumption)|exact (AH w6 dB).1|(have:=(AH w6 dB).2;show p1<(aj.length:Int);omega)|skip
 ·refine⟨[160000],[],_,_,_,ζ,aC,(),aa,?_,?_,ζ⟩
  ·(show _=dR (aj,ak,an,ao,ah,aq,ai,ar) (p1,p2,p3,p4,p5) lv);unfold dR;first|(rw [lG w3];rfl)|rfl
  ·(show _=eK (aj,ak,an,ao,ah,aq,ai,ar) (p1,p2,p3,p4,p5) lv);unfold eK;first|(rw [lG w3];rfl)|rfl
 ·refine⟨[1032],[],_,_,_,ζ,aC,(),aa,?_,?_,ζ⟩
  ·(show _=dR (aj,ak,an,ao,ah,aq,ai,ar) (p1,p2,p3,p4,p5) lv);unfold dR;first|(rw [P9 w6 w9];rfl)|rfl
  ·(show _=eK (aj,ak,an,ao,ah,aq,ai,ar) (p1,p2,p3,p4,p5) lv);unfold eK;first|(rw [P9 w6 w9];rfl)|rfl
 ·refine⟨[1032],[],_,_,_,ζ,aC,(),aa,?_,?_,ζ⟩
  ·(show _=dR (aj,ak,an,ao,ah,aq,ai,ar) (p1,p2,p3,p4,p5) lv);unfold dR;first|(rw [y0 w6 iP];rfl)|rfl
  ·(show _=eK (aj,ak,an,ao,ah,aq,ai,ar) (p1,p2,p3,p4,p5) lv);unfold eK;first|(rw [y0 w6 iP];rfl)|rfl
 ·refine⟨[1032],[],_,_,_,ζ,aC,(),aa,?_,?_,ζ⟩
  ·(show _=dR (aj,ak,an,ao,ah,aq,ai,ar) (p1,p2,p3,p4,p5) lv);unfold dR;first|(rw [FA w6 iL];rfl)|rfl
  ·(show _=eK (aj,ak,an,ao,ah,aq,ai,ar) (p1,p2,p3,p4,p5) lv);unfold eK;first|(rw [FA w6 iL];rfl)|rfl
 ·refine⟨[1041],[],_,_,_,ζ,aC,(),aa,?_,?_,ζ⟩
  ·(show _=dR (aj,ak,an,ao,ah,aq,ai,ar) (p1,p2,p3,p4,p5) lv);unfold dR;first|(rw [yZ (s:=(aj,ak,an,ao,ah,aq,ai,ar)) (p:=(p1,p2,p3,p4,p5)) w6 dB dW gY o9];rfl)|rfl
  ·(show _=eK (aj,ak,an,ao,ah,aq,ai,ar) (p1,p2,p3,p4,p5) lv);unfold eK;first|(rw [yZ (s:=(aj,ak,an,ao,ah,aq,ai,ar)) (p:=(p1,p2,p3,p4,p5)) w6 dB dW gY o9];rfl)|rfl
 ·exact db _
 ·have hB:=yY (s:=(aj,ak,an,ao,ah,aq,ai,ar)) (p:=(p1,p2,p3,p4,p5)) (lv:=lv) w6 dB dW gY tl
  have hF:=(yG (bB (aj,ak,an,ao,ah,aq,ai,ar) (p1,p2,p3,p4,p5)).1).1
  refine df (l:=[(62,cN),(89,kV),(61,dD),(50,fb),(107,yW)]) (ex:=zT) (wr:=zF) (pt:=zF) ⟨cQ,zI,js,ns,aaz,aa⟩ [.s 4,.b 1004,.s 10,.s 11,.b 450000] (λi:Nat=>[(.s 12,.int i)]) (λi=>i<=(bw (bB (aj,ak,an,ao,ah,aq,ai,ar) (p1,p2,p3,p4,p5)).1).1.length/\((bw (bB (aj,ak,an,ao,ah,aq,ai,ar) (p1,p2,p3,p4,p5)).1).1.drop i).any (late (p1,p2,p3,p4,p5))=(bw (bB (aj,ak,an,ao,ah,aq,ai,ar) (p1,p2,p3,p4,p5)).1).1.any (late (p1,p2,p3,p4,p5))) (λi=>(bw (bB (aj,ak,an,ao,ah,aq,ai,ar) (p1,p2,p3,p4,p5)).1).1.length-i) 0 [] ⟨ZA7 _,rfl⟩ dP ?_
  rintro i ⟨hi,hr⟩
  have cF:decide ((i:Int)<((bw (bB (aj,ak,an,ao,ah,aq,ai,ar) (p1,p2,p3,p4,p5)).1).1.length:Int))=true->i<(bw (bB (aj,ak,an,ao,ah,aq,ai,ar) (p1,p2,p3,p4,p5)).1).1.length:=λh=>by have:=aF h;omega
  have lZ:decide ((i:Int)<((bw (bB (aj,ak,an,ao,ah,aq,ai,ar) (p1,p2,p3,p4,p5)).1).1.length:Int))=false->¬i<(bw (bB (aj,ak,an,ao,ah,aq,ai,ar) (p1,p2,p3,p4,p5)).1).1.length:=λh=>by have:=aD h;omega
  refine⟨λw1=>⟨Sq10,Sq53,ζ,Sq12,Sq54,ζ,[.s 53,.s 54],Sq55,ζ,⟨?_,?_⟩,Sq55,Sq56,ζ,[.s 56,.b 450000],Sq57,ζ,?_,Sq4,Sq58,ζ,[.s 58,.b 1004],Sq59,ζ,[.s 57,.s 59],Sq60,ζ,λw2=>⟨aa,?_⟩,λw3=>⟨⟨?_,?_⟩,?_⟩⟩,λw4=>?_⟩
  all_goals first|refine aw ?_|refine ax ?_|exact bb|(dsimp only [kV,mu,dD,eO,fb,gJ,yW,rL];omega)|exact ba|exact cF w1|exact aF w1|skip
  ·refine⟨[1061],[],_,_,_,ζ,aC,(),aa,?_,?_,ζ⟩
   ·(show _=dR (aj,ak,an,ao,ah,aq,ai,ar) (p1,p2,p3,p4,p5) lv);unfold dR;first|(rw [hB,y5 (adB (cF w1) hr w2)];rfl)|rfl
   ·(show _=eK (aj,ak,an,ao,ah,aq,ai,ar) (p1,p2,p3,p4,p5) lv);unfold eK;first|(rw [hB,y5 (adB (cF w1) hr w2)];rfl)|rfl
  ·refine⟨(i+1),[],?_,?_,?_⟩
   rotate_right
   ·exact bY
   ·exact⟨cF w1,akM (cF w1) hr w3⟩
   ·show (bw (bB (aj,ak,an,ao,ah,aq,ai,ar) (p1,p2,p3,p4,p5)).1).1.length-(i+1)<(bw (bB (aj,ak,an,ao,ah,aq,ai,ar) (p1,p2,p3,p4,p5)).1).1.length-i;have:=cF w1;omega
  ·refine⟨[450000],[],_,_,_,ζ,aC,(),aa,?_,?_,ζ⟩
   ·(show _=dR (aj,ak,an,ao,ah,aq,ai,ar) (p1,p2,p3,p4,p5) lv);unfold dR;first|(rw [hB,uY (adC (lZ w4) hr)];rfl)|rfl
   ·(show _=eK (aj,ak,an,ao,ah,aq,ai,ar) (p1,p2,p3,p4,p5) lv);unfold eK;first|(rw [hB,uY (adC (lZ w4) hr)];rfl)|rfl
end GL
namespace GL
def fj (s:ay) (lv:Int):List Pt->List Pt->Option (List Pt)
 |[],acc=>some acc
 |p::l,acc=>bif (bl s p lv).2 then fj s lv l (acc++(bl s p lv).1) else none
def wa (s:ay):Nat->Int->List Pt->List Pt×Bool
 |0,_,l=>(l,true)
 |f+1,lv,l=>bif decide (lv>0) then (match fj s lv l [] with
  |none=>([],false)
  |some n=>wa s f (lv-1) n) else (l,true)
abbrev bf.root (t:bf):Pt:=(t.1,t.2.1,t.2.2.1,t.2.2.2.1,t.2.2.2.2.1)
abbrev bf.depth (t:bf):Int:=t.2.2.2.2.2.1
abbrev bf.many (t:bf):Int:=t.2.2.2.2.2.2
def bh (s:ay) (t:bf):List Pt×Bool:=wa s 3 t.depth [t.root]
def ym {s:ay}{f:Nat}{lv:Int}{l:List Pt}(h:decide (lv>0)=true) (h2:fj s lv l []=none):wa s (f+1) lv l=([],false):=by rw [wa,h,h2];rfl
def tH {s:ay}{f:Nat}{lv:Int}{l n:List Pt}(h:decide (lv>0)=true) (h2:fj s lv l []=some n):wa s (f+1) lv l=wa s f (lv-1) n:=by rw [wa,h,h2];rfl
def rV {s:ay}{f:Nat}{lv:Int}{l:List Pt}(h:decide (lv>0)=false):wa s (f+1) lv l=(l,true):=by rw [wa,h];rfl
def KE {s:ay}{lv:Int}{p:Pt}{l acc:List Pt}(h:(!(bl s p lv).2)=true):fj s lv (p::l) acc=none:=by rw [fj,pJ h];rfl
def KD {s:ay}{lv:Int}{p:Pt}{l acc:List Pt}(h:(!(bl s p lv).2)=false):fj s lv (p::l) acc=fj s lv l (acc++(bl s p lv).1):=by rw [fj,cr h];rfl
theorem gU (s:ay) (p:Pt) (lv:Int):(bl s p lv).1.length<=4/\((bl s p lv).2=true->(bl s p lv).1.length=4):=by
 have h0:([]:List Pt).length<=4/\(false=true->([]:List Pt).length=4):=⟨ZA7 _,λh=>by cases h⟩
 unfold bl
 cases au p with
 |true=>exact⟨ZB0 _,λ_=>rfl⟩
 |false=>
  cases !(bc p)||(decide (p.2.2.2.2≠lv)||decide (p.2.1>s.cz)) with
  |true=>exact h0
  |false=>
   cases !(bB s p).2 with
   |true=>exact h0
   |false=>
    show (qj p (bw (bB s p).1)).1.length<=4/\((qj p (bw (bB s p).1)).2=true->(qj p (bw (bB s p).1)).1.length=4)
    unfold qj
    cases (bw (bB s p).1).1.any (late p) with
    |true=>exact h0
    |false=>exact yG _
def ud {s:ay}{lv:Int}:∀{l acc n:List Pt},fj s lv l acc=some n->n.length=acc.length+4*l.length
 |[],acc,n,h=>by cases h;rfl
 |p::l,acc,n,h=>by
  unfold fj at h
  cases hb:(bl s p lv).2 with
  |true=>
   rw [hb,cond_true] at h
   rw [ud h,ZA0,(gU s p lv).2 hb,ZA1];omega
  |false=>rw [hb] at h;cases h
def anP (lv:Int) (n:Nat):Prop:=n<=16/\(1<=lv->n<=4)/\(2<=lv->n<=1)
def na (S:ay) (t:bf):Prop:=S.rd/\t.depth<=2
def mP (S:ay) (t:bf):AV:=.t [.s (.xs 0 5 0 (bh S t).1.length),.s (.q (bh S t).2)]
def pG (S:ay) (t:bf):List AV:=[.rs ae (bh S t).1]
def mc:cu where
 A:=[.a vj,.a [.int,.int,.int,.int,.int,.int,.int]]
 B:=[]
 pre:=λx b=>na (x.1) (x.2)
 r:=λx b _=>mP (x.1) (x.2)
 o:=λx b _=>pG (x.1) (x.2)
 nf:=1
theorem B5:Has Tryz.prog 88 mc:=by
 refine Has.fP zT zF zF (l:=[(64,eP)]) ⟨mB,aa⟩ Tryz.func88 ?_
 rintro⟨⟨(aj:List ByteArray),(ak:List Int),(an:List Int),(ao:Int),(ah:List Pt),(aq:Int),(ai:List Pt),(ar:Bool)⟩,⟨(t1:Int),(t2:Int),(t3:Int),(t4:Int),(t5:Int),(t6:Int),(t7:Int)⟩⟩ _ (hp:na (aj,ak,an,ao,ah,aq,ai,ar) (t1,t2,t3,t4,t5,t6,t7))
 show vc _ _ _ _ (entry [.a [.vz ab aj,.vz ag ak,.vz ag an,.int ao,.vz ae ah,.int aq,.vz ae ai,.q ar],.a [.int t1,.int t2,.int t3,.int t4,.int t5,.int t6,.int t7]] []) _
 let A':=(aj,ak,an,ao,ah,aq,ai,ar)
 let B':=(t1,t2,t3,t4,t5,t6,t7)
 obtain⟨dM,(arh:t6<=2)⟩:=hp
 have dM:ay.rd A':=dM
 refine⟨aa,?_⟩
 all_goals first|refine aw ?_|refine ax ?_|exact bb|(dsimp only [eP,gu];omega)|exact ba|skip
 refine df (l:=[(64,eP)]) (ex:=zT) (wr:=zF) (pt:=zF) ⟨mB,trivial⟩ [.s 2,.b 1002] (λy:Int×List Pt×Nat=>[(.s 6,.s (.xs 1014 5 0 y.2.1.length)),(.s 7,.int y.1),(.b 1014,.rs ae y.2.1)]) (λy=>y.1<=2/\anP y.1 y.2.1.length/\y.1<y.2.2/\wa A' y.2.2 y.1 y.2.1=bh A' B') (λy=>y.1.toNat) (t6,[(t1,t2,t3,t4,t5)],3) [] ⟨arh,⟨by show 1<=16;omega,λ_=>by show 1<=4;omega,λ_=>ZB0 _⟩,by show t6<(3:Nat);omega,rfl⟩ dP ?_
 rintro⟨lv,l,f⟩ ⟨(KS:lv<=2),(Q6:anP lv l.length),(hf:lv<(f:Int)),(hr:wa A' f lv l=bh A' B')⟩
 refine⟨λw1=>⟨aa,?_⟩,λw2=>?_⟩
 all_goals first|refine aw ?_|refine ax ?_|exact bb|(dsimp only [eP,gu];omega)|exact ba|skip
 ·have oC:decide (lv>0)=true:=w1
  have h1:lv>0:=aF w1
  obtain⟨g,rfl⟩:∃g,f=g+1:=⟨f-1,by omega⟩
  refine df (l:=[(64,eP)]) (ex:=zT) (wr:=zF) (pt:=zF) ⟨mB,aa⟩ [.s 2,.b 1002,.s 6,.s 7,.b 1014] (λy:Nat×List Pt=>[(.s 8,.s (.xs 1021 5 0 y.2.length)),(.s 9,.int y.1),(.b 1021,.rs ae y.2)]) (λy=>y.1<=l.length/\y.2.length=4*y.1/\fj A' lv (l.drop y.1) y.2=fj A' lv l []) (λy=>l.length-y.1) (0,[]) [] ⟨ZA7 _,rfl,rfl⟩ dP ?_
  rintro⟨i,acc⟩ ⟨(hi:i<=l.length),(agP:acc.length=4*i),(hs:fj A' lv (l.drop i) acc=fj A' lv l [])⟩
  have cF:decide ((i:Int)<(l.length:Int))=true->i<l.length:=λh=>by have:=aF h;omega
  have ary:=Q6.2.1 (by omega)
  have hlen:=(gU A' (nth ae l i) lv).1
  have cP:i<l.length->l.drop i=nth ae l i::l.drop (i+1):=λh=>bJ (ek:=ae) h
  refine⟨λw1=>⟨[.s 2,.b 1002],Sq29,ζ,Sq6,Sq30,ζ,Sq9,Sq31,ζ,[.s 30,.s 31],Sq32,ζ,⟨?_,?_⟩,[.s 32,.b 1014],Sq33,ζ,?_,Sq7,Sq34,ζ,[.s 29,.s 33,.s 34,.b 360000],[.s 35,.b 360000],ζ,⟨⟨tv9,tv6,tv2⟩,?_⟩,?_,λx2 w3=>⟨Sq35,Sq28,ζ,Sq28,Sq36,ζ,Sq28,Sq37,ζ,Sq36,Sq10,ζ,Sq37,Sq11,ζ,λw4=>⟨aa,?_⟩,λw5=>⟨⟨⟨?_,?_⟩,?_,?_⟩,⟨?_,?_⟩,?_⟩⟩⟩,λw6=>⟨⟨?_,?_⟩,?_⟩⟩
  all_goals first|refine aw ?_|refine ax ?_|exact bb|(dsimp only [eP,gu];omega)|exact ba|exact dM|(show acc.length+(bl A' (nth ae l i) lv).1.length<=1048576;omega)|skip
  ·have e:fj A' lv l []=none:=by rw [<-hs,cP (cF w1),KE (s:=A') (lv:=lv) (p:=nth ae l i) w4]
   refine⟨[1040],[],_,_,_,ζ,aC,(),aa,?_,?_,ζ⟩
   ·(show _=mP A' B');unfold mP;first|(rw [<-hr,ym oC e];rfl)|rfl
   ·(show _=pG A' B');unfold pG;first|(rw [<-hr,ym oC e];rfl)|rfl
  ·refine⟨(i+1,acc++(bl A' (nth ae l i) lv).1),[(1021,1043)],?_,?_,?_⟩
   rotate_right
   ·exact bY
   ·exact⟨cF w1,by show List.length (_++_)=_;rw [ZA0];show acc.length+_=4*(i+1);rw [(gU A' (nth ae l i) lv).2 (cr w5)];omega,by rw [<-hs,cP (cF w1),KD (s:=A') (lv:=lv) (p:=nth ae l i) w5]⟩
   ·show l.length-(i+1)<l.length-i;have:=cF w1;omega
  ·have wZ:¬i<l.length:=by have:=aD (p:=(i:Int)<(l.length:Int)) w6;omega
   have e:fj A' lv l []=some acc:=by rw [<-hs,ZB3 (by omega)];rfl
   have hl2:=ud e
   refine⟨(lv-1,acc,g),[(1014,1021)],?_,?_,?_⟩
   rotate_right
   ·exact bY
   ·refine⟨by show lv-1<=2;omega,⟨?_,λh=>?_,λh=>?_⟩,by show lv-1<(g:Int);omega,by rw [<-hr,tH oC e]⟩
    ·show acc.length<=16;rw [hl2];show 0+4*l.length<=16;omega
    ·have h:1<=lv-1:=h
     have:=Q6.2.2 (by omega)
     show acc.length<=4;rw [hl2];show 0+4*l.length<=4;omega
    ·have h:2<=lv-1:=h
     omega
   ·show (lv-1).toNat<lv.toNat;omega
 ·have e:bh A' B'=(l,true):=by
   rw [<-hr]
   cases f with
   |zero=>rfl
   |succ g=>exact rV w2
  refine⟨[1014],[],_,_,_,ζ,aC,(),aa,?_,?_,ζ⟩
  ·(show _=mP A' B');unfold mP;first|(rw [e];rfl)|rfl
  ·(show _=pG A' B');unfold pG;first|(rw [e];rfl)|rfl
end GL
namespace GL
def MQ (s:ByteArray):bc (bC s).1=true:=by
 have h0:bc ch=true:=by decide
 unfold bC
 cases decide (s=⟨#[45]⟩) with
 |true=>exact h0
 |false=>
  cases decide (((bz s 46).length:Int)≠5) with
  |true=>exact h0
  |false=>
   show bc (sO (bz s 46)).1=true
   unfold sO
   cases mz (bz s 46) [] with
   |none=>exact h0
   |some n=>
    show bc (ru n).1=true
    unfold ru
    cases hc: !(bc (mX n))||au (mX n) with
    |true=>exact h0
    |false=>
     simp only [ZD5] at hc
     exact cr hc.1
def aeV:∀{l:List ByteArray}{out o:List Pt}{sm m:Bool},pS l out sm=some (o,m)->(∀p∈out,bc p=true)->∀p∈o,bc p=true
 |[],out,o,sm,m,h,ho=>by cases h;exact ho
 |t::l,out,o,sm,m,h,ho=>by
  unfold pS at h
  cases hb:(bC t).2 with
  |true=>
   rw [hb,cond_true] at h
   refine aeV h λp hp=>?_
   rcases ZB5.1 hp with hp |hp
   ·exact ho p hp
   ·simp only [ZB7,ZF6,or_false] at hp
    subst hp;exact MQ t
  |false=>rw [hb] at h;cases h
def adf (s:ByteArray):∀p∈(bw s).1,bc p=true:=by
 unfold bw
 cases hf:pS (bz s 44) [] false with
 |none=>intro p hp;cases hp
 |some r=>
  obtain⟨o,sm⟩:=r
  have:=aeV hf (λp hp=>by cases hp)
  show∀p∈(nA o sm).1,_
  unfold nA
  cases decide ((o.length:Int)≠4)|| !sm with
  |true=>intro p hp;cases hp
  |false=>exact this
def zN (n:Nat):∀p∈cL n,bc p=true:=by
 intro p hp
 rw [(ZE4.1 hp).2];decide
def qP (s:ay) (p:Pt) (lv:Int):∀q∈(bl s p lv).1,bc q=true:=by
 have h0:∀q∈([]:List Pt),bc q=true:=λq h=>by cases h
 unfold bl
 cases au p with
 |true=>exact zN 4
 |false=>
  cases !(bc p)||(decide (p.2.2.2.2≠lv)||decide (p.2.1>s.cz)) with
  |true=>exact h0
  |false=>
   cases !(bB s p).2 with
   |true=>exact h0
   |false=>
    show∀q∈(qj p (bw (bB s p).1)).1,bc q=true
    unfold qj
    cases (bw (bB s p).1).1.any (late p) with
    |true=>exact h0
    |false=>exact adf _
def X1 {s:ay}{lv:Int}:∀{l acc n:List Pt},fj s lv l acc=some n->(∀q∈acc,bc q=true)->∀q∈n,bc q=true
 |[],acc,n,h,ha=>by cases h;exact ha
 |p::l,acc,n,h,ha=>by
  unfold fj at h
  cases hb:(bl s p lv).2 with
  |true=>
   rw [hb,cond_true] at h
   refine X1 h λq hq=>?_
   rcases ZB5.1 hq with hq |hq
   ·exact ha q hq
   ·exact qP s p lv q hq
  |false=>rw [hb] at h;cases h
def aer {s:ay}:∀{f:Nat}{lv:Int}{l:List Pt},(∀q∈l,bc q=true)->∀q∈(wa s f lv l).1,bc q=true
 |0,lv,l,h=>h
 |f+1,lv,l,h=>by
  unfold wa
  cases decide (lv>0) with
  |false=>exact h
  |true=>
   simp only [cond_true]
   cases hs:fj s lv l [] with
   |none=>intro q hq;cases hq
   |some n=>exact aer (X1 hs (λq hq=>by cases hq))
def aag {s:ay}:∀{f:Nat}{lv:Int}{l:List Pt},lv<=2->anP lv l.length->(wa s f lv l).1.length<=16
 |0,lv,l,h,hf=>hf.1
 |f+1,lv,l,h,hf=>by
  unfold wa
  cases hc:decide (lv>0) with
  |false=>exact hf.1
  |true=>
   have h1:lv>0:=aF hc
   simp only [cond_true]
   cases hs:fj s lv l [] with
   |none=>exact ZA7 _
   |some n=>
    have hl:n.length=0+4*l.length:=ud hs
    have h4:=hf.2.1 (by omega)
    refine aag (by omega) ⟨by omega,λh2=>?_,λh2=>by omega⟩
    have:=hf.2.2 (by omega)
    omega
structure bf.rd (t:bf):Prop where
 dep:t.depth<=2
 ok:bc t.root=true
def sZ {s:ay}{t:bf}(h:t.rd):(bh s t).1.length<=16:=
 aag h.dep ⟨by show 1<=16;omega,λ_=>by show 1<=4;omega,λ_=>ZB0 _⟩
def wb {s:ay}{t:bf}(h:t.rd):∀q∈(bh s t).1,bc q=true:=
 aer λq hq=>by
  simp only [ZB7,ZF6,or_false] at hq
  subst hq;exact h.ok
def aH (s:ay) (t:bf):List Pt:=(bh s t).1++cL ((16:Int)-(bh s t).1.length).toNat
def ic {s:ay}{t:bf}(h:t.rd):(aH s t).length=16:=by
 have:=sZ (s:=s) h
 rw [aH,ZA0,cL,ZF9];omega
def mL {s:ay}{t:bf}(h:t.rd):∀q∈aH s t,bc q=true:=by
 intro q hq
 rcases ZB5.1 hq with hq |hq
 ·exact wb h q hq
 ·exact zN _ q hq
def qd {l:List Pt}(h:∀q∈l,bc q=true) (k:Nat):bc (nth ae l k)=true:=by
 by_cases hk:k<l.length
 ·exact h _ (bS (ek:=ae) hk)
 ·unfold nth;rw [ZE1 (by omega)];decide
def pI {p:Pt}(h:bc p=true):0<=p.1/\p.1<64:=by
 have:=px h;omega
def gI (S:ay) (t:bf):Prop:=S.rd/\t.rd
def A6 (S:ay) (t:bf):AV:=.s (.xs 0 5 0 (aH S t).length)
def G9 (S:ay) (t:bf):List AV:=[.rs ae (aH S t)]
def fa:cu where
 A:=[.a vj,.a [.int,.int,.int,.int,.int,.int,.int]]
 B:=[]
 pre:=λx b=>gI (x.1) (x.2)
 r:=λx b _=>A6 (x.1) (x.2)
 o:=λx b _=>G9 (x.1) (x.2)
 nf:=1
def nr:Has Tryz.prog 49 fa:=by
 refine Has.fP zT zF zF (l:=[(88,mc),(89,kV)]) ⟨B5,zI,aa⟩ Tryz.func49 ?_
 rintro⟨⟨(aj:List ByteArray),(ak:List Int),(an:List Int),(ao:Int),(ah:List Pt),(aq:Int),(ai:List Pt),(ar:Bool)⟩,⟨(t1:Int),(t2:Int),(t3:Int),(t4:Int),(t5:Int),(t6:Int),(t7:Int)⟩⟩ _ (hp:gI (aj,ak,an,ao,ah,aq,ai,ar) (t1,t2,t3,t4,t5,t6,t7))
 show vc _ _ _ _ (entry [.a [.vz ab aj,.vz ag ak,.vz ag an,.int ao,.vz ae ah,.int aq,.vz ae ai,.q ar],.a [.int t1,.int t2,.int t3,.int t4,.int t5,.int t6,.int t7]] []) _
 obtain⟨dM,qg⟩:=hp
 have dM:ay.rd (aj,ak,an,ao,ah,aq,ai,ar):=dM
 have qg:bf.rd (t1,t2,t3,t4,t5,t6,t7):=qg
 have hl:=sZ (s:=(aj,ak,an,ao,ah,aq,ai,ar)) qg
 refine⟨⟨⟨tv9,tv8,aa⟩,?_,?_⟩,λx1 w2=>⟨aa,⟨⟨?_,?_⟩,?_,?_⟩,⟨?_,?_⟩,⟨tv2,?_,?_⟩,λx3 w4=>⟨⟨⟨?_,?_⟩,?_,?_⟩,?_⟩⟩⟩
 all_goals first|refine aw ?_|refine ax ?_|exact bb|(dsimp only [mc,na,kV,mu];omega)|exact ba|exact dM|exact qg.dep|(show 0+(bh (aj,ak,an,ao,ah,aq,ai,ar) (t1,t2,t3,t4,t5,t6,t7)).1.length<=1048576;omega)|(show ((bh (aj,ak,an,ao,ah,aq,ai,ar) (t1,t2,t3,t4,t5,t6,t7)).1).length+(cL ((16:Int)-((bh (aj,ak,an,ao,ah,aq,ai,ar) (t1,t2,t3,t4,t5,t6,t7)).1.length:Int)).toNat).length<=1048576;rw [cL,ZF9];omega)|skip
 refine⟨[1020],[],_,_,_,ζ,aC,(),aa,?_,?_,ζ⟩
 ·(show _=A6 (aj,ak,an,ao,ah,aq,ai,ar) (t1,t2,t3,t4,t5,t6,t7));unfold A6;first|(rw [aH,ZA0];rfl)|(rw [aH];rfl)|rfl
 ·(show _=G9 (aj,ak,an,ao,ah,aq,ai,ar) (t1,t2,t3,t4,t5,t6,t7));unfold G9;first|(rw [aH,ZA0];rfl)|(rw [aH];rfl)|rfl
def getM (s:ay) (t:bf) (k:Nat):ByteArray:=(bB s (nth ae (aH s t) k)).1
def G3 (S:ay) (t:bf) (k:Int):Prop:=S.rd/\t.rd/\0<=k/\k<16
def F9 (S:ay) (t:bf) (k:Int):AV:=.str (getM S t k.toNat)
def ah7 (S:ay) (t:bf) (k:Int):List AV:=[]
def WZ:cu where
 A:=[.a vj,.a [.int,.int,.int,.int,.int,.int,.int],.s .int]
 B:=[]
 pre:=λx b=>G3 (x.1) (x.2.1) (x.2.2)
 r:=λx b _=>F9 (x.1) (x.2.1) (x.2.2)
 o:=λx b _=>ah7 (x.1) (x.2.1) (x.2.2)
def alq:Has Tryz.prog 184 WZ:=by
 refine Has.fP zT zF zF (l:=[(49,fa),(50,fb)]) ⟨nr,ns,aa⟩ Tryz.func184 ?_
 rintro⟨⟨(aj:List ByteArray),(ak:List Int),(an:List Int),(ao:Int),(ah:List Pt),(aq:Int),(ai:List Pt),(ar:Bool)⟩,⟨(t1:Int),(t2:Int),(t3:Int),(t4:Int),(t5:Int),(t6:Int),(t7:Int)⟩,(k:Int)⟩ _ (hp:G3 (aj,ak,an,ao,ah,aq,ai,ar) (t1,t2,t3,t4,t5,t6,t7) k)
 show vc _ _ _ _ (entry [.a [.vz ab aj,.vz ag ak,.vz ag an,.int ao,.vz ae ah,.int aq,.vz ae ai,.q ar],.a [.int t1,.int t2,.int t3,.int t4,.int t5,.int t6,.int t7],.int k] []) _
 let A':=(aj,ak,an,ao,ah,aq,ai,ar)
 let B':=(t1,t2,t3,t4,t5,t6,t7)
 obtain⟨dM,qg,h1,h2⟩:=hp
 have dM:ay.rd A':=dM
 have qg:bf.rd B':=qg
 have hl:=ic (s:=A') qg
 have ha:=pI (qd (mL (s:=A') qg) k.toNat)
 have hr:aj.length=64:=dM.len
 refine⟨⟨⟨tv9,tv8,aa⟩,?_,?_⟩,λx1 w2=>⟨[.s 3,.b 1003],Sq14,ζ,Sq7,Sq15,ζ,Sq2,Sq16,ζ,[.s 15,.s 16],Sq17,ζ,⟨?_,?_⟩,[.s 17,.b 130000],Sq18,ζ,?_,[.s 14,.s 18],Sq19,ζ,⟨⟨tv9,tv6,aa⟩,λx3 w4=>?_,?_,?_⟩,?_,λx5 w6=>⟨Sq19,Sq13,ζ,Sq13,Sq20,ζ,Sq13,Sq21,ζ,Sq20,Sq8,ζ,Sq21,Sq9,ζ,?_⟩⟩⟩
 all_goals first|refine aw ?_|refine ax ?_|exact bb|(dsimp only [fa,gI,fb,gJ];omega)|exact ba|exact dM|exact qg|exact dM.sz _ (by assumption)|exact ha.1|(show _<(aj.length:Int);rw [hr];exact ha.2)|(show k<((aH A' B').length:Int);omega)|(show k.toNat<(aH A' B').length;omega)|skip
 refine⟨[],[],_,_,_,ζ,aC,(),aa,?_,?_,ζ⟩
 ·(show _=F9 A' B' k);unfold F9;first|rfl
 ·rfl
def tu (s:ay) (l:List Pt):List ByteArray:=l.map λp=>(bB s p).1
def aE (s:ay) (t:bf):List ByteArray:=tu s ((aH s t).take t.many.toNat)
def LO {l:List Pt}{i:Nat}(h:i<l.length):l.take (i+1)=l.take i++[nth ae l i]:=by
 have h1:=qe (ek:=ae) h
 rw [List.take_add_one,h1];rfl
def dL (S:ay) (t:bf):Prop:=S.rd/\t.rd/\0<=t.many/\t.many<=16
def xC (S:ay) (t:bf):AV:=.s (.xs 0 1 0 (aE S t).length)
def BU (S:ay) (t:bf):List AV:=[.rs ab (aE S t)]
def cD:cu where
 A:=[.a vj,.a [.int,.int,.int,.int,.int,.int,.int]]
 B:=[]
 pre:=λx b=>dL (x.1) (x.2)
 r:=λx b _=>xC (x.1) (x.2)
 o:=λx b _=>BU (x.1) (x.2)
 nf:=1
def gb:Has Tryz.prog 33 cD:=by
 refine Has.fP zT zF zF (l:=[(49,fa),(50,fb)]) ⟨nr,ns,aa⟩ Tryz.func33 ?_
 rintro⟨⟨(aj:List ByteArray),(ak:List Int),(an:List Int),(ao:Int),(ah:List Pt),(aq:Int),(ai:List Pt),(ar:Bool)⟩,⟨(t1:Int),(t2:Int),(t3:Int),(t4:Int),(t5:Int),(t6:Int),(t7:Int)⟩⟩ _ (hp:dL (aj,ak,an,ao,ah,aq,ai,ar) (t1,t2,t3,t4,t5,t6,t7))
 show vc _ _ _ _ (entry [.a [.vz ab aj,.vz ag ak,.vz ag an,.int ao,.vz ae ah,.int aq,.vz ae ai,.q ar],.a [.int t1,.int t2,.int t3,.int t4,.int t5,.int t6,.int t7]] []) _
 let A':=(aj,ak,an,ao,ah,aq,ai,ar)
 let B':=(t1,t2,t3,t4,t5,t6,t7)
 obtain⟨dM,qg,(h0:0<=t7),(h1:t7<=16)⟩:=hp
 have dM:ay.rd A':=dM
 have qg:bf.rd B':=qg
 have hl:=ic (s:=A') qg
 have hr:aj.length=64:=dM.len
 refine⟨aa,⟨⟨tv9,tv8,aa⟩,?_,?_⟩,λx1 w2=>?_⟩
 all_goals first|refine aw ?_|refine ax ?_|exact bb|(dsimp only [fa,gI,fb,gJ];omega)|exact ba|exact dM|exact qg|skip
 refine df (l:=[(49,fa),(50,fb)]) (ex:=zT) (wr:=zF) (pt:=zF) ⟨nr,ns,aa⟩ [.s 2,.b 1002,.s 3,.b 1003,.s 6,.b 140000] (λy:Nat×List ByteArray=>[(.s 5,.s (.xs 1010 1 0 y.2.length)),(.s 7,.int y.1),(.b 1010,.rs ab y.2)]) (λy=>(y.1:Int)<=t7/\y.2.length=y.1/\y.2=tu A' ((aH A' B').take y.1)) (λy=>t7.toNat-y.1) (0,[]) [] ⟨h0,rfl,rfl⟩ dP ?_
 rintro⟨i,out⟩ ⟨(hi:(i:Int)<=t7),(hlo:out.length=i),(he:out=tu A' ((aH A' B').take i))⟩
 have ha:=pI (qd (mL (s:=A') qg) i)
 have bR:decide ((i:Int)<t7)=true->i<(aH A' B').length:=λh=>by have:=aF h;omega
 refine⟨λw1=>⟨[.s 2,.b 1002],Sq21,ζ,Sq6,Sq22,ζ,Sq7,Sq23,ζ,[.s 22,.s 23],Sq24,ζ,⟨?_,?_⟩,[.s 24,.b 140000],Sq25,ζ,?_,[.s 21,.s 25],Sq26,ζ,⟨⟨tv9,tv6,aa⟩,λx2 w3=>?_,?_,?_⟩,?_,λx4 w5=>⟨Sq26,Sq20,ζ,Sq20,Sq27,ζ,Sq20,Sq28,ζ,Sq27,Sq8,ζ,Sq28,Sq9,ζ,aa,⟨⟨?_,?_⟩,?_,?_⟩,⟨?_,?_⟩,?_⟩⟩,λw6=>?_⟩
 all_goals first|refine aw ?_|refine ax ?_|exact bb|(dsimp only [fa,gI,fb,gJ];omega)|exact ba|exact dM|exact qg|exact dM.sz _ (by assumption)|exact ha.1|(show _<(aj.length:Int);rw [hr];exact ha.2)|exact bR (by assumption)|(show (i:Int)<((aH A' B').length:Int);have:=bR w1;omega)|skip
 ·have e:tu A' ((aH A' B').take (i+1))=out++[(bB A' (nth ae (aH A' B') i)).1]:=by
   rw [LO (bR w1),tu,List.map_append,<-tu,<-he];rfl
  refine⟨(i+1,out++[(bB A' (nth ae (aH A' B') i)).1]),[(1010,1032)],?_,?_,?_⟩
  rotate_right
  ·exact bY
  ·exact⟨by have:=aF w1;show ((i+1:Nat):Int)<=t7;omega,by show List.length (_++_)=_;rw [ZA0,hlo];rfl,e.symm⟩
  ·show t7.toNat-(i+1)<t7.toNat-i;have:=aF (p:=(i:Int)<t7) w1;omega
 ·have hi2:i=t7.toNat:=by have:=aD (p:=(i:Int)<t7) (by assumption);omega
  have e:aE A' B'=out:=by rw [aE,he,hi2]
  refine⟨[1010],[],_,_,_,ζ,aC,(),aa,?_,?_,ζ⟩
  ·(show _=xC A' B');unfold xC;first|(rw [e];rfl)|rfl
  ·(show _=BU A' B');unfold BU;first|(rw [e];rfl)|rfl
end GL
namespace GL
def ql (l:List Pt):Bool:= !(l.any λp=> !(au p))
def vH (l:List Pt):Prop:=l.length<=1000000
def q9 (l:List Pt):AV:=.q (ql l)
def afT (l:List Pt):List AV:=[]
def PT:cu where
 A:=[.s (.vz ae)]
 B:=[]
 pre:=λx b=>vH x
 r:=λx b _=>q9 x
 o:=λx b _=>afT x
def aiY:Has Tryz.prog 137 PT:=by
 refine Has.fP zT zF zF (l:=[(62,cN)]) ⟨cQ,aa⟩ Tryz.func137 ?_
 rintro (l:List Pt) _ (hp:vH l)
 show vc _ _ _ _ (entry [.s (.vz ae l)] []) _
 unfold vH at hp
 refine df (l:=[(62,cN)]) (ex:=zT) (wr:=zF) (pt:=zF) ⟨cQ,aa⟩ [.s 0] (λi:Nat=>[(.s 3,.int i)]) (λi=>i<=l.length/\(l.drop i).any (λp=> !(au p))=l.any (λp=> !(au p))) (λi=>l.length-i) 0 [] ⟨ZA7 _,rfl⟩ dP ?_
 rintro i ⟨hi,hr⟩
 have cF:decide ((i:Int)<(l.length:Int))=true->i<l.length:=λh=>by have:=aF h;omega
 have lZ:decide ((i:Int)<(l.length:Int))=false->¬i<l.length:=λh=>by have:=aD h;omega
 refine⟨λw1=>⟨⟨?_,?_⟩,⟨⟨tv6,aa⟩,aa⟩,λx2 w3=>⟨λw4=>?_,λw5=>⟨⟨?_,?_⟩,?_⟩⟩⟩,λw6=>?_⟩
 all_goals first|refine aw ?_|refine ax ?_|exact bb|exact ba|skip
 ·have e:ql l=false:=by unfold ql;rw [adB (cF w1) hr w4];rfl
  refine⟨[],[],_,_,_,ζ,aC,(),aa,?_,?_,ζ⟩
  ·(show _=q9 l);unfold q9;first|(rw [e];rfl)|rfl
  ·rfl
 ·refine⟨(i+1),[],?_,?_,?_⟩
  rotate_right
  ·exact bY
  ·exact⟨cF w1,akM (cF w1) hr w5⟩
  ·show l.length-(i+1)<l.length-i;have:=cF w1;omega
 ·have e:ql l=true:=by unfold ql;rw [adC (lZ w6) hr];rfl
  refine⟨[],[],_,_,_,ζ,aC,(),aa,?_,?_,ζ⟩
  ·(show _=q9 l);unfold q9;first|(rw [e];rfl)|rfl
  ·rfl
def nR (s:ay) (many i:Int) (p:Pt):Bool:= !(bB s p).2||(decide (p.2.2.2.2≠0)||(decide (p.2.1>s.cz)||decide (i>=many)))
def iY (s:ay) (many:Int):Int->List Pt->Bool
 |_,[]=>true
 |i,p::l=>bif au p then iY s many (i+1) l else bif nR s many i p then false else iY s many (i+1) l
def ki (t:bf):Bool:= !(gC t.many 0 16)||(decide (t.depth≠bo t.many)|| !(bc t.root))
def iX (s:ay) (t:bf):Bool:=bif ki t then false else bif !(bh s t).2 then false else iY s t.many 0 (bh s t).1
def I4 {s:ay}{t:bf}(h:ki t=true):iX s t=false:=by unfold iX;rw [h];rfl
def R0 {s:ay}{t:bf}(h:ki t=false) (h2:(!(bh s t).2)=true):iX s t=false:=by unfold iX;rw [h,h2];rfl
def RZ {s:ay}{t:bf}(h:ki t=false) (h2:(!(bh s t).2)=false):iX s t=iY s t.many 0 (bh s t).1:=by unfold iX;rw [h,h2];rfl
def ael {t:bf}(h:(!(gC t.many 0 16))=true):ki t=true:=by unfold ki;rw [h];rfl
def aek {t:bf}(h:decide (t.depth≠bo t.many)=true):ki t=true:=by unfold ki;rw [h,Bool.true_or,ZC7]
def aej {t:bf}(h:(!(bc t.root))=true):ki t=true:=by unfold ki;rw [h,ZC7,ZC7]
def D2 {t:bf}(h1:(!(gC t.many 0 16))=false) (h2:decide (t.depth≠bo t.many)=false) (h3:(!(bc t.root))=false):ki t=false:=by unfold ki;rw [h1,h2,h3];rfl
def ND {t:bf}(h:ki t=false):t.rd:=by
 unfold ki at h
 simp only [ZD5,decide_eq_false_iff_not,ZE6] at h
 obtain⟨h1,h2,h3⟩:=h
 exact⟨by rw [h2];exact (oI _).2,cr h3⟩
def KL {s:ay}{many i:Int}{p:Pt}{l:List Pt}(h:au p=true):iY s many i (p::l)=iY s many (i+1) l:=by rw [iY,h];rfl
def zB {s:ay}{many i:Int}{p:Pt}{l:List Pt}(h:au p=false) (hb:nR s many i p=true):iY s many i (p::l)=false:=by rw [iY,h,hb];rfl
def VQ {s:ay}{many i:Int}{p:Pt}{l:List Pt}(h:au p=false) (hb:nR s many i p=false):iY s many i (p::l)=iY s many (i+1) l:=by rw [iY,h,hb];rfl
def aew {s:ay}{many i:Int}{p:Pt}(h:(!(bB s p).2)=true):nR s many i p=true:=by unfold nR;rw [h];rfl
def aev {s:ay}{many i:Int}{p:Pt}(h:decide (p.2.2.2.2≠0)=true):nR s many i p=true:=by unfold nR;rw [h,Bool.true_or,ZC7]
def aeu {s:ay}{many i:Int}{p:Pt}(h:decide (p.2.1>s.cz)=true):nR s many i p=true:=by unfold nR;rw [h,Bool.true_or,ZC7,ZC7]
def aet {s:ay}{many i:Int}{p:Pt}(h:decide (i>=many)=true):nR s many i p=true:=by unfold nR;rw [h,ZC7,ZC7,ZC7]
def VR {s:ay}{many i:Int}{p:Pt}(h1:(!(bB s p).2)=false) (h2:decide (p.2.2.2.2≠0)=false) (h3:decide (p.2.1>s.cz)=false) (h4:decide (i>=many)=false):nR s many i p=false:=by unfold nR;rw [h1,h2,h3,h4];rfl
def xS (S:ay) (t:bf):Prop:=S.rd
def eW (S:ay) (t:bf):AV:=.q (iX S t)
def ak2 (S:ay) (t:bf):List AV:=[]
def CQ:cu where
 A:=[.a vj,.a [.int,.int,.int,.int,.int,.int,.int]]
 B:=[]
 pre:=λx b=>xS (x.1) (x.2)
 r:=λx b _=>eW (x.1) (x.2)
 o:=λx b _=>ak2 (x.1) (x.2)
def acL:Has Tryz.prog 63 CQ:=by
 refine Has.fP zT zF zF (l:=[(60,jc),(93,ee),(61,dD),(88,mc),(62,cN),(50,fb)]) ⟨jr,kO,js,B5,cQ,ns,aa⟩ Tryz.func63 ?_
 rintro⟨⟨(aj:List ByteArray),(ak:List Int),(an:List Int),(ao:Int),(ah:List Pt),(aq:Int),(ai:List Pt),(ar:Bool)⟩,⟨(t1:Int),(t2:Int),(t3:Int),(t4:Int),(t5:Int),(t6:Int),(t7:Int)⟩⟩ _ (hp:xS (aj,ak,an,ao,ah,aq,ai,ar) (t1,t2,t3,t4,t5,t6,t7))
 show vc _ _ _ _ (entry [.a [.vz ab aj,.vz ag ak,.vz ag an,.int ao,.vz ae ah,.int aq,.vz ae ai,.q ar],.a [.int t1,.int t2,.int t3,.int t4,.int t5,.int t6,.int t7]] []) _
 let A':=(aj,ak,an,ao,ah,aq,ai,ar)
 let B':=(t1,t2,t3,t4,t5,t6,t7)
 have dM:ay.rd A':=hp
 have aqP:aj.length=64:=dM.len
 refine⟨Sq3,Sq11,ζ,[.s 11,.b 1003],Sq12,ζ,Sq12,Sq13,ζ,⟨tv4,aa⟩,?_,λx1 w2=>⟨Sq13,Sq14,ζ,Sq14,Sq15,ζ,aa,λw3=>⟨Sq15,Sq16,ζ,Sq15,Sq17,ζ,Sq15,Sq18,ζ,Sq15,Sq19,ζ,Sq15,Sq20,ζ,Sq15,Sq21,ζ,[.s 15,.s 21],Sq22,ζ,Sq22,Sq23,ζ,Sq23,Sq24,ζ,Sq23,Sq25,ζ,Sq23,Sq26,ζ,Sq23,Sq27,ζ,[.s 23,.s 27],Sq28,ζ,?_⟩,λw4=>⟨[.s 15,.s 3],Sq16,ζ,[.s 15,.s 16,.b 1003],Sq17,ζ,[.s 15,.s 3],Sq18,ζ,[.s 15,.s 18,.b 1003],Sq19,ζ,[.s 15,.s 19],Sq20,ζ,⟨tv2,aa⟩,?_,λx5 w6=>⟨[.s 15,.s 17,.s 20],Sq21,ζ,[.s 15,.s 21],Sq22,ζ,Sq22,Sq23,ζ,aa,λw7=>⟨Sq23,Sq24,ζ,Sq23,Sq25,ζ,Sq23,Sq26,ζ,Sq23,Sq27,ζ,[.s 23,.s 27],Sq28,ζ,?_⟩,λw8=>⟨[.s 23,.s 3],Sq24,ζ,[.s 23,.s 24,.b 1003],Sq25,ζ,[.s 23,.s 25],Sq26,ζ,⟨⟨tv6,aa⟩,aa⟩,?_,λx9 dB=>⟨[.s 23,.s 26],Sq27,ζ,[.s 23,.s 27],Sq28,ζ,λiP=>?_,λdW=>⟨⟨⟨tv9,tv8,aa⟩,?_,?_⟩,λtY gY=>⟨λnG=>?_,λkC=>?_⟩⟩⟩⟩⟩⟩⟩⟩
 all_goals first|refine aw ?_|refine ax ?_|exact bb|(dsimp only [ee,fS,dD,eO,mc,na,fb,gJ];omega)|exact ba|exact dM|exact (ND (t:=B') (D2 w4 w8 dW)).dep|skip
 ·refine⟨[],[],_,_,_,ζ,aC,(),aa,?_,?_,ζ⟩
  ·(show _=eW A' B');unfold eW;first|(rw [I4 (s:=A') (t:=B') (ael w3)];rfl)|rfl
  ·rfl
 ·refine⟨[],[],_,_,_,ζ,aC,(),aa,?_,?_,ζ⟩
  ·(show _=eW A' B');unfold eW;first|(rw [I4 (s:=A') (t:=B') (aek w7)];rfl)|rfl
  ·rfl
 ·refine⟨[],[],_,_,_,ζ,aC,(),aa,?_,?_,ζ⟩
  ·(show _=eW A' B');unfold eW;first|(rw [I4 (s:=A') (t:=B') (aej iP)];rfl)|rfl
  ·rfl
 ·refine⟨[],[],_,_,_,ζ,aC,(),aa,?_,?_,ζ⟩
  ·(show _=eW A' B');unfold eW;first|(rw [R0 (s:=A') (t:=B') (D2 w4 w8 dW) nG];rfl)|rfl
  ·rfl
 ·have hB:=D2 (t:=B') w4 w8 dW
  have hM:=RZ (s:=A') (t:=B') hB kC
  have qg:bf.rd B':=ND hB
  have hl:=sZ (s:=A') qg
  have cn:=wb (s:=A') qg
  refine df (l:=[(60,jc),(93,ee),(61,dD),(88,mc),(62,cN),(50,fb)]) (ex:=zT) (wr:=zF) (pt:=zF) ⟨jr,kO,js,B5,cQ,ns,aa⟩ [.s 2,.b 1002,.s 3,.b 1003,.s 5,.b 330000] (λi:Nat=>[(.s 7,.int i)]) (λi=>i<=(bh A' B').1.length/\iY A' t7 i ((bh A' B').1.drop i)=iY A' t7 0 (bh A' B').1) (λi=>(bh A' B').1.length-i) 0 [] ⟨ZA7 _,rfl⟩ dP ?_
  rintro i ⟨hi,hr⟩
  have cF:decide ((i:Int)<((bh A' B').1.length:Int))=true->i<(bh A' B').1.length:=λh=>by have:=aF h;omega
  have cP:i<(bh A' B').1.length->(bh A' B').1.drop i=nth ae (bh A' B').1 i::(bh A' B').1.drop (i+1):=λh=>bJ (ek:=ae) h
  have ha:=pI (qd cn i)
  refine⟨λw1=>⟨⟨?_,?_⟩,?_,⟨⟨tv6,aa⟩,aa⟩,λx2 w3=>⟨λw4=>⟨⟨?_,?_⟩,?_⟩,λw5=>⟨⟨⟨tv9,tv6,aa⟩,λx6 w7=>?_,?_,?_⟩,λx8 w9=>⟨aa,λdB=>?_,λiP=>⟨aa,λdW=>?_,λiL=>⟨aa,λgY=>?_,λnG=>⟨λkC=>?_,λxh=>⟨⟨?_,?_⟩,?_⟩⟩⟩⟩⟩⟩⟩⟩,λqU=>?_⟩
  all_goals first|refine aw ?_|refine ax ?_|exact bb|(dsimp only [ee,fS,dD,eO,mc,na,fb,gJ];omega)|exact ba|exact dM|exact cF w1|exact aF w1|exact dM.sz _ (by assumption)|exact ha.1|(show _<(aj.length:Int);rw [aqP];exact ha.2)|skip
  ·refine⟨(i+1),[],?_,?_,?_⟩
   rotate_right
   ·exact bY
   ·exact⟨cF w1,by rw [<-hr,cP (cF w1),KL (s:=A') (p:=(nth ae (bh A' B').1 i)) w4];rfl⟩
   ·show (bh A' B').1.length-(i+1)<(bh A' B').1.length-i;have:=cF w1;omega
  ·refine⟨[],[],_,_,_,ζ,aC,(),aa,?_,?_,ζ⟩
   ·(show _=eW A' B');unfold eW;first|(rw [hM,<-hr,cP (cF w1),zB (s:=A') (p:=(nth ae (bh A' B').1 i)) w5 (aew (s:=A') (p:=(nth ae (bh A' B').1 i)) dB)];rfl)|rfl
   ·rfl
  ·refine⟨[],[],_,_,_,ζ,aC,(),aa,?_,?_,ζ⟩
   ·(show _=eW A' B');unfold eW;first|(rw [hM,<-hr,cP (cF w1),zB (s:=A') (p:=(nth ae (bh A' B').1 i)) w5 (aev (s:=A') (p:=(nth ae (bh A' B').1 i)) dW)];rfl)|rfl
   ·rfl
  ·refine⟨[],[],_,_,_,ζ,aC,(),aa,?_,?_,ζ⟩
   ·(show _=eW A' B');unfold eW;first|(rw [hM,<-hr,cP (cF w1),zB (s:=A') (p:=(nth ae (bh A' B').1 i)) w5 (aeu (s:=A') (p:=(nth ae (bh A' B').1 i)) gY)];rfl)|rfl
   ·rfl
  ·refine⟨[],[],_,_,_,ζ,aC,(),aa,?_,?_,ζ⟩
   ·(show _=eW A' B');unfold eW;first|(rw [hM,<-hr,cP (cF w1),zB (s:=A') (p:=(nth ae (bh A' B').1 i)) w5 (aet (s:=A') (p:=(nth ae (bh A' B').1 i)) kC)];rfl)|rfl
   ·rfl
  ·refine⟨(i+1),[],?_,?_,?_⟩
   rotate_right
   ·exact bY
   ·exact⟨cF w1,by rw [<-hr,cP (cF w1),VQ (s:=A') (p:=(nth ae (bh A' B').1 i)) w5 (VR (s:=A') (p:=(nth ae (bh A' B').1 i)) iP iL nG xh)];rfl⟩
   ·show (bh A' B').1.length-(i+1)<(bh A' B').1.length-i;have:=cF w1;omega
  ·have wZ:¬i<(bh A' B').1.length:=by have:=aD (p:=(i:Int)<((bh A' B').1.length:Int)) qU;omega
   have e:iY A' t7 0 (bh A' B').1=true:=by rw [<-hr,ZB3 (by omega)];rfl
   refine⟨[],[],_,_,_,ζ,aC,(),aa,?_,?_,ζ⟩
   ·(show _=eW A' B');unfold eW;first|(rw [hM,e];rfl)|rfl
   ·rfl
end GL
namespace GL
def aaX:∀{l:List Pt}{i:Nat}{out o:ByteArray}{sm m:Bool},ja l i out sm=some (o,m)->o.size<=out.size+65*l.length
 |[],i,out,o,sm,m,h=>by cases h;exact ZB0 _
 |p::l,i,out,o,sm,m,h=>by
  unfold ja at h
  cases hb:bc p with
  |true=>
   rw [hb,cond_true] at h
   have h1:=aaX h
   have h2:=fH p
   rw [ZB4] at h1
   rw [ZA1]
   cases hd:decide ((i:Int)>0) with
   |true=>rw [hd,cond_true,ZB4,sz1] at h1;omega
   |false=>rw [hd,cond_false] at h1;omega
  |false=>rw [hb] at h;cases h
def ada (l:List Pt):(bN l).1.size<=1000:=by
 unfold bN
 cases hc:decide ((l.length:Int)≠4) with
 |true=>exact ZA7 _
 |false=>
  have h4:=aD hc
  show (tb l).1.size<=1000
  unfold tb
  cases hf:ja l 0 ⟨#[]⟩ false with
  |none=>exact ZA7 _
  |some r=>
   obtain⟨o,sm⟩:=r
   have h1:=aaX hf
   rw [sz0] at h1
   show (tc o sm).1.size<=1000
   unfold tc
   cases !sm with
   |true=>exact ZA7 _
   |false=>show o.size<=1000;omega
def gX (s:ay) (l:List Pt) (old:Pt):Bool:= !(au old)&&(iN old (bN l).1&&decide (nth ab s.rows old.1.toNat=(bN l).1))
def eU (s:ay) (l:List Pt) (lv:Int) (old:Pt):ay×Pt×Bool:=
 bif ql l then (s,ch,true) else bif gX s l old then (s,old,true) else bm s (bN l).1 lv
def WR {s:ay}{l:List Pt}{lv:Int}{old:Pt}(h:ql l=true):eU s l lv old=(s,ch,true):=by unfold eU;rw [h];rfl
def WQ {s:ay}{l:List Pt}{lv:Int}{old:Pt}(h:ql l=false) (h2:gX s l old=true):eU s l lv old=(s,old,true):=by unfold eU;rw [h,h2];rfl
def yF {s:ay}{l:List Pt}{lv:Int}{old:Pt}(h:ql l=false) (h2:gX s l old=false):eU s l lv old=bm s (bN l).1 lv:=by unfold eU;rw [h,h2];rfl
def TF {s:ay}{l:List Pt}{old:Pt}(h1:(!(au old))=true) (h2:iN old (bN l).1=true) (h3:decide (nth ab s.rows old.1.toNat=(bN l).1)=true):gX s l old=true:=by unfold gX;rw [h1,h2,h3];rfl
def TJ {s:ay}{l:List Pt}{old:Pt}(h1:(!(au old))=false):gX s l old=false:=by unfold gX;rw [h1];rfl
def TH {s:ay}{l:List Pt}{old:Pt}(h2:iN old (bN l).1=false):gX s l old=false:=by unfold gX;rw [h2,Bool.false_and,ZD7]
def TG {s:ay}{l:List Pt}{old:Pt}(h3:decide (nth ab s.rows old.1.toNat=(bN l).1)=false):gX s l old=false:=by unfold gX;rw [h3,ZD7,ZD7]
structure ay.aqy (s:ay):Prop where
 ok:s.n64
def mw (S:ay) (l:List Pt) (lv:Int) (o:Pt):Prop:=S.aqy/\l.length<=1000000/\0<=o.1/\o.1<64
def iU (S:ay) (l:List Pt) (lv:Int) (o:Pt):AV:=.t [.a (nH 0 1 2 3 4 (eU S l lv o).1),ptA (eU S l lv o).2.1,.s (.q (eU S l lv o).2.2)]
def kf (S:ay) (l:List Pt) (lv:Int) (o:Pt):List AV:=KF (eU S l lv o).1
def kW:cu where
 A:=[.a (stB 0 1 2 3 4),.s (.vz ae),.s .int,.a [.int,.int,.int,.int,.int]]
 B:=[.r ab,.r ag,.r ag,.r ae,.r ae]
 pre:=λx b=>stW x.1 b/\mw (iE x.1 b) (x.2.1) (x.2.2.1) (x.2.2.2)
 r:=λx b _=>iU (iE x.1 b) (x.2.1) (x.2.2.1) (x.2.2.2)
 o:=λx b _=>kf (iE x.1 b) (x.2.1) (x.2.2.1) (x.2.2.2)
def zJ:Has Tryz.prog 96 kW:=by
 refine Has.fP zT zF zF (l:=[(137,PT),(138,P5),(62,cN),(90,uX),(51,oK)]) ⟨aiY,ajc,cQ,SR,HS,aa⟩ Tryz.func96 ?_
 rintro⟨⟨(C7:Nat),(C6:Nat),(C5:Nat),(ao:Int),(C4:Nat),(aq:Int),(C3:Nat),(ar:Bool)⟩,(l:List Pt),(lv:Int),⟨(o1:Int),(o2:Int),(o3:Int),(o4:Int),(o5:Int)⟩⟩ ⟨(aj:List ByteArray),(ak:List Int),(an:List Int),(ah:List Pt),(ai:List Pt)⟩ ⟨⟨(gR:C7=List.length aj),(gQ:C6=List.length ak),(gP:C5=List.length an),(gO:C4=List.length ah),(gN:C3=List.length ai)⟩,(hp:mw (aj,ak,an,ao,ah,aq,ai,ar) l lv (o1,o2,o3,o4,o5))⟩
 subst gR gQ gP gO gN
 show vc _ _ _ _ (entry [.a [.xs 0 1 0 aj.length,.xs 1 1 0 ak.length,.xs 2 1 0 an.length,.int ao,.xs 3 5 0 ah.length,.int aq,.xs 4 5 0 ai.length,.q ar],.s (.vz ae l),.int lv,.a [.int o1,.int o2,.int o3,.int o4,.int o5]] [.rs ab aj,.rs ag ak,.rs ag an,.rs ae ah,.rs ae ai]) _
 let A':=(aj,ak,an,ao,ah,aq,ai,ar)
 let B':=(o1,o2,o3,o4,o5)
 obtain⟨⟨⟨l1,l2,l3⟩⟩,h2,(h3:0<=o1),(h4:o1<64)⟩:=hp
 dsimp only [ay.rows,ay.refs,ay.last] at l1 l2 l3
 have db:=ada l
 refine⟨⟨tv2,?_⟩,λx1 w2=>⟨λw3=>?_,λw4=>⟨⟨tv2,aa⟩,λx5 w6=>⟨⟨⟨tv6,aa⟩,aa⟩,λx7 w8=>⟨aa,λw9=>⟨⟨⟨tv6,tv2⟩,?_⟩,λzd iP=>⟨aa,λdW=>⟨⟨?_,?_⟩,?_,λiL=>⟨[.s 4,.b 1004],Sq40,ζ,[.s 7,.b 1007],Sq41,ζ,[.s 8,.s 40,.b 1008],[.b 1008],ζ,[.s 9,.s 41,.b 1009],[.b 1009],ζ,[],Sq10,ζ,?_⟩,λgY=>⟨⟨⟨tv9,tv3⟩,⟨?_,?_,?_,?_,?_⟩,⟨?_,?_,?_⟩,?_⟩,λnN kC=>?_⟩⟩,λxh=>⟨⟨⟨tv9,tv3⟩,⟨?_,?_,?_,?_,?_⟩,⟨?_,?_,?_⟩,?_⟩,λsA o9=>?_⟩⟩⟩,λtl=>⟨⟨⟨tv9,tv3⟩,⟨?_,?_,?_,?_,?_⟩,⟨?_,?_,?_⟩,?_⟩,λx21 DB=>?_⟩⟩⟩⟩⟩⟩
 all_goals first|refine aw ?_|refine ax ?_|exact bb|(dsimp only [PT,vH,P5,BT,uX,pD,oK,py,iE];omega)|exact ba|(show ((bN l).1.size:Int)<=1000000000000;omega)|exact l1|exact l2|exact l3|exact h2|skip
 ·refine⟨[],[],_,_,_,ζ,aC,(),aa,?_,?_,ζ⟩
  ·(show _=iU A' l lv B');unfold iU;first|(rw [WR (s:=A') (l:=l) (lv:=lv) (old:=B') w3];rfl)|rfl
  ·(show _=kf A' l lv B');unfold kf;first|(rw [WR (s:=A') (l:=l) (lv:=lv) (old:=B') w3];rfl)|rfl
 ·refine⟨[],[],_,_,_,ζ,aC,(),aa,?_,?_,ζ⟩
  ·(show _=iU A' l lv B');unfold iU;first|(rw [WQ (s:=A') (l:=l) (lv:=lv) (old:=B') w4 (TF (s:=A') (l:=l) (old:=B') w9 dW iL)];rfl)|rfl
  ·(show _=kf A' l lv B');unfold kf;first|(rw [WQ (s:=A') (l:=l) (lv:=lv) (old:=B') w4 (TF (s:=A') (l:=l) (old:=B') w9 dW iL)];rfl)|rfl
 ·refine⟨[],[],_,_,_,ζ,aC,(),aa,?_,?_,ζ⟩
  ·(show _=iU A' l lv B');unfold iU;first|(rw [yF (s:=A') (l:=l) (lv:=lv) (old:=B') w4 (TG (s:=A') (l:=l) (old:=B') gY)];rfl)|rfl
  ·(show _=kf A' l lv B');unfold kf;first|(rw [yF (s:=A') (l:=l) (lv:=lv) (old:=B') w4 (TG (s:=A') (l:=l) (old:=B') gY)];rfl)|rfl
 ·refine⟨[],[],_,_,_,ζ,aC,(),aa,?_,?_,ζ⟩
  ·(show _=iU A' l lv B');unfold iU;first|(rw [yF (s:=A') (l:=l) (lv:=lv) (old:=B') w4 (TH (s:=A') (l:=l) (old:=B') xh)];rfl)|rfl
  ·(show _=kf A' l lv B');unfold kf;first|(rw [yF (s:=A') (l:=l) (lv:=lv) (old:=B') w4 (TH (s:=A') (l:=l) (old:=B') xh)];rfl)|rfl
 ·refine⟨[],[],_,_,_,ζ,aC,(),aa,?_,?_,ζ⟩
  ·(show _=iU A' l lv B');unfold iU;first|(rw [yF (s:=A') (l:=l) (lv:=lv) (old:=B') w4 (TJ (s:=A') (l:=l) (old:=B') tl)];rfl)|rfl
  ·(show _=kf A' l lv B');unfold kf;first|(rw [yF (s:=A') (l:=l) (lv:=lv) (old:=B') w4 (TJ (s:=A') (l:=l) (old:=B') tl)];rfl)|rfl
def bD (s:ay) (t:bf):List Pt:=
 bif decide (t.depth=0)||au t.root then [] else
 bif decide (t.depth=2) then t.root::(bl s t.root 2).1.filter (λp=> !(au p)) else [t.root]
def OT {s:ay}{t:bf}(h:decide (t.depth=0)=true):bD s t=[]:=by unfold bD;rw [h];rfl
def EJ {s:ay}{t:bf}(h:au t.root=true):bD s t=[]:=by unfold bD;rw [h,ZC7];rfl
def EI {s:ay}{t:bf}(h:decide (t.depth=0)=false) (h2:au t.root=false) (h3:decide (t.depth=2)=false):bD s t=[t.root]:=by unfold bD;rw [h,h2,h3];rfl
def OS {s:ay}{t:bf}(h:decide (t.depth=0)=false) (h2:au t.root=false) (h3:decide (t.depth=2)=true):bD s t=t.root::(bl s t.root 2).1.filter (λp=> !(au p)):=by unfold bD;rw [h,h2,h3];rfl
def ajN {l:List Pt}{f:Pt->Bool}{i:Nat}(hi:i<l.length) (h:f (nth ae l i)=true):(l.take (i+1)).filter f=(l.take i).filter f++[nth ae l i]:=by
 rw [LO hi,List.filter_append,List.filter_cons,h];rfl
def ajO {l:List Pt}{f:Pt->Bool}{i:Nat}(hi:i<l.length) (h:f (nth ae l i)=false):(l.take (i+1)).filter f=(l.take i).filter f:=by
 rw [LO hi,List.filter_append,List.filter_cons,h];simp
def jf (S:ay) (t:bf):Prop:=S.rd
def ir (S:ay) (t:bf):AV:=.s (.xs 0 5 0 (bD S t).length)
def jl (S:ay) (t:bf):List AV:=[.rs ae (bD S t)]
def gB:cu where
 A:=[.a vj,.a [.int,.int,.int,.int,.int,.int,.int]]
 B:=[]
 pre:=λx b=>jf (x.1) (x.2)
 r:=λx b _=>ir (x.1) (x.2)
 o:=λx b _=>jl (x.1) (x.2)
 nf:=1
def qI:Has Tryz.prog 94 gB:=by
 refine Has.fP zT zF zF (l:=[(62,cN),(64,eP)]) ⟨cQ,mB,aa⟩ Tryz.func94 ?_
 rintro⟨⟨(aj:List ByteArray),(ak:List Int),(an:List Int),(ao:Int),(ah:List Pt),(aq:Int),(ai:List Pt),(ar:Bool)⟩,⟨(t1:Int),(t2:Int),(t3:Int),(t4:Int),(t5:Int),(t6:Int),(t7:Int)⟩⟩ _ (hp:jf (aj,ak,an,ao,ah,aq,ai,ar) (t1,t2,t3,t4,t5,t6,t7))
 show vc _ _ _ _ (entry [.a [.vz ab aj,.vz ag ak,.vz ag an,.int ao,.vz ae ah,.int aq,.vz ae ai,.q ar],.a [.int t1,.int t2,.int t3,.int t4,.int t5,.int t6,.int t7]] []) _
 let A':=(aj,ak,an,ao,ah,aq,ai,ar)
 let B':=(t1,t2,t3,t4,t5,t6,t7)
 let C':=(t1,t2,t3,t4,t5)
 have dM:ay.rd A':=hp
 refine⟨aa,aa,λw1=>?_,λw2=>⟨⟨⟨tv6,aa⟩,aa⟩,λx3 w4=>⟨λw5=>?_,λw6=>⟨aa,⟨⟨?_,?_⟩,?_,?_⟩,λw7=>⟨⟨⟨tv9,tv6,tv2⟩,?_⟩,λx8 w9=>?_⟩,λdB=>?_⟩⟩⟩⟩
 all_goals first|refine aw ?_|refine ax ?_|exact bb|(dsimp only [eP,gu];omega)|exact ba|exact dM|skip
 ·refine⟨[1009],[],_,_,_,ζ,aC,(),aa,?_,?_,ζ⟩
  ·(show _=ir A' B');unfold ir;first|(rw [OT (s:=A') (t:=B') w1];rfl)|rfl
  ·(show _=jl A' B');unfold jl;first|(rw [OT (s:=A') (t:=B') w1];rfl)|rfl
 ·refine⟨[1009],[],_,_,_,ζ,aC,(),aa,?_,?_,ζ⟩
  ·(show _=ir A' B');unfold ir;first|(rw [EJ (s:=A') (t:=B') w5];rfl)|rfl
  ·(show _=jl A' B');unfold jl;first|(rw [EJ (s:=A') (t:=B') w5];rfl)|rfl
 ·have hB:=(gU A' C' 2).1
  have hM:=OS (s:=A') (t:=B') w2 w6 w7
  refine df (l:=[(62,cN),(64,eP)]) (ex:=zT) (wr:=zF) (pt:=zF) ⟨cQ,mB,aa⟩ [.s 6,.b 320000] (λy:Nat×List Pt=>[(.s 5,.s (.xs 1023 5 0 y.2.length)),(.s 8,.int y.1),(.b 1023,.rs ae y.2)]) (λy=>y.1<=(bl A' C' 2).1.length/\y.2.length<=y.1+1/\y.2=C'::((bl A' C' 2).1.take y.1).filter (λp=> !(au p))) (λy=>(bl A' C' 2).1.length-y.1) (0,[C']) [] ⟨ZA7 _,ZB0 _,rfl⟩ dP ?_
  rintro⟨i,out⟩ ⟨(hi:i<=(bl A' C' 2).1.length),(hlo:out.length<=i+1),(he:out=C'::((bl A' C' 2).1.take i).filter (λp=> !(au p)))⟩
  have cF:decide ((i:Int)<((bl A' C' 2).1.length:Int))=true->i<(bl A' C' 2).1.length:=λh=>by have:=aF h;omega
  refine⟨λw1=>⟨⟨?_,?_⟩,?_,⟨⟨tv6,aa⟩,aa⟩,λx2 w3=>⟨λw4=>⟨⟨?_,?_⟩,?_,aa,⟨⟨?_,?_⟩,?_,?_⟩,⟨?_,?_⟩,?_⟩,λw5=>⟨⟨?_,?_⟩,?_⟩⟩⟩,λw6=>?_⟩
  all_goals first|refine aw ?_|refine ax ?_|exact bb|(dsimp only [eP,gu];omega)|exact ba|exact cF w1|exact aF w1|(show out.length+1<=1048576;omega)|skip
  ·refine⟨(i+1,out++[nth ae (bl A' C' 2).1 i]),[(1023,1052)],?_,?_,?_⟩
   rotate_right
   ·exact bY
   ·exact⟨cF w1,by show List.length (_++_)<=_;rw [ZA0];show out.length+1<=i+1+1;omega,by show _=_::_;rw [ajN (l:=(bl A' C' 2).1) (cF w1) w4,he];rfl⟩
   ·show (bl A' C' 2).1.length-(i+1)<(bl A' C' 2).1.length-i;have:=cF w1;omega
  ·refine⟨(i+1,out),[],?_,?_,?_⟩
   rotate_right
   ·exact bY
   ·exact⟨cF w1,by show out.length<=i+1+1;omega,by show _=_::_;rw [ajO (l:=(bl A' C' 2).1) (cF w1) w5];exact he⟩
   ·show (bl A' C' 2).1.length-(i+1)<(bl A' C' 2).1.length-i;have:=cF w1;omega
  ·have wZ:¬i<(bl A' C' 2).1.length:=by have:=aD (p:=(i:Int)<((bl A' C' 2).1.length:Int)) w6;omega
   have e:bD A' B'=out:=by rw [hM,he,ZC4 (by omega)]
   refine⟨[1023],[],_,_,_,ζ,aC,(),aa,?_,?_,ζ⟩
   ·(show _=ir A' B');unfold ir;first|(rw [e];rfl)|rfl
   ·(show _=jl A' B');unfold jl;first|(rw [e];rfl)|rfl
 ·refine⟨[1023],[],_,_,_,ζ,aC,(),aa,?_,?_,ζ⟩
  ·(show _=ir A' B');unfold ir;first|(rw [EI (s:=A') (t:=B') w2 w6 dB];rfl)|rfl
  ·(show _=jl A' B');unfold jl;first|(rw [EI (s:=A') (t:=B') w2 w6 dB];rfl)|rfl
def eE (s:ay) (t:bf) (d lv:Int):List Pt:=
 bif decide (t.depth≠d) then cL 4 else bif decide (lv=d) then [t.root] else bif !(bl s t.root d).2 then cL 4 else (bl s t.root d).1
def HD {s:ay}{t:bf}{d lv:Int}(h:decide (t.depth≠d)=true):eE s t d lv=cL 4:=by unfold eE;rw [h];rfl
def NA {s:ay}{t:bf}{d lv:Int}(h:decide (t.depth≠d)=false) (h2:decide (lv=d)=true):eE s t d lv=[t.root]:=by unfold eE;rw [h,h2];rfl
def VE {s:ay}{t:bf}{d lv:Int}(h:decide (t.depth≠d)=false) (h2:decide (lv=d)=false) (h3:(!(bl s t.root d).2)=true):eE s t d lv=cL 4:=by unfold eE;rw [h,h2,h3];rfl
def M9 {s:ay}{t:bf}{d lv:Int}(h:decide (t.depth≠d)=false) (h2:decide (lv=d)=false) (h3:(!(bl s t.root d).2)=false):eE s t d lv=(bl s t.root d).1:=by unfold eE;rw [h,h2,h3];rfl
def mq (S:ay) (t:bf) (d:Int) (lv:Int):Prop:=S.rd
def kE (S:ay) (t:bf) (d:Int) (lv:Int):AV:=.s (.xs 0 5 0 (eE S t d lv).length)
def nk (S:ay) (t:bf) (d:Int) (lv:Int):List AV:=[.rs ae (eE S t d lv)]
def kT:cu where
 A:=[.a vj,.a [.int,.int,.int,.int,.int,.int,.int],.s .int,.s .int]
 B:=[]
 pre:=λx b=>mq (x.1) (x.2.1) (x.2.2.1) (x.2.2.2)
 r:=λx b _=>kE (x.1) (x.2.1) (x.2.2.1) (x.2.2.2)
 o:=λx b _=>nk (x.1) (x.2.1) (x.2.2.1) (x.2.2.2)
 nf:=1
def zG:Has Tryz.prog 95 kT:=by
 refine Has.fP zT zF zF (l:=[(89,kV),(64,eP)]) ⟨zI,mB,aa⟩ Tryz.func95 ?_
 rintro⟨⟨(aj:List ByteArray),(ak:List Int),(an:List Int),(ao:Int),(ah:List Pt),(aq:Int),(ai:List Pt),(ar:Bool)⟩,⟨(t1:Int),(t2:Int),(t3:Int),(t4:Int),(t5:Int),(t6:Int),(t7:Int)⟩,(d:Int),(lv:Int)⟩ _ (hp:mq (aj,ak,an,ao,ah,aq,ai,ar) (t1,t2,t3,t4,t5,t6,t7) d lv)
 show vc _ _ _ _ (entry [.a [.vz ab aj,.vz ag ak,.vz ag an,.int ao,.vz ae ah,.int aq,.vz ae ai,.q ar],.a [.int t1,.int t2,.int t3,.int t4,.int t5,.int t6,.int t7],.int d,.int lv] []) _
 let A':=(aj,ak,an,ao,ah,aq,ai,ar)
 let B':=(t1,t2,t3,t4,t5,t6,t7)
 have dM:ay.rd A':=hp
 refine⟨λw1=>⟨⟨tv2,?_,?_⟩,λx2 w3=>?_⟩,λw4=>⟨λw5=>⟨aa,?_⟩,λw6=>⟨⟨⟨tv9,tv6,tv2⟩,?_⟩,λx7 w8=>⟨λw9=>⟨⟨tv2,?_,?_⟩,λzd iP=>?_⟩,λdW=>?_⟩⟩⟩⟩
 all_goals first|refine aw ?_|refine ax ?_|exact bb|(dsimp only [kV,mu,eP,gu];omega)|exact ba|exact dM|skip
 ·refine⟨[160000],[],_,_,_,ζ,aC,(),aa,?_,?_,ζ⟩
  ·(show _=kE A' B' d lv);unfold kE;first|(rw [HD (s:=A') (t:=B') (d:=d) (lv:=lv) w1];rfl)|rfl
  ·(show _=nk A' B' d lv);unfold nk;first|(rw [HD (s:=A') (t:=B') (d:=d) (lv:=lv) w1];rfl)|rfl
 ·refine⟨[1021],[],_,_,_,ζ,aC,(),aa,?_,?_,ζ⟩
  ·(show _=kE A' B' d lv);unfold kE;first|(rw [NA (s:=A') (t:=B') (d:=d) (lv:=lv) w4 w5];rfl)|rfl
  ·(show _=nk A' B' d lv);unfold nk;first|(rw [NA (s:=A') (t:=B') (d:=d) (lv:=lv) w4 w5];rfl)|rfl
 ·trace_state
  refine⟨[330000],[],_,_,_,ζ,aC,(),aa,?_,?_,ζ⟩
  ·(show _=kE A' B' d lv);unfold kE;first|(rw [VE (s:=A') (t:=B') (d:=d) (lv:=lv) w4 w6 w9];rfl)|rfl
  ·(show _=nk A' B' d lv);unfold nk;first|(rw [VE (s:=A') (t:=B') (d:=d) (lv:=lv) w4 w6 w9];rfl)|rfl
 ·refine⟨[280000],[],_,_,_,ζ,aC,(),aa,?_,?_,ζ⟩
  ·(show _=kE A' B' d lv);unfold kE;first|(rw [M9 (s:=A') (t:=B') (d:=d) (lv:=lv) w4 w6 dW];rfl)|rfl
  ·(show _=nk A' B' d lv);unfold nk;first|(rw [M9 (s:=A') (t:=B') (d:=d) (lv:=lv) w4 w6 dW];rfl)|rfl
end GL
namespace GL
def ptrEq (p q:Pt):Bool:=decide (p.1=q.1)&&(decide (p.2.1=q.2.1)&&(decide (p.2.2.1=q.2.2.1)&&(decide (p.2.2.2.1=q.2.2.2.1)&&decide (p.2.2.2.2=q.2.2.2.2))))
def qD {p q:Pt}:ptrEq p q=true↔p=q:=by
 unfold ptrEq
 simp only [ZB1,decide_eq_true_eq]
 constructor
 ·rintro⟨h1,h2,h3,h4,h5⟩
  obtain⟨a,b,c,d,e⟩:=p
  obtain⟨a',b',c',d',e'⟩:=q
  simp only at h1 h2 h3 h4 h5
  subst h1 h2 h3 h4 h5;rfl
 ·rintro rfl;exact⟨rfl,rfl,rfl,rfl,rfl⟩
def G8:Nat->List Pt->List Pt
 |0,l=>l
 |f+1,l=>bif decide ((l.length:Int) % 4≠0) then G8 f (l++[ch]) else l
def fI (l:List Pt):List Pt:=G8 4 l
def ah0 {f:Nat}{l:List Pt}(h:decide ((l.length:Int) % 4≠0)=true):G8 (f+1) l=G8 f (l++[ch]):=by rw [G8,h];rfl
theorem ah1 {f:Nat}{l:List Pt}(h:decide ((l.length:Int) % 4≠0)=false):G8 f l=l:=by
 cases f with
 |zero=>rfl
 |succ f=>rw [G8,h];rfl
def Y9:∀(f:Nat) (l:List Pt),4<=f+(l.length % 4)\/l.length % 4=0->(G8 f l).length=(l.length+3) / 4*4
 |0,l,h=>by show l.length=_;omega
 |f+1,l,h=>by
  unfold G8
  cases hd:decide ((l.length:Int) % 4≠0) with
  |true=>
   have:=aF hd
   rw [cond_true,Y9 f _ (by rw [ZA0];show 4<=f+(l.length+1) % 4\/(l.length+1) % 4=0;omega),ZA0]
   show (l.length+1+3) / 4*4=_;omega
  |false=>
   have:=aD hd
   rw [cond_false];omega
def MY (l:List Pt):(fI l).length=(l.length+3) / 4*4:=Y9 4 l (by omega)
def tz (l:List Pt) (i:Nat):List Pt:=(l.drop (0+((i:Int)*4).toNat)).take ((((i:Int)+1)*4).toNat-((i:Int)*4).toNat)
def iC:Nat->ay->Int->List Pt->List Pt->Nat->List Pt->List Pt->ay×Option (List Pt×List Pt)
 |0,s,_,_,_,_,next,stays=>(s,some (next,stays))
 |f+1,s,lv,mj,l,i,next,stays=>
  bif decide ((i:Int)*4<l.length) then
   (bif !(eU s (tz l i) lv (nth ae mj i)).2.2 then ((eU s (tz l i) lv (nth ae mj i)).1,none) else
    iC f (eU s (tz l i) lv (nth ae mj i)).1 lv mj l (i+1) (next++[(eU s (tz l i) lv (nth ae mj i)).2.1])
     (bif ptrEq (eU s (tz l i) lv (nth ae mj i)).2.1 (nth ae mj i) then stays++[(eU s (tz l i) lv (nth ae mj i)).2.1] else stays))
  else (s,some (next,stays))
def qf:Nat->ay->bf->Int->Int->List Pt->List Pt->ay×Option (List Pt×List Pt)
 |0,s,_,_,_,l,stays=>(s,some (l,stays))
 |f+1,s,t,d,lv,l,stays=>bif decide (lv<=d) then
   (match iC 5 s lv (eE s t d lv) (fI l) 0 [] stays with
    |(s',none)=>(s',none)
    |(s',some (n,st))=>qf f s' t d (lv+1) n st)
  else (s,some (l,stays))
def iZ (stays:List Pt) (o:Pt):Bool:=stays.any λq=>ptrEq q o
def eL:List Pt->List Pt->ay->ay
 |[],_,s=>s
 |o::l,stays,s=>eL l stays (bif iZ stays o then s else dh s o)
def rootOf (l:List Pt):Pt:=bif decide ((l.length:Int)>0) then nth ae l 0 else ch
def R5 (p:Pt) (d many:Int):bf:=(p.1,p.2.1,p.2.2.1,p.2.2.2.1,p.2.2.2.2,d,many)
def qS:bf:=(0,0,0,0,0,0,0)
def aqB (s0:ay) (t:bf) (many:Int):ay×Option (List Pt×List Pt)->ay×bf×Bool
 |(s',none)=>(s',qS,false)
 |(s',some (l,stays))=>(eL (bD s0 t) stays s',R5 (rootOf l) (bo many) many,true)
def ck (s:ay) (t:bf) (leaves:List Pt) (many:Int):ay×bf×Bool:=aqB s t many (qf 3 s t (bo many) 1 (leaves.take many.toNat) [])
def trA (t:bf):A0:=.a [.int t.1,.int t.2.1,.int t.2.2.1,.int t.2.2.2.1,.int t.2.2.2.2.1,.int t.2.2.2.2.2.1,.int t.2.2.2.2.2.2]
structure ay.wf (s:ay):Prop where
 n:s.n64
 sz:∀x∈s.rows,x.size<=1000000
def ay.wf.rd {s:ay}(h:s.wf):s.rd:=⟨h.n.1,h.sz⟩
def abz {l:List ByteArray}{k:Nat}{x:ByteArray}(h:∀y∈l,y.size<=1000000) (hx:x.size<=1000000):∀y∈l.set k x,y.size<=1000000:=by
 intro y hy
 rcases List.mem_or_eq_of_mem_set hy with h1 |h1
 ·exact h y h1
 ·rw [h1];exact hx
def mK (s:ay) (text:ByteArray) (lv:Int):(bm s text lv).2.2=false/\(bm s text lv).1=s\/∃k:Nat,(bm s text lv).2.2=true/\(bm s text lv).1=xn s text k/\text.size<=128:=by
 unfold bm
 cases hd:decide (dK s text lv<0) with
 |true=>exact .inl ⟨rfl,rfl⟩
 |false=>
  cases ho:(jQ (dK s text lv) s.cz lv text).2 with
  |false=>exact .inl ⟨rfl,rfl⟩
  |true=>
   refine .inr ⟨(dK s text lv).toNat,rfl,rfl,?_⟩
   unfold jQ at ho
   cases hc:gC text.size 1 128&&bc (dK s text lv,s.cz,text.size,vi text,lv) with
   |true=>
    simp only [ZB1] at hc
    have:=cy.1 hc.1
    omega
   |false=>rw [hc] at ho;cases ho
def FR {s:ay}{text:ByteArray}{lv:Int}(h:s.wf):(bm s text lv).1.wf:=by
 rcases mK s text lv with ⟨_,e⟩ |⟨k,_,e,hs⟩
 ·rw [e];exact h
 ·rw [e]
  exact⟨⟨by show (List.set _ _ _).length=64;rw [ZC6];exact h.n.1,by show (List.set _ _ _).length=64;rw [ZC6];exact h.n.2.1,by show (List.set _ _ _).length=64;rw [ZC6];exact h.n.2.2⟩,abz h.sz (by omega)⟩
def WO {s:ay}{l:List Pt}{lv:Int}{o:Pt}(h:s.wf):(eU s l lv o).1.wf:=by
 unfold eU
 cases ql l with
 |true=>exact h
 |false=>
  cases gX s l o with
  |true=>exact h
  |false=>exact FR h
def agX {s:ay}{l:List Pt}{lv:Int}{o:Pt}(h:(eU s l lv o).2.2=false):(eU s l lv o).1=s:=by
 unfold eU at h ⊢
 cases hn:ql l with
 |true=>rw [hn] at h;cases h
 |false=>
  rw [hn,cond_false] at h
  show (bif gX s l o then (s,o,true) else bm s (bN l).1 lv).1=s
  cases hk:gX s l o with
  |true=>rw [hk] at h;cases h
  |false=>
   rw [hk,cond_false] at h
   show (bm s (bN l).1 lv).1=s
   rcases mK s (bN l).1 lv with ⟨_,e⟩ |⟨k,e,_⟩
   ·exact e
   ·rw [e] at h;cases h
def IC (s:ay) (l:List Pt) (lv:Int) (o:Pt):(eU s l lv o).1.gone=s.gone/\(eU s l lv o).1.dead=s.dead/\(eU s l lv o).1.cz=s.cz/\(eU s l lv o).1.cm=s.cm/\(eU s l lv o).1.same=s.same:=by
 unfold eU
 cases ql l with
 |true=>exact⟨rfl,rfl,rfl,rfl,rfl⟩
 |false=>
  cases gX s l o with
  |true=>exact⟨rfl,rfl,rfl,rfl,rfl⟩
  |false=>
   show (bm s (bN l).1 lv).1.gone=_/\_
   rcases mK s (bN l).1 lv with ⟨_,e⟩ |⟨k,_,e,_⟩
   ·rw [cond_false,cond_false,e];exact⟨rfl,rfl,rfl,rfl,rfl⟩
   ·rw [cond_false,cond_false,e];exact⟨rfl,rfl,rfl,rfl,rfl⟩
def r4 {s:ay}{p:Pt}(h:s.wf):(dh s p).wf:=by
 unfold dh
 cases au p with
 |true=>exact h
 |false=>
  cases decide (p.2.1<=s.cm) with
  |true=>exact⟨h.n,h.sz⟩
  |false=>
   cases decide (p.2.1<s.cz) with
   |true=>exact⟨h.n,h.sz⟩
   |false=>
    show (gZ s p.1.toNat).wf
    have hl:=zX s p.1.toNat
    refine⟨⟨hl.1.trans h.n.1,hl.2.1.trans h.n.2.1,hl.2.2.trans h.n.2.2⟩,?_⟩
    show∀x∈(bif xc s p.1.toNat then s.rows.set p.1.toNat ByteArray.empty else s.rows),_
    cases xc s p.1.toNat with
    |true=>exact abz h.sz (ZA7 _)
    |false=>exact h.sz
def qL (s:ay) (p:Pt):(dh s p).gone.length<=s.gone.length+1/\(dh s p).dead.length<=s.dead.length+1:=by
 unfold dh
 cases au p with
 |true=>exact⟨Nat.le_succ _,Nat.le_succ _⟩
 |false=>
  cases decide (p.2.1<=s.cm) with
  |true=>exact⟨Nat.le_succ _,by show (s.dead++[p]).length<=_;rw [ZA0];exact ZB0 _⟩
  |false=>
   cases decide (p.2.1<s.cz) with
   |true=>exact⟨by show (s.gone++[p]).length<=_;rw [ZA0];exact ZB0 _,Nat.le_succ _⟩
   |false=>exact⟨Nat.le_succ _,Nat.le_succ _⟩
def aei {s:ay}{t:bf}{d lv:Int}(h:t.rd):∀q∈eE s t d lv,bc q=true:=by
 unfold eE
 cases decide (t.depth≠d) with
 |true=>exact zN 4
 |false=>
  cases decide (lv=d) with
  |true=>
   intro q hq
   simp only [cond_false,cond_true,ZB7,ZF6,or_false] at hq
   subst hq;exact h.ok
  |false=>
   cases !(bl s t.root d).2 with
   |true=>exact zN 4
   |false=>exact qP s t.root d
theorem aim (s:ay) (t:bf) (d lv:Int):1<=(eE s t d lv).length/\(lv≠d->(eE s t d lv).length=4)/\(eE s t d lv).length<=4:=by
 unfold eE
 cases decide (t.depth≠d) with
 |true=>exact⟨by show 1<=4;omega,λ_=>rfl,ZB0 _⟩
 |false=>
  cases hd:decide (lv=d) with
  |true=>exact⟨ZB0 _,λh=>absurd (aF hd) h,by show 1<=4;omega⟩
  |false=>
   cases hb: !(bl s t.root d).2 with
   |true=>exact⟨by show 1<=4;omega,λ_=>rfl,ZB0 _⟩
   |false=>
    have:=(gU s t.root d).2 (cr hb)
    show 1<=(bl s t.root d).1.length/\(_->(bl s t.root d).1.length=4)/\(bl s t.root d).1.length<=4
    omega
def SU {s:ay}{t:bf}(h:t.rd):∀q∈bD s t,bc q=true:=by
 unfold bD
 cases decide (t.depth=0)||au t.root with
 |true=>intro q hq;cases hq
 |false=>
  cases decide (t.depth=2) with
  |true=>
   intro q hq
   rcases ZB7.1 hq with hq |hq
   ·rw [hq];exact h.ok
   ·exact qP s t.root 2 q (ZG1.1 hq).1
  |false=>
   intro q hq
   simp only [cond_false,ZB7,ZF6,or_false] at hq
   subst hq;exact h.ok
def OR (s:ay) (t:bf):(bD s t).length<=5:=by
 unfold bD
 cases decide (t.depth=0)||au t.root with
 |true=>exact ZA7 _
 |false=>
  cases decide (t.depth=2) with
  |true=>
   have h1:=(gU s t.root 2).1
   have h2:=List.length_filter_le (λp=> !(au p)) (bl s t.root 2).1
   show (t.root::(bl s t.root 2).1.filter (λp=> !(au p))).length<=5
   rw [ZA1];omega
  |false=>show 1<=5;omega
end GL
namespace GL
def alH {f:Nat}{s:ay}{lv:Int}{mj l next stays:List Pt}{i:Nat}(h:decide ((i:Int)*4<l.length)=true) (h2:(!(eU s (tz l i) lv (nth ae mj i)).2.2)=true):iC (f+1) s lv mj l i next stays=((eU s (tz l i) lv (nth ae mj i)).1,none):=by rw [iC,h,h2];rfl
def aeU {f:Nat}{s:ay}{lv:Int}{mj l next stays:List Pt}{i:Nat}(h:decide ((i:Int)*4<l.length)=true) (h2:(!(eU s (tz l i) lv (nth ae mj i)).2.2)=false):iC (f+1) s lv mj l i next stays=iC f (eU s (tz l i) lv (nth ae mj i)).1 lv mj l (i+1) (next++[(eU s (tz l i) lv (nth ae mj i)).2.1]) (bif ptrEq (eU s (tz l i) lv (nth ae mj i)).2.1 (nth ae mj i) then stays++[(eU s (tz l i) lv (nth ae mj i)).2.1] else stays):=by rw [iC,h,h2];rfl
theorem alI {f:Nat}{s:ay}{lv:Int}{mj l next stays:List Pt}{i:Nat}(h:decide ((i:Int)*4<l.length)=false):iC f s lv mj l i next stays=(s,some (next,stays)):=by
 cases f with
 |zero=>rfl
 |succ f=>rw [iC,h];rfl
def VW {f:Nat}{s s':ay}{t:bf}{d lv:Int}{l stays:List Pt}(h:decide (lv<=d)=true) (h2:iC 5 s lv (eE s t d lv) (fI l) 0 [] stays=(s',none)):qf (f+1) s t d lv l stays=(s',none):=by rw [qf,h,h2];rfl
def VV {f:Nat}{s s':ay}{t:bf}{d lv:Int}{l stays n st:List Pt}(h:decide (lv<=d)=true) (h2:iC 5 s lv (eE s t d lv) (fI l) 0 [] stays=(s',some (n,st))):qf (f+1) s t d lv l stays=qf f s' t d (lv+1) n st:=by rw [qf,h,h2];rfl
theorem VX {f:Nat}{s:ay}{t:bf}{d lv:Int}{l stays:List Pt}(h:decide (lv<=d)=false):qf f s t d lv l stays=(s,some (l,stays)):=by
 cases f with
 |zero=>rfl
 |succ f=>rw [qf,h];rfl
def aaK {o:Pt}{l stays:List Pt}{s:ay}(h:iZ stays o=true):eL (o::l) stays s=eL l stays s:=by rw [eL,h];rfl
def aaL {o:Pt}{l stays:List Pt}{s:ay}(h:iZ stays o=false):eL (o::l) stays s=eL l stays (dh s o):=by rw [eL,h];rfl
def akb {n:Int}(h:bo n=1):n<=4:=by
 unfold bo at h
 by_cases h1:n<=1
 ·omega
 ·rw [decide_eq_false h1] at h
  by_cases h2:n<=4
  ·exact h2
  ·rw [decide_eq_false h2] at h;cases h
def mr (S:ay) (t:bf) (l:List Pt) (many:Int):Prop:=S.wf/\t.rd/\l.length=16/\0<=many/\many<=16/\S.gone.length<=1047000/\S.dead.length<=1047000
def afF (S:ay) (t:bf) (l:List Pt) (many:Int) (z:Bool):Prop:=z=(ck S t l many).2.2
def ob (S:ay) (t:bf) (l:List Pt) (many:Int) (z:Bool):AV:=match z with |true=>.t [.a (nH 0 1 2 5 6 (ck S t l many).1),trA (ck S t l many).2.1,.s (.q true)] |false=>.t [.a (nH 0 1 2 3 4 (ck S t l many).1),trA (ck S t l many).2.1,.s (.q false)]
def rN (S:ay) (t:bf) (l:List Pt) (many:Int) (z:Bool):List AV:=match z with |true=>[.rs ab (ck S t l many).1.rows,.rs ag (ck S t l many).1.refs,.rs ag (ck S t l many).1.last,.zz,.zz,.rs ae (ck S t l many).1.gone,.rs ae (ck S t l many).1.dead] |false=>KF (ck S t l many).1++[.zz,.zz]
def kU:cu where
 A:=[.a (stB 0 1 2 3 4),.a [.int,.int,.int,.int,.int,.int,.int],.s (.vz ae),.s .int]
 B:=[.r ab,.r ag,.r ag,.r ae,.r ae]
 pre:=λx b=>stW x.1 b/\mr (iE x.1 b) (x.2.1) (x.2.2.1) (x.2.2.2)
 α:=λ_ _=>Bool
 φ:=λx b z=>afF (iE x.1 b) (x.2.1) (x.2.2.1) (x.2.2.2) z
 r:=λx b z=>ob (iE x.1 b) (x.2.1) (x.2.2.1) (x.2.2.2) z
 o:=λx b z=>rN (iE x.1 b) (x.2.1) (x.2.2.1) (x.2.2.2) z
 nf:=2
 mv:=true
def zH:Has Tryz.prog 52 kU:=by
 refine Has.ofZ zT zF (λd=>Nat.beq d 77) (l:=[(93,ee),(94,gB),(95,kT),(96,kW),(53,c8)]) ⟨kO,qI,zG,zJ,iy,aa⟩ Tryz.func52 ?_
 rintro⟨⟨(C7:Nat),(C6:Nat),(C5:Nat),(ao:Int),(C4:Nat),(aq:Int),(C3:Nat),(ar:Bool)⟩,⟨(t1:Int),(t2:Int),(t3:Int),(t4:Int),(t5:Int),(t6:Int),(t7:Int)⟩,(l:List Pt),(many:Int)⟩ ⟨(aj:List ByteArray),(ak:List Int),(an:List Int),(ah:List Pt),(ai:List Pt)⟩ ⟨⟨(gR:C7=List.length aj),(gQ:C6=List.length ak),(gP:C5=List.length an),(gO:C4=List.length ah),(gN:C3=List.length ai)⟩,(hp:mr (aj,ak,an,ao,ah,aq,ai,ar) (t1,t2,t3,t4,t5,t6,t7) l many)⟩
 subst gR gQ gP gO gN
 show vc _ _ _ _ (entry [.a [.xs 0 1 0 aj.length,.xs 1 1 0 ak.length,.xs 2 1 0 an.length,.int ao,.xs 3 5 0 ah.length,.int aq,.xs 4 5 0 ai.length,.q ar],.a [.int t1,.int t2,.int t3,.int t4,.int t5,.int t6,.int t7],.s (.vz ae l),.int many] [.rs ab aj,.rs ag ak,.rs ag an,.rs ae ah,.rs ae ai]) _
 let A':=(t1,t2,t3,t4,t5,t6,t7)
 let B':=(aj,ak,an,ao,ah,aq,ai,ar)
 obtain⟨sG,qg,(aq6:l.length=16),wW,CB,(hg:ah.length<=1047000),(hd:ai.length<=1047000)⟩:=hp
 have sG:ay.wf B':=sG
 have qg:bf.rd A':=qg
 have asj:=OR B' A'
 have aq9:=SU (s:=B') qg
 have hdb:=oI many
 refine⟨⟨tv2,aa⟩,λx1 w2=>⟨⟨⟨⟨⟨?_,?_⟩,⟨?_,?_⟩,⟨?_,?_⟩,aa,⟨?_,?_⟩,aa,⟨?_,?_⟩,tv2⟩,tv8,aa⟩,?_⟩,λx3 w4=>⟨aa,⟨?_,?_,?_⟩,⟨⟨?_,?_⟩,aa⟩,aa,?_⟩⟩⟩
 all_goals first|refine aw ?_|refine ax ?_|exact bb|(dsimp only [ee,fS,gB,jf,kT,mq,kW,mw,c8,eh,iE];omega)|exact ba|exact sG.rd|(show 0+((l.drop _).take _).length<=1048576;rw [ZB6,ZC8];omega)|skip
 refine df (l:=[(93,ee),(94,gB),(95,kT),(96,kW),(53,c8)]) (ex:=zT) (wr:=zF) (pt:=λd=>Nat.beq d 77) ⟨kO,qI,zG,zJ,iy,trivial⟩ [.s 3,.s 4,.s 5,.b 1005,.s 8,.b 1008,.s 9,.b 1009,.s 11,.s 12,.b 310000] (λy:Int×ay×List Pt×List Pt×Nat=>[(.s 13,.s (.xs 1035 5 0 y.2.2.1.length)),(.s 14,.s (.xs 1036 5 0 y.2.2.2.1.length)),(.s 15,.int y.1),(.b 1004,.a (nH 0 1 2 3 4 y.2.1)),(.b 0,.rs ab y.2.1.rows),(.b 1,.rs ag y.2.1.refs),(.b 2,.rs ag y.2.1.last),(.b 3,.rs ae y.2.1.gone),(.b 4,.rs ae y.2.1.dead),(.b 1035,.rs ae y.2.2.1),(.b 1036,.rs ae y.2.2.2.1)]) (λy=>(y.2.1.wf/\y.2.1.gone.length<=1047000/\y.2.1.dead.length<=1047000)/\(1<=y.1/\y.1<=3/\y.1+y.2.2.2.2=4)/\(y.1=bo many->y.2.2.1.length<=4)/\y.2.2.1.length<=16/\y.2.2.2.1.length<=100*y.1.toNat/\qf y.2.2.2.2 y.2.1 A' (bo many) y.1 y.2.2.1 y.2.2.2.1=qf 3 B' A' (bo many) 1 (l.take many.toNat) []) (λy=>(3-y.1).toNat) (1,B',l.take many.toNat,[],3) [] ⟨⟨sG,hg,hd⟩,⟨ZC1 _,by show (1:Int)<=3;omega,rfl⟩,λh=>by have h:1=bo many:=h;have:=akb h.symm;show (l.take many.toNat).length<=4;rw [ZB6];omega,by show (l.take many.toNat).length<=16;rw [ZB6];omega,ZA7 _,rfl⟩ dP ?_
 rintro⟨lv,s,li,st,f⟩ ⟨⟨(hw:s.wf),(hsg:s.gone.length<=1047000),(J5:s.dead.length<=1047000)⟩,⟨(asg:1<=lv),(asf:lv<=3),(hf:lv+(f:Int)=4)⟩,(hd4:lv=bo many->li.length<=4),(hli:li.length<=16),(xe:st.length<=100*lv.toNat),(hr:qf f s A' (bo many) lv li st=qf 3 B' A' (bo many) 1 (l.take many.toNat) [])⟩
 refine⟨λw1=>⟨⟨⟨⟨⟨?_,?_⟩,⟨?_,?_⟩,⟨?_,?_⟩,aa,⟨?_,?_⟩,aa,⟨?_,?_⟩,tv2⟩,tv8,tv3⟩,?_⟩,λx2 w3=>⟨aa,?_⟩⟩,λw4=>?_⟩
 all_goals first|refine aw ?_|refine ax ?_|exact bb|(dsimp only [ee,fS,gB,jf,kT,mq,kW,mw,c8,eh,iE];omega)|exact ba|exact hw.rd|skip
 ·have ase:lv<=bo many:=aF w1
  have hcd:decide (lv<=bo many)=true:=w1
  obtain⟨g,rfl⟩:∃g,f=g+1:=⟨f-1,by omega⟩
  have hwl:=aim s A' (bo many) lv
  have hwo:=aei (s:=s) (d:=bo many) (lv:=lv) qg
  refine df (l:=[(93,ee),(94,gB),(95,kT),(96,kW),(53,c8)]) (ex:=zT) (wr:=zF) (pt:=λd=>Nat.beq d 77) ⟨kO,qI,zG,zJ,iy,trivial⟩ [.s 3,.s 4,.s 5,.b 1005,.s 8,.b 1008,.s 9,.b 1009,.s 11,.s 12,.b 310000,.s 14,.b 1036,.s 15,.b 1004,.b 0,.b 1,.b 2,.b 3,.b 4,.s 16,.b 470000,.s 17,.b 1047] (λy:List Pt×Nat=>[(.s 13,.s (.xs 1035 5 0 y.1.length)),(.b 1035,.rs ae y.1)]) (λy=>G8 y.2 y.1=fI li/\y.1.length<=16/\(4<=y.2+y.1.length % 4\/y.1.length % 4=0)) (λy=>y.2) (li,4) [] ⟨rfl,hli,by show 4<=4+li.length % 4\/_;omega⟩ dP ?_
  rintro⟨lp,pf⟩ ⟨(hp1:G8 pf lp=fI li),(hp2:lp.length<=16),(hp3:4<=pf+lp.length % 4\/lp.length % 4=0)⟩
  refine⟨⟨?_,?_⟩,λw1=>⟨aa,⟨⟨?_,?_⟩,?_,?_⟩,?_⟩,λw2=>?_⟩
  all_goals first|refine aw ?_|refine ax ?_|exact bb|(dsimp only [ee,fS,gB,jf,kT,mq,kW,mw,c8,eh,iE];omega)|exact ba|skip
  ·have h4:¬lp.length % 4=0:=λh=>by have:=aF (p:=(lp.length:Int) % 4≠0) w1;omega
   obtain⟨k,rfl⟩:∃k,pf=k+1:=⟨pf-1,by omega⟩
   refine⟨(lp++[ch],k),[(1035,1055)],?_,?_,?_⟩
   rotate_right
   ·exact bY
   ·refine⟨by rw [<-hp1,ah0 w1],by show (lp++[ch]).length<=16;rw [ZA0];show lp.length+1<=16;omega,?_⟩
    show 4<=k+(lp++[ch]).length % 4\/(lp++[ch]).length % 4=0
    rw [ZA0];show 4<=k+(lp.length+1) % 4\/(lp.length+1) % 4=0;omega
   ·exact ZE7 k
  ·have e:lp=fI li:=by rw [<-hp1,ah1 w2]
   clear hp1 hp3
   subst e
   have tU:=MY li
   refine df (l:=[(93,ee),(94,gB),(95,kT),(96,kW),(53,c8)]) (ex:=zT) (wr:=zF) (pt:=λd=>Nat.beq d 77) ⟨kO,qI,zG,zJ,iy,aa⟩ [.s 3,.s 4,.s 5,.b 1005,.s 8,.b 1008,.s 9,.b 1009,.s 11,.s 12,.b 310000,.s 13,.b 1035,.s 15,.s 16,.b 470000] (λy:Nat×ay×List Pt×List Pt×Nat=>[(.s 14,.s (.xs 1036 5 0 y.2.2.2.1.length)),(.s 17,.s (.xs 1047 5 0 y.2.2.1.length)),(.s 18,.int y.1),(.b 1004,.a (nH 0 1 2 3 4 y.2.1)),(.b 0,.rs ab y.2.1.rows),(.b 1,.rs ag y.2.1.refs),(.b 2,.rs ag y.2.1.last),(.b 3,.rs ae y.2.1.gone),(.b 4,.rs ae y.2.1.dead),(.b 1036,.rs ae y.2.2.2.1),(.b 1047,.rs ae y.2.2.1)]) (λy=>(y.2.1.wf/\y.2.1.gone.length<=1047000/\y.2.1.dead.length<=1047000)/\y.1*4<=(fI li).length/\y.2.2.1.length=y.1/\y.2.2.2.1.length<=st.length+y.1/\y.1+y.2.2.2.2=5/\iC y.2.2.2.2 y.2.1 lv (eE s A' (bo many) lv) (fI li) y.1 y.2.2.1 y.2.2.2.1=iC 5 s lv (eE s A' (bo many) lv) (fI li) 0 [] st) (λy=>5-y.1) (0,s,[],st,5) [] ⟨⟨hw,hsg,J5⟩,ZA7 _,rfl,ZB0 _,rfl,rfl⟩ dP ?_
   rintro⟨i,u,nx,sy,f2⟩ ⟨⟨(hu:u.wf),(hug:u.gone.length<=1047000),(hud:u.dead.length<=1047000)⟩,(hi4:i*4<=(fI li).length),(zO:nx.length=i),(hsy:sy.length<=st.length+i),(hf2:i+f2=5),(jV:iC f2 u lv (eE s A' (bo many) lv) (fI li) i nx sy=iC 5 s lv (eE s A' (bo many) lv) (fI li) 0 [] st)⟩
   have hic:decide ((i:Int)*4<((fI li).length:Int))=true->i*4<(fI li).length/\i<(eE s A' (bo many) lv).length/\i<=3:=λh=>by
    have h1:=aF h
    refine⟨by omega,?_,by omega⟩
    by_cases hh:lv=bo many
    ·have:=hd4 hh;omega
    ·have:=hwl.2.1 hh;omega
   have hoa:=pI (qd hwo i)
   refine⟨⟨?_,?_⟩,λw1=>⟨[.s 4,.b 1004],Sq64,ζ,Sq13,Sq65,ζ,Sq18,Sq66,ζ,Sq66,Sq67,ζ,⟨?_,?_⟩,Sq18,Sq68,ζ,Sq68,Sq69,ζ,⟨?_,?_⟩,Sq69,Sq70,ζ,⟨?_,?_⟩,[.s 65,.s 67,.s 70],Sq71,ζ,⟨?_,?_,?_⟩,Sq15,Sq72,ζ,Sq16,Sq73,ζ,Sq18,Sq74,ζ,[.s 73,.s 74],Sq75,ζ,⟨?_,?_⟩,[.s 75,.b 470000],Sq76,ζ,?_,[.s 64,.s 71,.s 72,.s 76,.b 0,.b 1,.b 2,.b 3,.b 4,.b 1035],[.s 77,.b 0,.b 1,.b 2,.b 3,.b 4],ζ,⟨⟨tv9,?_,aa,tv6,aa⟩,⟨?_,?_,?_,?_,?_⟩,?_,?_,?_,?_⟩,?_,λx2 w3=>⟨Sq77,Sq63,ζ,Sq63,Sq78,ζ,Sq63,Sq79,ζ,Sq63,Sq80,ζ,[.b 1019],[.s 19,.b 1019],ζ,[.b 1020],[.s 20,.b 1020],ζ,[.s 19,.s 78,.b 1019],[.b 1019],ζ,[.s 20,.s 79,.b 1020],[.b 1020],ζ,Sq80,Sq21,ζ,λw4=>?_,λw5=>⟨[.s 20,.b 1020],Sq86,ζ,Sq16,Sq87,ζ,Sq18,Sq88,ζ,[.s 87,.s 88],Sq89,ζ,⟨?_,?_⟩,[.s 89,.b 470000],Sq90,ζ,?_,[.s 86,.s 90],Sq91,ζ,λw6=>⟨aa,⟨⟨?_,?_⟩,?_,?_⟩,aa,⟨⟨?_,?_⟩,?_,?_⟩,⟨?_,?_⟩,?_⟩,λw7=>⟨aa,⟨⟨?_,?_⟩,?_,?_⟩,⟨?_,?_⟩,?_⟩⟩⟩⟩,λw8=>⟨⟨?_,?_⟩,?_⟩⟩
   all_goals first|refine aw ?_|refine ax ?_|exact bb|(dsimp only [ee,fS,gB,jf,kT,mq,kW,mw,c8,eh,iE];omega)|exact ba|exact hu.n.1|exact hu.n.2.1|exact hu.n.2.2|exact⟨hu.n⟩|exact (hic w1).2.1|(show (i:Int)<((eE s A' (bo many) lv).length:Int);have:=hic w1;omega)|(show ((List.drop _ (fI li)).take _).length<=1000000;rw [ZB6,ZC8];omega)|exact hoa.1|exact hoa.2|(have:=hic w1;show _<=_;omega)|skip
   ·obtain⟨k,rfl⟩:∃k,f2=k+1:=⟨f2-1,by have:=hic w1;omega⟩
    have ajx:(eU u (tz (fI li) i) lv (nth ae (eE s A' (bo many) lv) i)).1=u:=agX (pJ w4)
    have e0:iC 5 s lv (eE s A' (bo many) lv) (fI li) 0 [] st=(u,none):=by rw [<-jV,alH w1 (show (!(eU u (tz (fI li) i) lv (nth ae (eE s A' (bo many) lv) i)).2.2)=true from w4),ajx]
    have e1:qf 3 B' A' (bo many) 1 (l.take many.toNat) []=(u,none):=by rw [<-hr,VW hcd e0]
    have e:ck B' A' l many=(u,qS,false):=by unfold ck;rw [e1];rfl
    refine⟨[],[],_,_,_,ζ,aC,false,2,(by show false=(ck B' A' l many).2.2;rw [e]),?_,?_,ζ⟩
    ·(show _=ob B' A' l many false);unfold ob;first|(rw [e];exact congrArg (λx:ay=>KF x++[AV.zz,AV.zz]) ajx)|(rw [e];rfl)|rfl
    ·(show _=rN B' A' l many false);unfold rN;first|(rw [e];exact congrArg (λx:ay=>KF x++[AV.zz,AV.zz]) ajx)|(rw [e];rfl)|rfl
   ·obtain⟨k,rfl⟩:∃k,f2=k+1:=⟨f2-1,by have:=hic w1;omega⟩
    have ajf:=IC u (tz (fI li) i) lv (nth ae (eE s A' (bo many) lv) i)
    refine⟨(i+1,(eU u (tz (fI li) i) lv (nth ae (eE s A' (bo many) lv) i)).1,nx++[(eU u (tz (fI li) i) lv (nth ae (eE s A' (bo many) lv) i)).2.1],sy++[(eU u (tz (fI li) i) lv (nth ae (eE s A' (bo many) lv) i)).2.1],k),[(1047,1099),(1036,1095)],?_,?_,?_⟩
    rotate_right
    ·exact bY
    ·refine⟨⟨WO hu,by show (eU u (tz (fI li) i) lv (nth ae (eE s A' (bo many) lv) i)).1.gone.length<=_;rw [ajf.1];exact hug,by show (eU u (tz (fI li) i) lv (nth ae (eE s A' (bo many) lv) i)).1.dead.length<=_;rw [ajf.2.1];exact hud⟩,by show (i+1)*4<=(fI li).length;have:=hic w1;omega,by show List.length (_++_)=_;rw [ZA0,zO];rfl,?_,by show i+1+k=5;omega,?_⟩
     ·show (sy++[(eU u (tz (fI li) i) lv (nth ae (eE s A' (bo many) lv) i)).2.1]).length<=st.length+(i+1);rw [ZA0];show sy.length+1<=_;omega
     ·rw [<-jV,aeU w1 (show (!(eU u (tz (fI li) i) lv (nth ae (eE s A' (bo many) lv) i)).2.2)=false from w5),show ptrEq (eU u (tz (fI li) i) lv (nth ae (eE s A' (bo many) lv) i)).2.1 (nth ae (eE s A' (bo many) lv) i)=true from w6];rfl
    ·show 5-(i+1)<5-i;have:=hic w1;omega
   ·obtain⟨k,rfl⟩:∃k,f2=k+1:=⟨f2-1,by have:=hic w1;omega⟩
    have ajf:=IC u (tz (fI li) i) lv (nth ae (eE s A' (bo many) lv) i)
    refine⟨(i+1,(eU u (tz (fI li) i) lv (nth ae (eE s A' (bo many) lv) i)).1,nx++[(eU u (tz (fI li) i) lv (nth ae (eE s A' (bo many) lv) i)).2.1],sy,k),[(1047,1099)],?_,?_,?_⟩
    rotate_right
    ·exact bY
    ·refine⟨⟨WO hu,by show (eU u (tz (fI li) i) lv (nth ae (eE s A' (bo many) lv) i)).1.gone.length<=_;rw [ajf.1];exact hug,by show (eU u (tz (fI li) i) lv (nth ae (eE s A' (bo many) lv) i)).1.dead.length<=_;rw [ajf.2.1];exact hud⟩,by show (i+1)*4<=(fI li).length;have:=hic w1;omega,by show List.length (_++_)=_;rw [ZA0,zO];rfl,?_,by show i+1+k=5;omega,?_⟩
     ·show sy.length<=st.length+(i+1);omega
     ·rw [<-jV,aeU w1 (show (!(eU u (tz (fI li) i) lv (nth ae (eE s A' (bo many) lv) i)).2.2)=false from w5),show ptrEq (eU u (tz (fI li) i) lv (nth ae (eE s A' (bo many) lv) i)).2.1 (nth ae (eE s A' (bo many) lv) i)=false from w7];rfl
    ·show 5-(i+1)<5-i;have:=hic w1;omega
   ·have e0:iC 5 s lv (eE s A' (bo many) lv) (fI li) 0 [] st=(u,some (nx,sy)):=by rw [<-jV,alI w8]
    have wZ:¬i*4<(fI li).length:=by have:=aD (p:=(i:Int)*4<((fI li).length:Int)) w8;omega
    refine⟨(lv+1,u,nx,sy,g),[(1035,1047)],?_,?_,?_⟩
    rotate_right
    ·exact bY
    ·refine⟨⟨hu,hug,hud⟩,⟨by show 1<=lv+1;omega,by show lv+1<=3;omega,by show lv+1+(g:Int)=4;omega⟩,λ_=>by show nx.length<=4;omega,by show nx.length<=16;omega,by show sy.length<=100*(lv+1).toNat;omega,?_⟩
     rw [<-hr,VV hcd e0]
    ·show (3-(lv+1)).toNat<(3-lv).toNat;omega
 ·have e1:qf 3 B' A' (bo many) 1 (l.take many.toNat) []=(s,some (li,st)):=by rw [<-hr,VX w4]
  refine df (l:=[(93,ee),(94,gB),(95,kT),(96,kW),(53,c8)]) (ex:=zT) (wr:=zF) (pt:=λd=>Nat.beq d 77) ⟨kO,qI,zG,zJ,iy,aa⟩ [.s 3,.s 4,.s 8,.b 1008,.s 9,.b 1009,.s 11,.s 12,.b 310000,.s 13,.b 1035,.s 14,.b 1036] (λy:Nat×ay=>[(.s 22,.int y.1),(.b 1004,.a (nH 0 1 2 1000000001 1000000002 y.2)),(.b 0,.rs ab y.2.rows),(.b 1,.rs ag y.2.refs),(.b 2,.rs ag y.2.last),(.b 1000000001,.rs ae y.2.gone),(.b 1000000002,.rs ae y.2.dead)]) (λy=>y.2.wf/\y.1<=(bD B' A').length/\(y.2.gone.length<=1047000+y.1/\y.2.dead.length<=1047000+y.1)/\eL ((bD B' A').drop y.1) st y.2=eL (bD B' A') st s) (λy=>(bD B' A').length-y.1) (0,s) [(1000000001,3),(1000000002,4)] ⟨hw,ZA7 _,⟨hsg,J5⟩,rfl⟩ dP ?_
  rintro⟨i,u⟩ ⟨(hu:u.wf),(hi:i<=(bD B' A').length),⟨(hug:u.gone.length<=1047000+i),(hud:u.dead.length<=1047000+i)⟩,(jV:eL ((bD B' A').drop i) st u=eL (bD B' A') st s)⟩
  have cP:i<(bD B' A').length->(bD B' A').drop i=nth ae (bD B' A') i::(bD B' A').drop (i+1):=λh=>bJ (ek:=ae) h
  have hia:=pI (qd aq9 i)
  have cF:decide ((i:Int)<((bD B' A').length:Int))=true->i<(bD B' A').length:=λh=>by have:=aF h;omega
  refine⟨λw1=>?_,λw2=>⟨λw3=>⟨⟨?_,?_⟩,?_,[.s 4,.b 1004],Sq140,ζ,[.s 25,.b 1025],Sq141,ζ,Sq11,Sq142,ζ,Sq3,Sq143,ζ,[.s 141,.s 142,.s 143],Sq144,ζ,[.s 8,.s 140,.b 1008],[.b 1008],ζ,[.s 9,.s 144,.b 1009],[.b 1009],ζ,[],Sq10,ζ,?_⟩,λw4=>⟨[.s 4,.b 1004],Sq140,ζ,[.s 25,.b 1025],Sq141,ζ,Sq11,Sq142,ζ,Sq3,Sq143,ζ,[.s 141,.s 142,.s 143],Sq144,ζ,[.s 8,.s 140,.b 1008],[.b 1008],ζ,[.s 9,.s 144,.b 1009],[.b 1009],ζ,[],Sq10,ζ,?_⟩⟩⟩
  all_goals first|refine aw ?_|refine ax ?_|exact bb|(dsimp only [ee,fS,gB,jf,kT,mq,kW,mw,c8,eh,iE];omega)|exact ba|skip
  ·have hci:decide ((i:Int)<((bD B' A').length:Int))=true:=w1
   have aju:=cF hci
   refine df (l:=[(93,ee),(94,gB),(95,kT),(96,kW),(53,c8)]) (ex:=zT) (wr:=zF) (pt:=λd=>Nat.beq d 77) ⟨kO,qI,zG,zJ,iy,aa⟩ [.s 3,.s 4,.s 8,.b 1008,.s 9,.b 1009,.s 11,.s 12,.b 310000,.s 13,.b 1035,.s 14,.b 1036,.s 22,.b 1004,.b 0,.b 1,.b 2,.b 1000000001,.b 1000000002] (λy:Nat×Bool=>[(.s 23,.s (.q y.2)),(.s 24,.int y.1)]) (λy=>y.1<=st.length/\(y.2||iZ (st.drop y.1) (nth ae (bD B' A') i))=iZ st (nth ae (bD B' A') i)) (λy=>st.length-y.1) (0,false) [] ⟨ZA7 _,rfl⟩ dP ?_
   rintro⟨k,kp⟩ ⟨(hk:k<=st.length),(hkr:(kp||iZ (st.drop k) (nth ae (bD B' A') i))=iZ st (nth ae (bD B' A') i))⟩
   have agL:decide ((k:Int)<(st.length:Int))=true->k<st.length:=λh=>by have:=aF h;omega
   have hks:k<st.length->iZ (st.drop k) (nth ae (bD B' A') i)=(ptrEq (nth ae st k) (nth ae (bD B' A') i)||iZ (st.drop (k+1)) (nth ae (bD B' A') i)):=λh=>by rw [bJ (ek:=ae) h];rfl
   refine⟨λw1=>⟨Sq23,Sq113,ζ,Sq113,Sq114,ζ,aa,λw2=>⟨Sq114,Sq115,ζ,Sq114,Sq116,ζ,Sq114,Sq117,ζ,Sq114,Sq118,ζ,Sq114,Sq119,ζ,Sq114,Sq120,ζ,Sq114,Sq121,ζ,Sq114,Sq122,ζ,Sq114,Sq123,ζ,[.s 114,.s 123],Sq124,ζ,Sq124,Sq23,ζ,⟨?_,?_⟩,?_⟩,λw3=>⟨[.s 114,.s 14],Sq115,ζ,[.s 114,.s 24],Sq116,ζ,[.s 114,.s 115,.s 116],Sq117,ζ,⟨?_,?_⟩,[.s 114,.s 117,.b 1036],Sq118,ζ,?_,[.s 114,.s 12],Sq119,ζ,[.s 114,.s 22],Sq120,ζ,[.s 114,.s 119,.s 120],Sq121,ζ,⟨?_,?_⟩,[.s 114,.s 121,.b 310000],Sq122,ζ,?_,[.s 114,.s 118,.s 122],Sq123,ζ,[.s 114,.s 123],Sq124,ζ,Sq124,Sq23,ζ,⟨?_,?_⟩,?_⟩⟩,λw4=>⟨λw5=>⟨[.s 4,.b 1004],Sq127,ζ,Sq12,Sq128,ζ,Sq22,Sq129,ζ,[.s 128,.s 129],Sq130,ζ,⟨?_,?_⟩,[.s 130,.b 310000],Sq131,ζ,?_,[.s 127,.s 131,.b 0,.b 1,.b 2,.b 1000000001,.b 1000000002,.b 1001330001,.b 1001330000],[.s 132,.b 0,.b 1,.b 2,.b 1000000001,.b 1000000002,.b 1001330000,.b 1001330001],ζ,⟨⟨tv9,tv6,aa⟩,⟨?_,?_,?_,?_,?_⟩,⟨?_,?_,?_⟩,?_,?_,?_,?_⟩,?_,λx6 w7=>⟨[.s 4,.s 132,.b 1004],[.b 1004],ζ,⟨?_,?_⟩,?_⟩⟩,λw8=>⟨⟨?_,?_⟩,?_⟩⟩⟩
   all_goals first|refine aw ?_|refine ax ?_|exact bb|(dsimp only [ee,fS,gB,jf,kT,mq,kW,mw,c8,eh,iE];omega)|exact ba|exact agL w1|exact aju|exact aF hci|exact hu.n.1|exact hu.n.2.1|exact hu.n.2.2|exact hia.1|exact hia.2|(show u.gone.length<=1048000;omega)|(show u.dead.length<=1048000;omega)|skip
   ·refine⟨(k+1,true),[],?_,?_,?_⟩
    rotate_right
    ·exact bY
    ·exact⟨agL w1,by show (true||_)=_;rw [<-hkr,show kp=true from w2];rfl⟩
    ·show st.length-(k+1)<st.length-k;have:=agL w1;omega
   ·refine⟨(k+1,ptrEq (nth ae st k) (nth ae (bD B' A') i)),[],?_,?_,?_⟩
    rotate_right
    ·exact bY
    ·exact⟨agL w1,by show (ptrEq (nth ae st k) (nth ae (bD B' A') i)||iZ (st.drop (k+1)) (nth ae (bD B' A') i))=_;rw [<-hkr,show kp=false from w3,hks (agL w1)];rfl⟩
    ·show st.length-(k+1)<st.length-k;have:=agL w1;omega
   ·have aq7:¬k<st.length:=by have:=aD (p:=(k:Int)<(st.length:Int)) w4;omega
    have e:iZ st (nth ae (bD B' A') i)=false:=by rw [<-hkr,show kp=false from pJ w5,ZB3 (by omega)];rfl
    have hfl:=qL u (nth ae (bD B' A') i)
    refine⟨(i+1,dh u (nth ae (bD B' A') i)),[(1000000001,1001330000),(1000000002,1001330001)],?_,?_,?_⟩
    rotate_right
    ·exact bY
    ·exact⟨r4 hu,aju,⟨by show (dh u (nth ae (bD B' A') i)).gone.length<=1047000+(i+1);omega,by show (dh u (nth ae (bD B' A') i)).dead.length<=1047000+(i+1);omega⟩,by rw [<-jV,cP aju,aaL e]⟩
    ·show (bD B' A').length-(i+1)<(bD B' A').length-i;omega
   ·have aq7:¬k<st.length:=by have:=aD (p:=(k:Int)<(st.length:Int)) w4;omega
    have e:iZ st (nth ae (bD B' A') i)=true:=by rw [<-hkr,show kp=true from cr w8];rfl
    refine⟨(i+1,u),[],?_,?_,?_⟩
    rotate_right
    ·exact bY
    ·exact⟨hu,aju,⟨by show u.gone.length<=1047000+(i+1);omega,by show u.dead.length<=1047000+(i+1);omega⟩,by rw [<-jV,cP aju,aaK e]⟩
    ·show (bD B' A').length-(i+1)<(bD B' A').length-i;omega
  ·have arb:¬i<(bD B' A').length:=by have:=aD (p:=(i:Int)<((bD B' A').length:Int)) w2;omega
   have e2:eL (bD B' A') st s=u:=by rw [<-jV,ZB3 (by omega)];rfl
   have e:ck B' A' l many=(u,R5 (nth ae li 0) (bo many) many,true):=by
    unfold ck;rw [e1];show (eL (bD B' A') st s,R5 (rootOf li) (bo many) many,true)=_
    rw [e2,rootOf,show decide ((li.length:Int)>0)=true from w3];rfl
   refine⟨[1000000001,1000000002],[],_,_,_,ζ,aC,true,0,(by show true=(ck B' A' l many).2.2;rw [e]),?_,?_,ζ⟩
   ·(show _=ob B' A' l many true);unfold ob;first|(rw [e];rfl)|rfl
   ·(show _=rN B' A' l many true);unfold rN;first|(rw [e];rfl)|rfl
  ·have arb:¬i<(bD B' A').length:=by have:=aD (p:=(i:Int)<((bD B' A').length:Int)) w2;omega
   have e2:eL (bD B' A') st s=u:=by rw [<-jV,ZB3 (by omega)];rfl
   have e:ck B' A' l many=(u,R5 ch (bo many) many,true):=by
    unfold ck;rw [e1];show (eL (bD B' A') st s,R5 (rootOf li) (bo many) many,true)=_
    rw [e2,rootOf,show decide ((li.length:Int)>0)=false from w4];rfl
   refine⟨[1000000001,1000000002],[],_,_,_,ζ,aC,true,0,(by show true=(ck B' A' l many).2.2;rw [e]),?_,?_,ζ⟩
   ·(show _=ob B' A' l many true);unfold ob;first|(rw [e];rfl)|rfl
   ·(show _=rN B' A' l many true);unfold rN;first|(rw [e];rfl)|rfl
