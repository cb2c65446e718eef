/- Part 12 of the proof of FnTableAll. -/
import Derived.BigCall
import Derived.Deep.OwnRows
import Derived.Laws.ResultCell
import Derived.Lib.BufferWrite
import Derived.Lib.OthersKept
import Derived.Lib.UnsafeStr
import Derived.RegionTactic
import Derived.Shelf.Strings.BuilderF
import Derived.Shelf.Strings.BuilderK
import Derived.WalkKit
import Derived.Test.YtndmmmcglebllaaGreatDoorRaf
import Derived.Test.YtndmmmcglebllaaGreatDoorRah
import Derived.Test.YtndmmmcglebllaaGreatDoorRaj
import Derived.Test.YtndmmmcglebllaaGreatDoorRak
set_option maxHeartbeats 20000000
set_option maxRecDepth 100000
set_option linter.all false
namespace Go.Proofs.YtndmmmcglebllaaGreatDoor
namespace GL
noncomputable section
def nK (s:ay):List ByteArray->Bool
 |[]=>true
 |x::l=>bif decide (x=⟨#[]⟩) then nK s l else bif !(aG x).2 then false else bif !(iX s (cK (aG x).1)) then false else nK s l
def amS {s:ay}{x:ByteArray}{l:List ByteArray}(h:decide (x=⟨#[]⟩)=true):nK s (x::l)=nK s l:=by rw [nK,h];rfl
def amV {s:ay}{x:ByteArray}{l:List ByteArray}(h:decide (x=⟨#[]⟩)=false) (h1:(!(aG x).2)=true):nK s (x::l)=false:=by rw [nK,h,h1];rfl
def amU {s:ay}{x:ByteArray}{l:List ByteArray}(h:decide (x=⟨#[]⟩)=false) (h1:(!(aG x).2)=false) (h2:(!(iX s (cK (aG x).1)))=true):nK s (x::l)=false:=by rw [nK,h,h1,h2];rfl
def amT {s:ay}{x:ByteArray}{l:List ByteArray}(h:decide (x=⟨#[]⟩)=false) (h1:(!(aG x).2)=false) (h2:(!(iX s (cK (aG x).1)))=false):nK s (x::l)=nK s l:=by rw [nK,h,h1,h2];rfl
def DG (s:ay) (t:bf):Bool:=bif iX s t then nK s (aE s t) else false
def abq {s:ay}{t:bf}(h:iX s t=false):DG s t=false:=by unfold DG;rw [h];rfl
def abp {s:ay}{t:bf}(h:iX s t=true):DG s t=nK s (aE s t):=by unfold DG;rw [h];rfl
theorem UE {s:ay}{t:bf}(h:DG s t=true):iX s t=true:=by
 cases h2:iX s t with
 |true=>rfl
 |false=>rw [abq h2] at h;cases h
def cU (s:ay) (t:bf):Bool:=iM s&&DG s t
def fZ {s:ay}{t:bf}(h:cU s t=true):wO s/\iX s t=true/\nK s (aE s t)=true:=by
 obtain⟨h1,h2⟩:=ZE0.1 h
 exact⟨pg.1 h1,UE h2,by rw [<-abp (UE h2)];exact h2⟩
def k9 (s:ay) (t:bf) (k:Int):dN×Bool:=bif cU s t then cW s t k else (dq,false)
def akV {s:ay}{t:bf}{k:Int}(h:cU s t=false):k9 s t k=(dq,false):=by unfold k9;rw [h];rfl
def adO {s:ay}{t:bf}{k:Int}(h:cU s t=true):k9 s t k=cW s t k:=by unfold k9;rw [h];rfl
def v8:List ByteArray->Nat->List Int
 |[],_=>[]
 |x::l,k=>bif decide (x≠⟨#[]⟩) then (k:Int)::v8 l (k+1) else v8 l (k+1)
def eI (s:ay) (t:bf):List Int×Bool:=bif cU s t then (v8 (aE s t) 0,true) else ([],false)
def ahm {s:ay}{t:bf}(h:cU s t=false):eI s t=([],false):=by unfold eI;rw [h];rfl
def xu {s:ay}{t:bf}(h:cU s t=true):eI s t=(v8 (aE s t) 0,true):=by unfold eI;rw [h];rfl
structure LsI (X:List ByteArray) (i:Nat) (out:List Int):Prop where
 x:i<=X.length
 e:out++v8 (X.drop i) i=v8 X 0
def LsI.z (X:List ByteArray):LsI X 0 []:=⟨ZA7 _,rfl⟩
def LsI.y {X:List ByteArray}{i:Nat}{out:List Int}(h:LsI X i out) (hi:i<X.length) (h2:decide (nth ab X i≠⟨#[]⟩)=true):LsI X (i+1) (out++[(i:Int)]):=
 ⟨hi,by rw [<-h.e,bJ (ek:=ab) hi,v8,h2,cond_true,ZC5];rfl⟩
def LsI.n {X:List ByteArray}{i:Nat}{out:List Int}(h:LsI X i out) (hi:i<X.length) (h2:decide (nth ab X i≠⟨#[]⟩)=false):LsI X (i+1) out:=
 ⟨hi,by rw [<-h.e,bJ (ek:=ab) hi,v8,h2,cond_false]⟩
def LsI.f {X:List ByteArray}{i:Nat}{out:List Int}(h:LsI X i out) (hi:¬i<X.length):v8 X 0=out:=by
 have:=h.e
 rw [ZB3 (by omega),v8,ZD4] at this
 exact this.symm
def NW:∀(l:List ByteArray) (k:Nat),(v8 l k).length<=l.length
 |[],_=>ZB0 _
 |x::l,k=>by
  have:=NW l (k+1)
  unfold v8
  cases decide (x≠⟨#[]⟩)<;>simp<;>omega
def LsI.len {X:List ByteArray}{i:Nat}{out:List Int}(h:LsI X i out):out.length<=X.length:=by
 have h1:=congrArg List.length h.e
 rw [ZA0] at h1
 have:=NW X 0;omega
def G5 (S:ay) (t:bf):Prop:=S.rd
def kF (S:ay) (t:bf):AV:=.s (.q (DG S t))
def aie (S:ay) (t:bf):List AV:=[]
def W3:cu where
 A:=[.a vj,.a [.int,.int,.int,.int,.int,.int,.int]]
 B:=[]
 pre:=λx b=>G5 (x.1) (x.2)
 r:=λx b _=>kF (x.1) (x.2)
 o:=λx b _=>aie (x.1) (x.2)
def als:Has Tryz.prog 31 W3:=by
 refine Has.fP zT zF zF (l:=[(63,CQ),(33,cD),(34,fC)]) ⟨acL,gb,oB,aa⟩ Tryz.func31 ?_
 rintro⟨⟨(aj:List ByteArray),(ak:List Int),(an:List Int),(ao:Int),(ah:List Pt),(aq:Int),(ai:List Pt),(ar:Bool)⟩,⟨(t1:Int),(t2:Int),(t3:Int),(t4:Int),(t5:Int),(t6:Int),(t7:Int)⟩⟩ _ (hp:G5 (aj,ak,an,ao,ah,aq,ai,ar) (t1,t2,t3,t4,t5,t6,t7))
 show vc _ _ _ _ (entry [.a [.vz ab aj,.vz ag ak,.vz ag an,.int ao,.vz ae ah,.int aq,.vz ae ai,.q ar],.a [.int t1,.int t2,.int t3,.int t4,.int t5,.int t6,.int t7]] []) _
 have dM:ay.rd (aj,ak,an,ao,ah,aq,ai,ar):=hp
 have hk:(!(iX (aj,ak,an,ao,ah,aq,ai,ar) (t1,t2,t3,t4,t5,t6,t7)))=false->(0<=t7/\t7<=16)/\bf.ok (t1,t2,t3,t4,t5,t6,t7)/\(aE (aj,ak,an,ao,ah,aq,ai,ar) (t1,t2,t3,t4,t5,t6,t7)).length=t7.toNat:=λh=>⟨(ZW (cr h)).1,D0 (cr h),eV (D0 (cr h))⟩
 refine⟨⟨⟨tv9,tv8,aa⟩,?_⟩,λx1 w2=>⟨λw3=>?_,λw4=>⟨⟨⟨tv9,tv8,aa⟩,?_,?_,?_,?_⟩,λx5 w6=>?_⟩⟩⟩
 all_goals first|refine aw ?_|refine ax ?_|exact bb|(dsimp only [CQ,xS,cD,dL,fC,gv];omega)|exact ba|exact dM|exact (HE (cr w4))|exact (hk w4).1.1|exact (hk w4).1.2|skip
 ·refine⟨[],[],_,_,_,ζ,aC,(),aa,?_,?_,ζ⟩
  ·(show _=kF (aj,ak,an,ao,ah,aq,ai,ar) (t1,t2,t3,t4,t5,t6,t7));unfold kF;first|(rw [abq (s:=(aj,ak,an,ao,ah,aq,ai,ar)) (t:=(t1,t2,t3,t4,t5,t6,t7)) (sW w3)];rfl)|rfl
  ·rfl
 ·obtain⟨⟨h0,h16⟩,cn,hl⟩:=hk w4
  have hy:=abp (s:=(aj,ak,an,ao,ah,aq,ai,ar)) (t:=(t1,t2,t3,t4,t5,t6,t7)) (cr w4)
  refine df (l:=[(63,CQ),(33,cD),(34,fC)]) (ex:=zT) (wr:=zF) (pt:=zF) ⟨acL,gb,oB,aa⟩ [.s 2,.s 3,.b 1002,.b 1003,.s 5,.b 170000] (λi:Nat=>[(.s 6,.int i)]) (λi=>(i:Int)<=t7/\nK (aj,ak,an,ao,ah,aq,ai,ar) ((aE (aj,ak,an,ao,ah,aq,ai,ar) (t1,t2,t3,t4,t5,t6,t7)).drop i)=nK (aj,ak,an,ao,ah,aq,ai,ar) (aE (aj,ak,an,ao,ah,aq,ai,ar) (t1,t2,t3,t4,t5,t6,t7))) (λi=>t7.toNat-i) 0 [] ⟨h0,rfl⟩ dP ?_
  rintro i ⟨(hi:(i:Int)<=t7),(hr:nK (aj,ak,an,ao,ah,aq,ai,ar) ((aE (aj,ak,an,ao,ah,aq,ai,ar) (t1,t2,t3,t4,t5,t6,t7)).drop i)=nK (aj,ak,an,ao,ah,aq,ai,ar) (aE (aj,ak,an,ao,ah,aq,ai,ar) (t1,t2,t3,t4,t5,t6,t7)))⟩
  have bR:decide ((i:Int)<t7)=true->i<(aE (aj,ak,an,ao,ah,aq,ai,ar) (t1,t2,t3,t4,t5,t6,t7)).length:=λh=>by have:=aF h;omega
  have db:=HI (nX (s:=(aj,ak,an,ao,ah,aq,ai,ar)) (t:=(t1,t2,t3,t4,t5,t6,t7)) dM) i
  have hd:∀h:decide ((i:Int)<t7)=true,DG (aj,ak,an,ao,ah,aq,ai,ar) (t1,t2,t3,t4,t5,t6,t7)=nK (aj,ak,an,ao,ah,aq,ai,ar) (nth ab (aE (aj,ak,an,ao,ah,aq,ai,ar) (t1,t2,t3,t4,t5,t6,t7)) i::(aE (aj,ak,an,ao,ah,aq,ai,ar) (t1,t2,t3,t4,t5,t6,t7)).drop (i+1)):=λh=>by rw [hy,<-hr,bJ (ek:=ab) (bR h)]
  have hn:∀h:decide ((i:Int)<t7)=true,nK (aj,ak,an,ao,ah,aq,ai,ar) ((aE (aj,ak,an,ao,ah,aq,ai,ar) (t1,t2,t3,t4,t5,t6,t7)).drop (i+1))=nK (aj,ak,an,ao,ah,aq,ai,ar) (nth ab (aE (aj,ak,an,ao,ah,aq,ai,ar) (t1,t2,t3,t4,t5,t6,t7)) i::(aE (aj,ak,an,ao,ah,aq,ai,ar) (t1,t2,t3,t4,t5,t6,t7)).drop (i+1))->((i+1:Nat):Int)<=t7/\nK (aj,ak,an,ao,ah,aq,ai,ar) ((aE (aj,ak,an,ao,ah,aq,ai,ar) (t1,t2,t3,t4,t5,t6,t7)).drop (i+1))=nK (aj,ak,an,ao,ah,aq,ai,ar) (aE (aj,ak,an,ao,ah,aq,ai,ar) (t1,t2,t3,t4,t5,t6,t7)):=λh e=>⟨by have:=aF h;omega,by rw [e,<-bJ (ek:=ab) (bR h),hr]⟩
  refine⟨λw1=>⟨⟨?_,?_⟩,?_,λw2=>⟨⟨?_,?_⟩,?_⟩,λw3=>⟨⟨tv2,?_⟩,λx4 w5=>⟨aa,λw6=>?_,λw7=>⟨⟨⟨tv9,tv8,aa⟩,?_⟩,λx8 w9=>⟨λdB=>?_,λiP=>⟨⟨?_,?_⟩,?_⟩⟩⟩⟩⟩⟩,λdW=>?_⟩
  all_goals first|refine aw ?_|refine ax ?_|exact bb|(dsimp only [CQ,xS,cD,dL,fC,gv];omega)|exact ba|exact bR w1|exact db|exact dM|skip
  ·refine⟨(i+1),[],?_,?_,?_⟩
   rotate_right
   ·exact bY
   ·exact hn w1 (amS w2).symm
   ·show t7.toNat-(i+1)<t7.toNat-i;have:=aF w1;omega
  ·have e:=(hd w1).trans (amV w3 w6)
   refine⟨[],[],_,_,_,ζ,aC,(),aa,?_,?_,ζ⟩
   ·(show _=kF (aj,ak,an,ao,ah,aq,ai,ar) (t1,t2,t3,t4,t5,t6,t7));unfold kF;first|(rw [e];rfl)|rfl
   ·rfl
  ·have e:=(hd w1).trans (amU w3 w7 dB)
   refine⟨[],[],_,_,_,ζ,aC,(),aa,?_,?_,ζ⟩
   ·(show _=kF (aj,ak,an,ao,ah,aq,ai,ar) (t1,t2,t3,t4,t5,t6,t7));unfold kF;first|(rw [e];rfl)|rfl
   ·rfl
  ·refine⟨(i+1),[],?_,?_,?_⟩
   rotate_right
   ·exact bY
   ·exact hn w1 (amT w3 w7 iP).symm
   ·show t7.toNat-(i+1)<t7.toNat-i;have:=aF w1;omega
  ·have h12:¬(i:Int)<t7:=aD dW
   have e:DG (aj,ak,an,ao,ah,aq,ai,ar) (t1,t2,t3,t4,t5,t6,t7)=true:=by rw [hy,<-hr,ZB3 (by omega)];rfl
   refine⟨[],[],_,_,_,ζ,aC,(),aa,?_,?_,ζ⟩
   ·(show _=kF (aj,ak,an,ao,ah,aq,ai,ar) (t1,t2,t3,t4,t5,t6,t7));unfold kF;first|(rw [e];rfl)|rfl
   ·rfl
def ya (S:ay) (t:bf):Prop:=S.gone.length<=1000000/\S.dead.length<=1000000
def pv (S:ay) (t:bf):AV:=.s (.q (cU S t))
def acq (S:ay) (t:bf):List AV:=[]
def IQ:cu where
 A:=[.a vj,.a [.int,.int,.int,.int,.int,.int,.int]]
 B:=[]
 pre:=λx b=>ya (x.1) (x.2)
 r:=λx b _=>pv (x.1) (x.2)
 o:=λx b _=>acq (x.1) (x.2)
def agE:Has Tryz.prog 15 IQ:=by
 refine Has.fP zT zF zF (l:=[(30,uW),(31,W3)]) ⟨SQ,als,aa⟩ Tryz.func15 ?_
 rintro⟨⟨(aj:List ByteArray),(ak:List Int),(an:List Int),(ao:Int),(ah:List Pt),(aq:Int),(ai:List Pt),(ar:Bool)⟩,⟨(t1:Int),(t2:Int),(t3:Int),(t4:Int),(t5:Int),(t6:Int),(t7:Int)⟩⟩ _ (hp:ya (aj,ak,an,ao,ah,aq,ai,ar) (t1,t2,t3,t4,t5,t6,t7))
 show vc _ _ _ _ (entry [.a [.vz ab aj,.vz ag ak,.vz ag an,.int ao,.vz ae ah,.int aq,.vz ae ai,.q ar],.a [.int t1,.int t2,.int t3,.int t4,.int t5,.int t6,.int t7]] []) _
 let A':=(aj,ak,an,ao,ah,aq,ai,ar)
 let B':=(t1,t2,t3,t4,t5,t6,t7)
 obtain⟨hg,hd⟩:=hp
 refine⟨⟨⟨tv9,aa⟩,?_,?_⟩,λx1 w2=>⟨aa,λw3=>⟨⟨⟨tv9,tv8,aa⟩,?_⟩,λx4 w5=>?_⟩,λw6=>?_⟩⟩
 all_goals first|refine aw ?_|refine ax ?_|exact bb|(dsimp only [uW,sV,W3,G5];omega)|exact ba|exact hg|exact hd|skip
 ·exact (pg.1 w3).rd
 ·have e:cU A' B'=DG A' B':=by unfold cU;rw [show iM A'=true from w3];rfl
  refine⟨[],[],_,_,_,ζ,aC,(),aa,?_,?_,ζ⟩
  ·(show _=pv A' B');unfold pv;first|(rw [e];rfl)|rfl
  ·rfl
 ·have e:cU A' B'=false:=by unfold cU;rw [show iM A'=false from w6];rfl
  refine⟨[],[],_,_,_,ζ,aC,(),aa,?_,?_,ζ⟩
  ·(show _=pv A' B');unfold pv;first|(rw [e];rfl)|rfl
  ·rfl
end
end GL
namespace GL
def xU (S:ay) (t:bf) (k:Int) (n:dN):Prop:=S.wg 1046000/\t.ok/\0<=k/\k<=15
def Y5 (S:ay) (t:bf) (k:Int) (n:dN) (z:Bool):Prop:=z=(aP S t k (aB n)).2.2
def pn (S:ay) (t:bf) (k:Int) (n:dN) (z:Bool):AV:=match z with |true=>.t [.a (nH 0 1 2 5 6 (aP S t k (aB n)).1),trA (aP S t k (aB n)).2.1,.s (.q true)] |false=>.t [.a (nH 0 1 2 3 4 (aP S t k (aB n)).1),trA (aP S t k (aB n)).2.1,.s (.q false)]
def rP (S:ay) (t:bf) (k:Int) (n:dN) (z:Bool):List AV:=match z with |true=>[.rs ab (aP S t k (aB n)).1.rows,.rs ag (aP S t k (aB n)).1.refs,.rs ag (aP S t k (aB n)).1.last,.zz,.zz,.rs ae (aP S t k (aB n)).1.gone,.rs ae (aP S t k (aB n)).1.dead] |false=>KF (aP S t k (aB n)).1++[.zz,.zz]
def II:cu where
 A:=[.a (stB 0 1 2 3 4),.a [.int,.int,.int,.int,.int,.int,.int],.s .int,.a [.int,.int,.int,.int,.int,.int,.int,.int,.int,.int]]
 B:=[.r ab,.r ag,.r ag,.r ae,.r ae]
 pre:=λx b=>stW x.1 b/\xU (iE x.1 b) (x.2.1) (x.2.2.1) (x.2.2.2)
 α:=λ_ _=>Bool
 φ:=λx b z=>Y5 (iE x.1 b) (x.2.1) (x.2.2.1) (x.2.2.2) z
 r:=λx b z=>pn (iE x.1 b) (x.2.1) (x.2.2.1) (x.2.2.2) z
 o:=λx b z=>rP (iE x.1 b) (x.2.1) (x.2.2.1) (x.2.2.2) z
 nf:=2
 mv:=true
def agx:Has Tryz.prog 27 II:=by
 refine Has.ofZ zT zF zF (l:=[(54,oM),(24,fM)]) ⟨HV,oZ,aa⟩ Tryz.func27 ?_
 rintro⟨⟨(C7:Nat),(C6:Nat),(C5:Nat),(ao:Int),(C4:Nat),(aq:Int),(C3:Nat),(ar:Bool)⟩,⟨(t1:Int),(t2:Int),(t3:Int),(t4:Int),(t5:Int),(t6:Int),(t7:Int)⟩,(k:Int),⟨(n1:Int),(n2:Int),(n3:Int),(n4:Int),(n5:Int),(n6:Int),(n7:Int),(n8:Int),(n9:Int),(cg:Int)⟩⟩ ⟨(aj:List ByteArray),(ak:List Int),(an:List Int),(ah:List Pt),(ai:List Pt)⟩ ⟨⟨(gR:C7=List.length aj),(gQ:C6=List.length ak),(gP:C5=List.length an),(gO:C4=List.length ah),(gN:C3=List.length ai)⟩,(hp:xU (aj,ak,an,ao,ah,aq,ai,ar) (t1,t2,t3,t4,t5,t6,t7) k (n1,n2,n3,n4,n5,n6,n7,n8,n9,cg))⟩
 subst gR gQ gP gO gN
 show vc _ _ _ _ (entry [.a [.xs 0 1 0 aj.length,.xs 1 1 0 ak.length,.xs 2 1 0 an.length,.int ao,.xs 3 5 0 ah.length,.int aq,.xs 4 5 0 ai.length,.q ar],.a [.int t1,.int t2,.int t3,.int t4,.int t5,.int t6,.int t7],.int k,.a [.int n1,.int n2,.int n3,.int n4,.int n5,.int n6,.int n7,.int n8,.int n9,.int cg]] [.rs ab aj,.rs ag ak,.rs ag an,.rs ae ah,.rs ae ai]) _
 let A':=(n1,n2,n3,n4,n5,n6,n7,n8,n9,cg)
 let B':=(aj,ak,an,ao,ah,aq,ai,ar)
 let C':=(t1,t2,t3,t4,t5,t6,t7)
 obtain⟨lf,cn,hk0,hk1⟩:=hp
 have lf:ay.wg B' 1046000:=lf
 have cn:bf.ok C':=cn
 have db:=NI A'
 refine⟨[.s 4,.b 1004],Sq11,ζ,[.s 5,.b 1005],Sq12,ζ,Sq2,Sq13,ζ,[.s 7,.b 1007],Sq14,ζ,Sq14,Sq15,ζ,⟨⟨tv11,aa⟩,aa⟩,?_,λx1 w2=>⟨[.s 11,.s 12,.s 13,.s 15,.b 0,.b 1,.b 2,.b 3,.b 4,.b 1000170001,.b 1000170000],[.s 16,.b 0,.b 1,.b 2,.b 3,.b 4,.b 1000170000,.b 1000170001],ζ,⟨⟨tv9,tv8,tv3⟩,⟨?_,?_,?_,?_,?_⟩,?_,?_,?_,?_,?_,?_,?_,?_⟩,?_,λ|false=>λw3=>⟨Sq16,Sq17,ζ,Sq16,Sq18,ζ,Sq16,Sq19,ζ,[.s 8,.s 17,.b 1008],[.b 1008],ζ,[.s 9,.s 18,.b 1009],[.b 1009],ζ,Sq19,Sq10,ζ,?_⟩ |true=>λw4=>⟨Sq16,Sq17,ζ,Sq16,Sq18,ζ,Sq16,Sq19,ζ,[.s 8,.s 17,.b 1008],[.b 1008],ζ,[.s 9,.s 18,.b 1009],[.b 1009],ζ,Sq19,Sq10,ζ,?_⟩⟩⟩
 all_goals first|refine aw ?_|refine ax ?_|exact bb|(dsimp only [oM,pE,fM,ij,iE];omega)|exact ba|exact lf.wf|exact cn.rd|exact cn.m1|exact lf.g|exact lf.d|exact ZA9 db (by decide)|exact⟨_,rfl⟩|skip
 ·have hz:(aP B' C' k (aB A')).2.2=false:=(show false=(aP B' C' k (aB A')).2.2 from w3).symm
  refine⟨[],[],_,_,_,ζ,aC,false,2,(by show false=(aP B' C' k (aB A')).2.2;rw [hz]),?_,?_,ζ⟩
  ·(show _=pn B' C' k A' false);unfold pn;first|(rw [hz];rfl)|rfl
  ·(show _=rP B' C' k A' false);unfold rP;first|(rw [hz];rfl)|rfl
 ·have hz:(aP B' C' k (aB A')).2.2=true:=(show true=(aP B' C' k (aB A')).2.2 from w4).symm
  refine⟨[1000170000,1000170001],[],_,_,_,ζ,aC,true,0,(by show true=(aP B' C' k (aB A')).2.2;rw [hz]),?_,?_,ζ⟩
  ·(show _=pn B' C' k A' true);unfold pn;first|(rw [hz];rfl)|rfl
  ·(show _=rP B' C' k A' true);unfold rP;first|(rw [hz];rfl)|rfl
abbrev NR (n:dN):dN:=(n.1,n.2.1+1,n.2.2)
def qv (s:ay) (t:bf) (k:Nat):0<=(nth gf (hZ s t) k).2.1/\(nth gf (hZ s t) k).2.1<=9:=by
 have h0:∀x:ByteArray,0<=(aG x).1.2.1/\(aG x).1.2.1<=9:=λx=>by
  cases h:(aG x).2 with
  |false=>rw [BY h];decide
  |true=>have:=il (NK h);omega
 unfold nth hZ
 rw [ZG7]
 cases (aE s t)[k]? with
 |none=>decide
 |some x=>exact h0 x
def FS.ami {u:ay}{t:bf}{x:Int}{text:ByteArray}(hF:FS u t) (hW:u.wg 10000) (hx:0<=x/\x<=15) (hz:false=(aP u t x text).2.2):tT u (aP u t x text).1:=(lL hW hF.fi.tree.ok hx.1 hx.2).2.2 hz.symm
def vF (r:List Int×Int):Prop:=Rdr r 900000
def UY (r:List Int×Int) (z:ay×bf×Nat×Int):Prop:=(z.1.gone.length<=20001/\z.1.dead.length<=20001)/\(r.2<=z.2.2.2/\z.2.2.2<=r.2+40000)/\z.2.2.1<=z.1.rows.length/\-1<=z.2.1.2.2.2.2.2.2/\z.2.1.2.2.2.2.2.2<=18
def UM (r:List Int×Int) (z:ay×bf×Nat×Int):AV:=.t [.a [.xs 1 1 z.2.2.1 (z.1.rows.length-z.2.2.1),.xs 2 1 0 z.1.refs.length,.xs 3 1 0 z.1.last.length,.int z.1.cz,.xs 4 5 0 z.1.gone.length,.int z.1.cm,.xs 5 5 0 z.1.dead.length,.q z.1.same],trA z.2.1]
def ZC (r:List Int×Int) (z:ay×bf×Nat×Int):List AV:=[.a [.vw nJ r.1,.int z.2.2.2],.rs ab z.1.rows,.rs ag z.1.refs,.rs ag z.1.last,.rs ae z.1.gone,.rs ae z.1.dead]
def CN:cu where
 A:=[.b 0]
 B:=[.a [.vw nJ,.int]]
 pre:=λx b=>vF b
 α:=λ_ _=>ay×bf×Nat×Int
 φ:=λx b z=>UY b z
 r:=λx b z=>UM b z
 o:=λx b z=>ZC b z
 nf:=5
def acJ:Has Tryz.prog 12 CN:=by
 refine Has.fP zT zF zF (l:=[(21,CO),(22,bE),(26,CR),(24,fM),(25,dZ),(27,II),(23,IG)]) ⟨acK,fk,acM,oZ,zE,agx,agv,aa⟩ Tryz.func12 ?_
 rintro _ ⟨(rb:List Int),(rp:Int)⟩ (hp:vF (rb,rp))
 show vc _ _ _ _ (entry [.s (.bp 0 0)] [.a [.vw nJ rb,.int rp]]) _
 have hr:Rdr (rb,rp) 900000:=hp
 have hp0:0<=rp:=hr.p0
 have hp1:rp<=900000:=hr.p1
 have hmm:∀{z:ay×bf×Int},(FS z.1 z.2.1/\z.1.wg 10000/\rp<=z.2.2/\z.2.2<=rp+20000)->0<((hZ z.1 z.2.1).length:Int)/\((hZ z.1 z.2.1).length:Int)<=16:=λ{z} h=>by
  rw [acB h.1.fi.tree.ok]
  have h1:=h.1.many;have h2:=h.1.fi.tree.m1;omega
 have hmn:∀{z:ay×bf×Int},(FS z.1 z.2.1/\z.1.wg 10000/\rp<=z.2.2/\z.2.2<=rp+20000)->0<=z.2.1.2.2.2.2.2.2/\z.2.1.2.2.2.2.2.2<=16:=λ{z} h=>⟨h.1.fi.tree.ok.m0,h.1.fi.tree.ok.m1⟩
 have hgd:∀{z:ay×bf×Int},(FS z.1 z.2.1/\z.1.wg 10000/\rp<=z.2.2/\z.2.2<=rp+20000)->z.1.gone.length<=20001/\z.1.dead.length<=20001:=λ{z} h=>⟨ZA9 h.2.1.g (by decide),ZA9 h.2.1.d (by decide)⟩
 have hp6:∀{n:Nat} {p:Int} {x:Int×Int},(n<=15/\0<n)->(x.1=0\/(0<=x.1/\x.1<(n:Int)))/\x.2=p+1->0<=x.1/\x.1<=15:=λhn h=>by have:=pk (n:=_) (by omega) h;omega
 refine⟨⟨tv2,?_⟩,λx1 w2=>⟨⟨tv3,?_,?_⟩,λx3 w4=>⟨λw5=>⟨Sq0,Sq23,ζ,[.s 4,.b 1004],Sq24,ζ,[.s 23,.s 24,.b 0,.b 170000,.b 170001,.b 170002,.b 170003,.b 170004,.b 260004,.b 260003,.b 260002,.b 260001,.b 260000],[.s 25,.b 0,.b 260000,.b 260001,.b 260002,.b 260003,.b 260004],ζ,⟨⟨aa,⟨⟨?_,?_⟩,⟨?_,?_⟩,⟨?_,?_⟩,aa,⟨?_,?_⟩,aa,⟨?_,?_⟩,tv2⟩,aa⟩,?_,?_⟩,?_,λx6 w7=>⟨[.s 5,.b 1005],Sq26,ζ,[.s 2,.s 25,.b 1002],[.b 1002],ζ,[.s 3,.s 26,.b 1003],[.b 1003],ζ,?_⟩⟩,λw8=>⟨λw9=>⟨[.s 4,.b 1004],Sq30,ζ,[.s 5,.b 1005],Sq31,ζ,Sq0,Sq32,ζ,[.s 32,.b 0],[.s 33,.b 0],ζ,⟨tv3,?_,?_⟩,?_,λzd iP=>⟨Sq0,Sq34,ζ,[.s 34,.b 0],[.s 35,.b 0],ζ,⟨tv3,?_,?_,?_⟩,?_,λve iL=>⟨[.s 30,.s 31,.s 33,.s 35,.b 170000,.b 170001,.b 170002,.b 170003,.b 170004,.b 1000370001,.b 1000370000],[.s 36,.b 170000,.b 170001,.b 170002,.b 170003,.b 170004,.b 1000370000,.b 1000370001],ζ,⟨⟨tv9,tv8,tv3⟩,⟨?_,?_,?_,?_,?_⟩,?_,?_,?_,?_,?_,?_,?_,?_⟩,?_,λ|false=>λgY=>⟨Sq36,Sq29,ζ,Sq29,Sq37,ζ,Sq29,Sq38,ζ,Sq29,Sq39,ζ,[.b 1006],[.s 6,.b 1006],ζ,[.b 1007],[.s 7,.b 1007],ζ,[.s 6,.s 37,.b 1006],[.b 1006],ζ,[.s 7,.s 38,.b 1007],[.b 1007],ζ,Sq39,Sq8,ζ,λnG=>⟨[.s 6,.b 1006],Sq41,ζ,[.s 7,.b 1007],Sq42,ζ,[.s 2,.s 41,.b 1002],[.b 1002],ζ,[.s 3,.s 42,.b 1003],[.b 1003],ζ,?_⟩,λkC=>⟨[.s 4,.b 1004],Sq78,ζ,[.s 5,.b 1005],Sq79,ζ,[.s 2,.s 78,.b 1002],[.b 1002],ζ,[.s 3,.s 79,.b 1003],[.b 1003],ζ,?_⟩⟩ |true=>λxh=>⟨Sq36,Sq29,ζ,Sq29,Sq37,ζ,Sq29,Sq38,ζ,Sq29,Sq39,ζ,[.b 1006],[.s 6,.b 1006],ζ,[.b 1007],[.s 7,.b 1007],ζ,[.s 6,.s 37,.b 1006],[.b 1006],ζ,[.s 7,.s 38,.b 1007],[.b 1007],ζ,Sq39,Sq8,ζ,λqU=>⟨[.s 6,.b 1006],Sq41,ζ,[.s 7,.b 1007],Sq42,ζ,[.s 2,.s 41,.b 1002],[.b 1002],ζ,[.s 3,.s 42,.b 1003],[.b 1003],ζ,?_⟩,λo9=>⟨[.s 4,.b 1004],Sq78,ζ,[.s 5,.b 1005],Sq79,ζ,[.s 2,.s 78,.b 1002],[.b 1002],ζ,[.s 3,.s 79,.b 1003],[.b 1003],ζ,?_⟩⟩⟩⟩⟩,λtl=>⟨λFW=>⟨⟨⟨⟨⟨?_,?_⟩,⟨?_,?_⟩,⟨?_,?_⟩,aa,⟨?_,?_⟩,aa,⟨?_,?_⟩,tv2⟩,tv8,aa⟩,?_,?_⟩,λx22 zi=>⟨⟨tv3,?_,?_⟩,λFP FV=>⟨⟨?_,?_⟩,⟨?_,?_⟩,[.s 4,.b 1004],Sq60,ζ,[.s 5,.b 1005],Sq61,ζ,Sq0,Sq62,ζ,[.s 62,.b 0],[.s 63,.b 0],ζ,⟨tv3,?_,?_⟩,?_,λtk w27=>⟨[.s 10,.b 1010],Sq64,ζ,[.s 60,.s 61,.s 63,.s 64,.b 170000,.b 170001,.b 170002,.b 170003,.b 170004,.b 1000660001,.b 1000660000],[.s 65,.b 170000,.b 170001,.b 170002,.b 170003,.b 170004,.b 1000660000,.b 1000660001],ζ,⟨⟨tv9,tv8,aa,tv11,aa⟩,⟨?_,?_,?_,?_,?_⟩,?_,?_,?_,?_⟩,?_,λ|false=>λw28=>⟨Sq65,Sq59,ζ,Sq59,Sq66,ζ,Sq59,Sq67,ζ,Sq59,Sq68,ζ,[.b 1011],[.s 11,.b 1011],ζ,[.b 1012],[.s 12,.b 1012],ζ,[.s 11,.s 66,.b 1011],[.b 1011],ζ,[.s 12,.s 67,.b 1012],[.b 1012],ζ,Sq68,Sq13,ζ,λw29=>⟨[.s 11,.b 1011],Sq70,ζ,[.s 12,.b 1012],Sq71,ζ,[.s 2,.s 70,.b 1002],[.b 1002],ζ,[.s 3,.s 71,.b 1003],[.b 1003],ζ,?_⟩,λw30=>⟨[.s 4,.b 1004],Sq78,ζ,[.s 5,.b 1005],Sq79,ζ,[.s 2,.s 78,.b 1002],[.b 1002],ζ,[.s 3,.s 79,.b 1003],[.b 1003],ζ,?_⟩⟩ |true=>λw31=>⟨Sq65,Sq59,ζ,Sq59,Sq66,ζ,Sq59,Sq67,ζ,Sq59,Sq68,ζ,[.b 1011],[.s 11,.b 1011],ζ,[.b 1012],[.s 12,.b 1012],ζ,[.s 11,.s 66,.b 1011],[.b 1011],ζ,[.s 12,.s 67,.b 1012],[.b 1012],ζ,Sq68,Sq13,ζ,λw32=>⟨[.s 11,.b 1011],Sq70,ζ,[.s 12,.b 1012],Sq71,ζ,[.s 2,.s 70,.b 1002],[.b 1002],ζ,[.s 3,.s 71,.b 1003],[.b 1003],ζ,?_⟩,λw33=>⟨[.s 4,.b 1004],Sq78,ζ,[.s 5,.b 1005],Sq79,ζ,[.s 2,.s 78,.b 1002],[.b 1002],ζ,[.s 3,.s 79,.b 1003],[.b 1003],ζ,?_⟩⟩⟩⟩⟩⟩,λw34=>⟨λw35=>⟨⟨?_,?_⟩,[.s 4,.b 1004],Sq78,ζ,[.s 5,.b 1005],Sq79,ζ,[.s 2,.s 78,.b 1002],[.b 1002],ζ,[.s 3,.s 79,.b 1003],[.b 1003],ζ,?_⟩,λw36=>⟨[.s 4,.b 1004],Sq78,ζ,[.s 5,.b 1005],Sq79,ζ,[.s 2,.s 78,.b 1002],[.b 1002],ζ,[.s 3,.s 79,.b 1003],[.b 1003],ζ,?_⟩⟩⟩⟩⟩⟩⟩
 all_goals first|refine aw ?_|refine ax ?_|exact bb|(dsimp only [CO,vG,bE,dv,CR,vI,fM,ij,dZ,mo,II,xU,IG,xR,iE];omega)|exact ba|exact hr|exact hr.at (show 0<=x1.2.2 by have e:rp<=x1.2.2/\x1.2.2<=rp+20000:=w2.2.2;omega) (show x1.2.2<=_ by have e:rp<=x1.2.2/\x1.2.2<=rp+20000:=w2.2.2;omega)|exact hr.at (show 0<=x3.2 by have e:rp<=x1.2.2/\x1.2.2<=rp+20000:=w2.2.2;have e3:x3.2=x1.2.2+1:=w4.2;omega) (show x3.2<=_ by have e:rp<=x1.2.2/\x1.2.2<=rp+20000:=w2.2.2;have e3:x3.2=x1.2.2+1:=w4.2;omega)|exact (show FS x1.1 x1.2.1 from w2.1).ta.hur w2.2.1 (by decide)|exact⟨(x1.1,0,x3.2),hgd w2,⟨ZC1 _,(by show x3.2<=x3.2+1100;omega)⟩,ZA7 _⟩|exact⟨(0,x3.2+1),.inl rfl,rfl⟩|exact (show FS x1.1 x1.2.1 from w2.1).fi.acc.wf.rd|exact (show FS x1.1 x1.2.1 from w2.1).fi.acc.wf|exact (show FS x1.1 x1.2.1 from w2.1).fi.tree.ok|exact (show FS x1.1 x1.2.1 from w2.1).fi.tree.ok.rd|exact (show FS x1.1 x1.2.1 from w2.1).fi.tree.ok.m1|exact ZE9 (hmm w2).2 (by decide)|exact ZA9 (hgd w2).1 (by decide)|exact ZA9 (hgd w2).2 (by decide)|exact (w2.2.1).mono (by decide)|exact⟨_,rfl⟩|exact hr.at (show 0<=zd.2 by have e:rp<=x1.2.2/\x1.2.2<=rp+20000:=w2.2.2;have e3:x3.2=x1.2.2+1:=w4.2;have e10:zd.2=x3.2+1:=iP.2;omega) (show zd.2<=_ by have e:rp<=x1.2.2/\x1.2.2<=rp+20000:=w2.2.2;have e3:x3.2=x1.2.2+1:=w4.2;have e10:zd.2=x3.2+1:=iP.2;omega)|exact⟨(⟨#[]⟩,zd.2),(by show ((0:Nat):Int)<=6;decide),ZC1 _,(by show zd.2<=zd.2+1000;omega)⟩|exact (pk (n:=6) (by decide) iP).1|(show zd.1<=15;have h:=(pk (n:=6) (by decide) iP).2;omega)|(show ve.1.size<=1000000;have h:(ve.1.size:Int)<=6:=iL.1;omega)|exact (pk (hmm w2).1 FV).1|exact (pk (hmm w2).1 FV).2|(show gz<=(nth gf (hZ x1.1 x1.2.1) FP.1.toNat).2.1+1;have h:=qv x1.1 x1.2.1 FP.1.toNat;unfold gz;omega)|(show (nth gf (hZ x1.1 x1.2.1) FP.1.toNat).2.1+1<=imax;have h:=qv x1.1 x1.2.1 FP.1.toNat;unfold imax;omega)|exact hr.at (show 0<=FP.2 by have e:rp<=x1.2.2/\x1.2.2<=rp+20000:=w2.2.2;have e3:x3.2=x1.2.2+1:=w4.2;have e10:FP.2=x3.2+1:=FV.2;omega) (show FP.2<=_ by have e:rp<=x1.2.2/\x1.2.2<=rp+20000:=w2.2.2;have e3:x3.2=x1.2.2+1:=w4.2;have e10:FP.2=x3.2+1:=FV.2;omega)|exact⟨(0,FP.2+1),.inl rfl,rfl⟩|exact (pk (n:=4) (by decide) w27).1|(show tk.1<=15;have h:=(pk (n:=4) (by decide) w27).2;omega)|(show gz<=x1.2.1.2.2.2.2.2.2+1;have h:=hmn w2;unfold gz;omega)|(show x1.2.1.2.2.2.2.2.2+1<=imax;have h:=hmn w2;unfold imax;omega)|(show x6.2.1+(x6.1.rows.length-x6.2.1)<=x6.1.rows.length;have h:x6.2.1<=x6.1.rows.length:=w7.2.2;omega)|skip
 all_goals first|exact absurd (show false=true from nG) Bool.noConfusion|exact absurd (show true=false from o9) Bool.noConfusion|exact absurd (show false=true from w29) Bool.noConfusion|exact absurd (show true=false from w33) Bool.noConfusion|skip
 ·have e:rp<=x1.2.2/\x1.2.2<=rp+20000:=w2.2.2
  have e3:x3.2=x1.2.2+1:=w4.2
  have hm:=hmn w2
  have wW:(-1:Int)<=x1.2.1.2.2.2.2.2.2:=by omega
  have CB:x1.2.1.2.2.2.2.2.2<=(18:Int):=by omega
  have e7:x3.2<=x6.2.2/\x6.2.2<=x3.2+1100:=w7.2.1
  refine⟨[260000,260001,260002,260003,260004],[],_,_,_,ζ,bZ,(x6.1,x1.2.1,x6.2.1,x6.2.2),⟨w7.1,⟨by show rp<=x6.2.2;omega,by show x6.2.2<=rp+40000;omega⟩,w7.2.2,wW,CB⟩,ζ,ζ,ζ⟩
 ·have e:rp<=x1.2.2/\x1.2.2<=rp+20000:=w2.2.2
  have e3:x3.2=x1.2.2+1:=w4.2
  have hm:=hmn w2
  have wW:(-1:Int)<=x1.2.1.2.2.2.2.2.2:=by omega
  have CB:x1.2.1.2.2.2.2.2.2<=(18:Int):=by omega
  have e10:zd.2=x3.2+1:=iP.2
  have e12:zd.2<=ve.2/\ve.2<=zd.2+1000:=iL.2
  have hx:0<=zd.1/\zd.1<=15:=by have h:=pk (n:=6) (by decide) iP;omega
  have hS:tT x1.1 (aP x1.1 x1.2.1 zd.1 ve.1).1:=FS.ami w2.1 w2.2.1 hx gY
  refine⟨[170000,170001,170002,170003,170004],[],_,_,_,ζ,bZ,((aP x1.1 x1.2.1 zd.1 ve.1).1,x1.2.1,0,ve.2),⟨⟨by show (aP x1.1 x1.2.1 zd.1 ve.1).1.gone.length<=20001;rw [hS.gone];exact (hgd w2).1,by show (aP x1.1 x1.2.1 zd.1 ve.1).1.dead.length<=20001;rw [hS.dead];exact (hgd w2).2⟩,⟨by show rp<=ve.2;omega,by show ve.2<=rp+40000;omega⟩,ZA7 _,wW,CB⟩,(congrArg (λx=>AV.t [A0.a x,trA x1.2.1]) (mM (b0:=1) (b1:=2) (b2:=3) (b3:=4) (b4:=5) hS w2.2.1.wf)),ζ,ζ⟩
 ·have e:rp<=x1.2.2/\x1.2.2<=rp+20000:=w2.2.2
  have e3:x3.2=x1.2.2+1:=w4.2
  have hm:=hmn w2
  have wW:(-1:Int)<=x1.2.1.2.2.2.2.2.2:=by omega
  have CB:x1.2.1.2.2.2.2.2.2<=(18:Int):=by omega
  have e10:zd.2=x3.2+1:=iP.2
  have e12:zd.2<=ve.2/\ve.2<=zd.2+1000:=iL.2
  have hx:0<=zd.1/\zd.1<=15:=by have h:=pk (n:=6) (by decide) iP;omega
  have hP:=lL (text:=ve.1) w2.2.1 (show FS x1.1 x1.2.1 from w2.1).fi.tree.ok hx.1 hx.2
  refine⟨[170000,170001,170002,1000370000,1000370001],[],_,_,_,ζ,bZ,((aP x1.1 x1.2.1 zd.1 ve.1).1,(aP x1.1 x1.2.1 zd.1 ve.1).2.1,0,ve.2),⟨⟨ZA9 hP.1.g (by decide),ZA9 hP.1.d (by decide)⟩,⟨by show rp<=ve.2;omega,by show ve.2<=rp+40000;omega⟩,ZA7 _,by show (-1:Int)<=(aP x1.1 x1.2.1 zd.1 ve.1).2.1.2.2.2.2.2.2;have h:0<=(aP x1.1 x1.2.1 zd.1 ve.1).2.1.2.2.2.2.2.2:=hP.2.1.m0;omega,by show (aP x1.1 x1.2.1 zd.1 ve.1).2.1.2.2.2.2.2.2<=(18:Int);have h:(aP x1.1 x1.2.1 zd.1 ve.1).2.1.2.2.2.2.2.2<=16:=hP.2.1.m1;omega⟩,ζ,ζ,ζ⟩
 ·exact (show∀N:Int,(0<=N/\N<=9)->gz<=N+1 from λN h=>by unfold gz;omega) _ (qv x1.1 x1.2.1 FP.1.toNat)
 ·exact (show∀N:Int,(0<=N/\N<=9)->N+1<=imax from λN h=>by unfold imax;omega) _ (qv x1.1 x1.2.1 FP.1.toNat)
 ·have e:rp<=x1.2.2/\x1.2.2<=rp+20000:=w2.2.2
  have e3:x3.2=x1.2.2+1:=w4.2
  have hm:=hmn w2
  have wW:(-1:Int)<=x1.2.1.2.2.2.2.2.2:=by omega
  have CB:x1.2.1.2.2.2.2.2.2<=(18:Int):=by omega
  have e10:FP.2=x3.2+1:=FV.2
  have e12:tk.2=FP.2+1:=w27.2
  have hx:0<=tk.1/\tk.1<=15:=by have h:=pk (n:=4) (by decide) w27;omega
  have hS:tT x1.1 (aP x1.1 x1.2.1 tk.1 (aB (NR (nth gf (hZ x1.1 x1.2.1) FP.1.toNat)))).1:=FS.ami w2.1 w2.2.1 hx w28
  refine⟨[170000,170001,170002,170003,170004],[],_,_,_,ζ,bZ,((aP x1.1 x1.2.1 tk.1 (aB (NR (nth gf (hZ x1.1 x1.2.1) FP.1.toNat)))).1,x1.2.1,0,tk.2),⟨⟨by show (aP x1.1 x1.2.1 tk.1 (aB (NR (nth gf (hZ x1.1 x1.2.1) FP.1.toNat)))).1.gone.length<=20001;rw [hS.gone];exact (hgd w2).1,by show (aP x1.1 x1.2.1 tk.1 (aB (NR (nth gf (hZ x1.1 x1.2.1) FP.1.toNat)))).1.dead.length<=20001;rw [hS.dead];exact (hgd w2).2⟩,⟨by show rp<=tk.2;omega,by show tk.2<=rp+40000;omega⟩,ZA7 _,wW,CB⟩,(congrArg (λx=>AV.t [A0.a x,trA x1.2.1]) (mM (b0:=1) (b1:=2) (b2:=3) (b3:=4) (b4:=5) hS w2.2.1.wf)),ζ,ζ⟩
 ·have e:rp<=x1.2.2/\x1.2.2<=rp+20000:=w2.2.2
  have e3:x3.2=x1.2.2+1:=w4.2
  have hm:=hmn w2
  have wW:(-1:Int)<=x1.2.1.2.2.2.2.2.2:=by omega
  have CB:x1.2.1.2.2.2.2.2.2<=(18:Int):=by omega
  have e10:FP.2=x3.2+1:=FV.2
  have e12:tk.2=FP.2+1:=w27.2
  have hx:0<=tk.1/\tk.1<=15:=by have h:=pk (n:=4) (by decide) w27;omega
  have hP:=lL (text:=(aB (NR (nth gf (hZ x1.1 x1.2.1) FP.1.toNat)))) w2.2.1 (show FS x1.1 x1.2.1 from w2.1).fi.tree.ok hx.1 hx.2
  refine⟨[170000,170001,170002,1000660000,1000660001],[],_,_,_,ζ,bZ,((aP x1.1 x1.2.1 tk.1 (aB (NR (nth gf (hZ x1.1 x1.2.1) FP.1.toNat)))).1,(aP x1.1 x1.2.1 tk.1 (aB (NR (nth gf (hZ x1.1 x1.2.1) FP.1.toNat)))).2.1,0,tk.2),⟨⟨ZA9 hP.1.g (by decide),ZA9 hP.1.d (by decide)⟩,⟨by show rp<=tk.2;omega,by show tk.2<=rp+40000;omega⟩,ZA7 _,by show (-1:Int)<=(aP x1.1 x1.2.1 tk.1 (aB (NR (nth gf (hZ x1.1 x1.2.1) FP.1.toNat)))).2.1.2.2.2.2.2.2;have h:0<=(aP x1.1 x1.2.1 tk.1 (aB (NR (nth gf (hZ x1.1 x1.2.1) FP.1.toNat)))).2.1.2.2.2.2.2.2:=hP.2.1.m0;omega,by show (aP x1.1 x1.2.1 tk.1 (aB (NR (nth gf (hZ x1.1 x1.2.1) FP.1.toNat)))).2.1.2.2.2.2.2.2<=(18:Int);have h:(aP x1.1 x1.2.1 tk.1 (aB (NR (nth gf (hZ x1.1 x1.2.1) FP.1.toNat)))).2.1.2.2.2.2.2.2<=16:=hP.2.1.m1;omega⟩,ζ,ζ,ζ⟩
 ·have e:rp<=x1.2.2/\x1.2.2<=rp+20000:=w2.2.2
  have e3:x3.2=x1.2.2+1:=w4.2
  have hm:=hmn w2
  have wW:(-1:Int)<=x1.2.1.2.2.2.2.2.2:=by omega
  have CB:x1.2.1.2.2.2.2.2.2<=(18:Int):=by omega
  refine⟨[170000,170001,170002,170003,170004],[],_,_,_,ζ,bZ,(x1.1,(x1.2.1.1,x1.2.1.2.1,x1.2.1.2.2.1,x1.2.1.2.2.2.1,x1.2.1.2.2.2.2.1,x1.2.1.2.2.2.2.2.1,x1.2.1.2.2.2.2.2.2+1),0,x3.2),⟨hgd w2,⟨by show rp<=x3.2;omega,by show x3.2<=rp+40000;omega⟩,ZA7 _,by show (-1:Int)<=x1.2.1.2.2.2.2.2.2+1;omega,by show x1.2.1.2.2.2.2.2.2+1<=(18:Int);omega⟩,ζ,ζ,ζ⟩
 ·have e:rp<=x1.2.2/\x1.2.2<=rp+20000:=w2.2.2
  have e3:x3.2=x1.2.2+1:=w4.2
  have hm:=hmn w2
  have wW:(-1:Int)<=x1.2.1.2.2.2.2.2.2:=by omega
  have CB:x1.2.1.2.2.2.2.2.2<=(18:Int):=by omega
  refine⟨[170000,170001,170002,170003,170004],[],_,_,_,ζ,bZ,(x1.1,x1.2.1,0,x3.2),⟨hgd w2,⟨by show rp<=x3.2;omega,by show x3.2<=rp+40000;omega⟩,ZA7 _,wW,CB⟩,ζ,ζ,ζ⟩
end GL
namespace GL
open Go.RowKit
abbrev iw (n:dN):Array Value:= #[.int .i64 n.1,.int .i64 n.2.1,.int .i64 n.2.2.1,.int .i64 n.2.2.2.1,.int .i64 n.2.2.2.2.1,.int .i64 n.2.2.2.2.2.1,.int .i64 n.2.2.2.2.2.2.1,.int .i64 n.2.2.2.2.2.2.2.1,.int .i64 n.2.2.2.2.2.2.2.2.1,.int .i64 n.2.2.2.2.2.2.2.2.2]
abbrev ndV (n:dN):Value:=.agg (iw n)
def al9 (w:World) (v:Value):Option dN->Prop
 |none=>v= .pointer none
 |some n=>∃b,v= .pointer (some ⟨b,0,none⟩)/\w.heap[b]?=some (.cells (iw n) 42 (0,0))
def al9.kept {w w':World}{v:Value}{x:Option dN}(h:al9 w v x) (hk:∀(b:Nat) (cs:Array Value),w.heap[b]?=some (Obj.cells cs 42 (0,0))->w'.heap[b]?=w.heap[b]?):al9 w' v x:=by
 cases x with
 |none=>exact h
 |some n=>
  obtain⟨b,h1,h2⟩:=h
  exact⟨b,h1,(hk b _ h2).trans h2⟩
def C8 (w:World) (B n k:Nat) (X:Nat->Option dN):Prop:=
 ∃f:Nat->Value,w.rowIs B 55 n f/\(∀j,k<=j->f j= .pointer none)/\∀j,j<k->al9 w (f j) (X j)
def fY {w:World}{b:Nat}{o:Obj}(h:w.heap[b]?=some o):b<w.heap.size:=(ZE3.1 h).1
def C8.grow {w w':World}{B n k:Nat}{X:Nat->Option dN}(h:C8 w B n k X) (hb:Below w.heap.size w w'):C8 w' B n k X:=by
 obtain⟨f,⟨c,h1,h2,h3⟩,h4,h5⟩:=h
 exact⟨f,⟨c,(hb.block _ (fY h1)).trans h1,h2,h3⟩,h4,λj hj=>(h5 j hj).kept λb cs hc=>hb.block _ (fY hc)⟩
def C8.skip {w:World}{B n k:Nat}{X:Nat->Option dN}(h:C8 w B n k X) (hx:X k=none):C8 w B n (k+1) X:=by
 obtain⟨f,h1,h4,h5⟩:=h
 refine⟨f,h1,λj hj=>h4 j (by omega),λj hj=>?_⟩
 rcases Nat.lt_or_ge j k with hjk |hjk
 ·exact h5 j hjk
 ·have:j=k:=by omega
  subst this
  rw [hx];exact h4 j (ZB0 _)
def C8.set {w:World}{B n k b:Nat}{X:Nat->Option dN}{m:dN}(h:C8 w B n k X) (hk:k<n) (hx:X k=some m) (hb:w.heap[b]?=some (.cells (iw m) 42 (0,0))):C8 (w.setCell ⟨B,k,none⟩ (.pointer (some ⟨b,0,none⟩))) B n (k+1) X:=by
 obtain⟨f,h1,h4,h5⟩:=h
 have ft:∀(b':Nat) (cs:Array Value),w.heap[b']?=some (Obj.cells cs 42 (0,0))->(w.setCell ⟨B,k,none⟩ (.pointer (some ⟨b,0,none⟩))).heap[b']?=w.heap[b']?:=λb' cs hc=>by
  have hbb:b'≠B:=by
   rintro rfl
   obtain⟨c,hc2,_⟩:=h1
   rw [hc2] at hc;cases hc
  exact Go.Deep.blk_setCell_other _ _ _ _ hbb
 refine⟨λj=>if j=k then .pointer (some ⟨b,0,none⟩) else f j,h1.set k _,λj hj=>?_,λj hj=>?_⟩
 ·dsimp only;rw [if_neg (by omega)];exact h4 j (by omega)
 ·dsimp only
  by_cases hjk:j=k
  ·subst hjk
   rw [if_pos rfl,hx]
   exact⟨b,rfl,(ft b _ hb).trans hb⟩
  ·rw [if_neg hjk]
   exact (h5 j (by omega)).kept ft
def LQ (H G V:Nat->Bool):Nat->Nat->Bool
 |0,_=>true
 |f+1,k=>bif H k then LQ H G V f (k+1) else bif !(G k) then false else bif !(V k) then false else LQ H G V f (k+1)
def o7 (w:World) (v:Value) (n:Nat) (X:Nat->Option dN):Prop:=∃B,v= .slice (some ⟨B,0,none⟩) n n/\C8 w B n n X
def agm (W:World) (rcv t0 t1 t2 t3 t4 t5 t6:Value) (ok:Bool) (L:List Pt) (H G V:Nat->Bool) (R:Nat->ByteArray) (N:Nat->dN) (hn:L.length<=16)
   (hLV:∀w,Below W.heap.size W w->Calls Tryz.prog 55 #[rcv,.agg #[t0,t1,t2,t3,t4,t5,t6]] w λe w'=>∃v,e= .returned (.tuple #[v,.bool ok])/\Below w.heap.size w w'/\(ok=true->akQ w' v L))
   (hPH:∀w k (h:k<L.length),Below W.heap.size W w->Calls Tryz.prog 56 #[.agg #[.int .i64 L[k].1,.int .i64 L[k].2.1,.int .i64 L[k].2.2.1,.int .i64 L[k].2.2.2.1,.int .i64 L[k].2.2.2.2]] w λe w'=>e= .returned (.bool (H k))/\Below w.heap.size w w')
   (hRD:∀w k (h:k<L.length),Below W.heap.size W w->Calls Tryz.prog 57 #[rcv,.agg #[.int .i64 L[k].1,.int .i64 L[k].2.1,.int .i64 L[k].2.2.1,.int .i64 L[k].2.2.2.1,.int .i64 L[k].2.2.2.2]] w λe w'=>(∃q,e= .returned (.tuple #[.string (R k),.bool q]))/\Below w.heap.size w w')
   (hNG:∀w k,k<L.length->Below W.heap.size W w->Calls Tryz.prog 58 #[.string (R k)] w λe w'=>e= .returned (.tuple #[ndV (N k),.bool (G k)])/\Below w.heap.size w w')
   (hLN:∀w k,k<L.length->Below W.heap.size W w->Calls Tryz.prog 55 #[rcv,.agg #[.int .i64 (N k).2.2.2.1,.int .i64 (N k).2.2.2.2.1,.int .i64 (N k).2.2.2.2.2.1,.int .i64 (N k).2.2.2.2.2.2.1,.int .i64 (N k).2.2.2.2.2.2.2.1,.int .i64 (N k).2.2.2.2.2.2.2.2.1,.int .i64 (N k).2.2.2.2.2.2.2.2.2]] w λe w'=>∃v,e= .returned (.tuple #[v,.bool (V k)])/\Below w.heap.size w w'):
  Calls Tryz.prog 28 #[rcv,.agg #[t0,t1,t2,t3,t4,t5,t6]] W λe w'=>∃v,e= .returned (.tuple #[v,.bool (bif ok then LQ H G V L.length 0 else false)])/\Below W.heap.size W w'/\((bif ok then LQ H G V L.length 0 else false)=true->o7 w' v L.length λk=>bif H k then none else some (N k)):=by
 have hmk:=λn (h:n<=1000000)=>run_make_row' (P:=Tryz.prog) 52 55 (.pointer none) 8 (by kernel_rfl) (by kernel_rfl) rfl .i64 .i64 n (by omega) (by omega)
 have aq0:=hmk L.length (by omega)
 have aq1:∀W:World,(Instr.makeSlice 52 (.int .i64 0) (.int .i64 0)).run Tryz.prog W= .ok (.slice (some ⟨W.heap.size,0,none⟩) 0 0) (W.alloc (.cells (madeCells #[.pointer none] 0) 55)):=hmk 0 (by omega)
 go_enter Tryz.func28,Tryz.ntmps28
 have b0:Below W.heap.size W (W.alloc (.cells #[t0,t1,t2,t3,t4,t5,t6] 33)):=(Below.refl _ W).alloc (ZB0 _) _
 go_wp2_with (go_at_call 55;refine (hLV _ ?_).mono ?_)
 ·exact b0
 rintro e w1 ⟨v,rfl,hB1,hv⟩
 have b1:Below W.heap.size W w1:=b0.trans (hB1.mono b0.size)
 cases ok with
 |false=>
  go_wp2
  go_ret2
  exact⟨_,rfl,b1,λh=>by cases h⟩
 |true=>
  rcases hv rfl with ⟨hL,p,cap,rfl⟩ |⟨vb,vo,cap,rfl,hvb,iz⟩
  ·subst hL
   go_wp2
   refine wp_loop_rounds 1 ?_
   rw [rounds_succ]
   go_wp2
   go_ret2
   exact⟨_,rfl,b1.alloc b1.size _,λ_=>⟨w1.heap.size,rfl,λ_=>.pointer none,World.rowIs_made _ _ _ _,λ_ _=>rfl,λj hj=>absurd hj (Nat.not_lt_zero _)⟩⟩
  ·clear aq1 hmk
   go_wp2
   go_loopw [30] (λi wr=>∃k:Nat,k<=L.length/\i= .int .i64 k/\Below w1.heap.size w1 wr/\C8 wr w1.heap.size L.length k (λk=>bif H k then none else some (N k))/\LQ H G V (L.length-k) k=LQ H G V L.length 0) (λi _=>L.length-(intOf i).toNat)
   case atStart=>exact⟨0,ZA7 _,rfl,(Below.refl _ _).alloc (ZB0 _) _,⟨λ_=>.pointer none,World.rowIs_made _ _ _ _,λ_ _=>rfl,λj hj=>absurd hj (Nat.not_lt_zero _)⟩,rfl⟩
   case round=>
    obtain⟨k,hk,rfl,zO,lZ,hg⟩:=hrel
    clear aq0
    by_cases bR:k<L.length
    ·obtain⟨c0,c1,c2,c3,c4⟩:=iz k bR
     have d0:=(zO.cell (p:=⟨vb,vo+k*5,none⟩) hvb).trans c0
     have d1:=(zO.cell (p:=⟨vb,vo+k*5+1,none⟩) hvb).trans c1
     have d2:=(zO.cell (p:=⟨vb,vo+k*5+2,none⟩) hvb).trans c2
     have d3:=(zO.cell (p:=⟨vb,vo+k*5+3,none⟩) hvb).trans c3
     have d4:=(zO.cell (p:=⟨vb,vo+k*5+4,none⟩) hvb).trans c4
     clear c0 c1 c2 c3 c4 iz hLV
     have bW:Below W.heap.size W wr:=b1.trans (zO.mono b1.size)
     rw [show L.length-k=(L.length-(k+1))+1 by omega,LQ] at hg
     have bA:Below wr.heap.size wr (wr.alloc (.cells #[.int .i64 L[k].1,.int .i64 L[k].2.1,.int .i64 L[k].2.2.1,.int .i64 L[k].2.2.2.1,.int .i64 L[k].2.2.2.2] 31)):=(Below.refl _ _).alloc (ZB0 _) _
     go_wp2_with (go_at_call 56;refine (hPH _ k bR (bW.trans (bA.mono bW.size))).mono ?_)
     rintro e w3 ⟨rfl,b3⟩
     have e3:Below wr.heap.size wr w3:=bA.trans (b3.mono bA.size)
     have wo:w3.heap[wr.heap.size]?=some (Obj.cells #[.int .i64 L[k].1,.int .i64 L[k].2.1,.int .i64 L[k].2.2.1,.int .i64 L[k].2.2.2.1,.int .i64 L[k].2.2.2.2] 31 (0,0)):=(b3.block _ (by show _<(wr.heap.push _).size;rw [ZH8];omega)).trans (heap_alloc_new wr _)
     have f0:w3.cell? ⟨wr.heap.size,0,none⟩=some (.int .i64 L[k].1):=by rw [bO wo];rfl
     have f1:w3.cell? ⟨wr.heap.size,1,none⟩=some (.int .i64 L[k].2.1):=by rw [bO wo];rfl
     have f2:w3.cell? ⟨wr.heap.size,2,none⟩=some (.int .i64 L[k].2.2.1):=by rw [bO wo];rfl
     have f3:w3.cell? ⟨wr.heap.size,3,none⟩=some (.int .i64 L[k].2.2.2.1):=by rw [bO wo];rfl
     have f4:w3.cell? ⟨wr.heap.size,4,none⟩=some (.int .i64 L[k].2.2.2.2):=by rw [bO wo];rfl
     cases hH:H k with
     |true=>
      rw [hH,cond_true] at hg
      go_wp2
      refine⟨⟨k+1,bR,ζ,zO.trans (e3.mono zO.size),(lZ.grow e3).skip (by rw [hH];rfl),hg⟩,?_⟩
      show L.length-((k:Int)+1).toNat<L.length-((k:Int)).toNat
      omega
     |false=>
      rw [hH,cond_false] at hg
      go_wp2_with (go_at_call 57;refine (hRD _ k bR ?_).mono ?_)
      ·exact bW.trans (e3.mono bW.size)
      rintro e w4 ⟨⟨q,rfl⟩,b4⟩
      have e4:Below wr.heap.size wr w4:=e3.trans (b4.mono e3.size)
      go_wp2_with (go_at_call 58;refine (hNG _ k bR ?_).mono ?_)
      ·exact bW.trans (e4.mono bW.size)
      rintro e w5 ⟨rfl,b5⟩
      have e5:Below wr.heap.size wr w5:=e4.trans (b5.mono e4.size)
      cases hG:G k with
      |false=>
       rw [hG] at hg
       go_wp2
       go_ret2
       exact⟨_,by rw [<-hg];rfl,(bW.trans (e5.mono bW.size)).alloc (ZA9 bW.size e5.size) _,λh=>by rw [<-hg] at h;cases h⟩
      |true=>
       rw [hG] at hg
       have e5':Below wr.heap.size wr (w5.alloc (.cells (iw (N k)) 42)):=e5.alloc e5.size _
       go_wp2_with (go_at_call 55;refine (hLN _ k bR ?_).mono ?_)
       ·exact bW.trans (e5'.mono bW.size)
       rintro e w6 ⟨y,rfl,b6⟩
       have e6:Below wr.heap.size wr w6:=e5'.trans (b6.mono e5'.size)
       cases hV:V k with
       |false=>
        rw [hV] at hg
        go_wp2
        go_ret2
        exact⟨_,by rw [<-hg];rfl,bW.trans (e6.mono bW.size),λh=>by rw [<-hg] at h;cases h⟩
       |true=>
        rw [hV] at hg
        have ho6:=lZ.grow e6
        have asd:w6.cell? ⟨w1.heap.size,k,none⟩=some (.pointer none):=by
         obtain⟨f,h1,h2,_⟩:=ho6
         rw [h1.cell bR,h2 k (ZB0 _)]
        have asc:w6.frozen? ⟨w1.heap.size,k,none⟩=false:=by
         obtain⟨f,h1,_,_⟩:=ho6
         exact h1.frozen k
        have hnb:w6.heap[w5.heap.size]?=some (.cells (iw (N k)) 42 (0,0)):=(b6.block _ (by show _<(w5.heap.push _).size;rw [ZH8];omega)).trans (heap_alloc_new w5 _)
        have WH:=ho6.set bR (m:=N k) (by rw [hH];rfl) hnb
        have agO:Below w1.heap.size w1 (w6.setCell ⟨w1.heap.size,k,none⟩ (.pointer (some ⟨w5.heap.size,0,none⟩))):=(zO.trans (e6.mono zO.size)).setCell (p:=⟨w1.heap.size,k,none⟩) (ZB0 _) _
        go_wp2
        refine⟨⟨k+1,bR,ζ,agO,WH,hg⟩,?_⟩
        show L.length-((k:Int)+1).toNat<L.length-((k:Int)).toNat
        omega
    ·have hkk:k=L.length:=by omega
     subst hkk
     rw [Nat.sub_self,LQ] at hg
     go_wp2
     go_ret2
     exact⟨_,by rw [<-hg];rfl,b1.trans (zO.mono b1.size),λ_=>⟨w1.heap.size,rfl,lZ⟩⟩
end GL
namespace GL
open Go.RowKit
def cO (s sep:ByteArray):ByteArray×ByteArray×Bool:=(⟨(Lib.cut s.data.toList sep.data.toList).1.toArray⟩,⟨(Lib.cut s.data.toList sep.data.toList).2.1.toArray⟩,(Lib.cut s.data.toList sep.data.toList).2.2)
def aky:cu:=E2 [.s .str,.s .str] (λx=>x.1.size<=1000000) λx=>.t [.s (.str (cO x.1 x.2).1),.s (.str (cO x.1 x.2).2.1),.s (.q (cO x.1 x.2).2.2)]
def amt:Has Tryz.prog 140 aky:=by
 refine Has.lib ⟨_,Tryz.func140,by rfl,by decide⟩ (λx=>⟨rfl,rfl⟩) λ(x:ByteArray×ByteArray) (hp:x.1.size<=1000000) W T β vs hT hN cB=>?_
 obtain⟨s,sep⟩:=x
 obtain⟨v,u,rfl⟩:∃v u,vs=[v,u]:=by
  match vs,cB with
  |[v,u],_=>exact⟨v,u,rfl⟩
  |[],h=>exact h.elim
  |[_],h=>exact h.2.elim
  |_::_::_::_,h=>exact h.2.2.elim
 have hv:v= .string s:=cB.1
 have hu:u= .string sep:=cB.2.1
 subst hv;subst hu
 obtain⟨cs,e,fr,h1,m,rfl⟩:=KT hT hN (g:=0) (p:=λcs=>∃n,cs= #[.int .i64 n]) (by unfold uO;simp)
 have hm:W.cell? ⟨0,0,none⟩=some (.int .i64 m):=by rw [bO h1];rfl
 have hp1:s.size<=1000000:=hp
 have hs:s.size<4294967281:=by omega
 refine (Tryz.strings_Cut s sep m W hs hm).mono ?_
 rintro e w' ⟨rfl,n,rfl⟩
 refine⟨_,ζ,⟨ζ,ζ,ζ,ZB0 _,λ_ _=>rfl⟩,?_⟩
 exact⟨_,rfl,rfl,rfl,rfl,trivial⟩
def am2 (s:ByteArray) (ash:s.size<=1000000) (w:World):Calls Tryz.prog 167 #[.string s] w λe w'=>e= .returned (.string s)/\Below w.heap.size w w':=by
 by_cases h0:s.size=0
 ·have hs:s=⟨#[]⟩:=ByteArray.ext (Array.eq_empty_of_size_eq_zero h0)
  subst hs
  go_enter Tryz.func167,Tryz.ntmps167
  go_wp2
  go_ret
  exact⟨rfl,Below.refl _ _⟩
 ·obtain⟨M,hM⟩:∃M,M=madeCells #[Value.int .u8 0] s.size:=⟨_,rfl⟩
  have hMs:M.size=s.size:=by rw [hM];exact size_madeCells _ _
  have hmk:∀W:World,(Instr.makeSlice 22 (.int .i64 (s.size:Int)) (.int .i64 (s.size:Int))).run Tryz.prog W= .ok (.slice (some ⟨W.heap.size,0,none⟩) s.size s.size) (W.alloc (.cells M 5)):=λW=>by
   rw [hM]
   exact run_make_row' (P:=Tryz.prog) 22 5 (.int .u8 0) 1 (by kernel_rfl) (by kernel_rfl) rfl .i64 .i64 s.size (by omega) (by omega) W
  clear hM
  have hcp:=Lib.run_copy_row_string (P:=Tryz.prog) (w.alloc (.cells M 5)) 22 9 3 5 w.heap.size 0 s.size s.size s M 5 (by kernel_rfl) (by kernel_rfl) (heap_alloc_new w _) (ZB0 _) (by omega)
  obtain⟨Y,hY⟩:∃Y,Y=(M.toList.take 0++Lib.byteCells s.data.toList++M.toList.drop (0+s.size)).toArray:=⟨_,rfl⟩
  rw [<-hY] at hcp
  have hYl:Y.toList=Lib.byteCells s.data.toList:=by
   rw [hY,List.toList_toArray,List.take_zero,ZC9,List.drop_of_length_le (by rw [ZD6];omega),ZD4]
  have hYs:Y.size=s.size:=by rw [<-ZD6,hYl,Lib.byteCells_length,<-Lib.size_eq]
  have hgY:((w.alloc (.cells M 5)).setRow w.heap.size Y).heap[w.heap.size]?=some (.cells Y 5 (0,0)):=setRow_heap _ _ M _ 5 (0,0) (heap_alloc_new w _)
  have ft:s.data.toList≠[]:=λe=>h0 (by rw [Lib.size_eq,e];rfl)
  have hUS:=Lib.run_unsafeString_row (P:=Tryz.prog) ((w.alloc (.cells M 5)).setRow w.heap.size Y) 199 3 9 5 (by kernel_rfl) (by kernel_rfl) w.heap.size Y.size (by unfold World.shape?;rw [hgY]) s.data.toList ft (by rw [<-Lib.size_eq];omega) (by rw [<-Lib.size_eq];omega)
   (λj x hx=>Lib.cells_of_row hgY Y.size j _ (by rw [ZC4 (by rw [ZD6];exact ZB0 _),hYl];simp [Lib.byteCells,hx]))
  rw [<-Lib.size_eq] at hUS
  clear hY
  go_enter Tryz.func167,Tryz.ntmps167
  go_wp2
  go_ret
  have hb1:Below w.heap.size w (w.alloc (.cells M 5)):=(Below.refl _ w).alloc (ZB0 _) _
  have hb2:Below w.heap.size (w.alloc (.cells M 5)) ((w.alloc (.cells M 5)).setRow w.heap.size Y):=⟨rfl,rfl,rfl,by simp,λk hk=>setRow_other _ _ _ _ (by omega)⟩
  exact⟨rfl,Lib.below_freeze (hb1.trans hb2) (p:=⟨w.heap.size,0,none⟩) (ZB0 _) _⟩
def PR:cu:=E2 [.s .str] (λs=>s.size<=1000000) λs=>.s (.str s)
def aar:Has Tryz.prog 141 PR:=by
 refine Has.lib ⟨_,Tryz.func141,by rfl,by decide⟩ (λx=>⟨rfl,rfl⟩) λ(s:ByteArray) (hp:s.size<=1000000) W T β vs hT hN cB=>?_
 obtain⟨v,rfl⟩:∃v,vs=[v]:=by
  match vs,cB with
  |[v],_=>exact⟨v,rfl⟩
  |[],h=>exact h.elim
  |_::_::_,h=>exact h.2.elim
 have hv:v= .string s:=cB.1
 subst hv
 have h:Calls Tryz.prog 141 #[.string s] W λe w'=>e= .returned (.string s)/\Below W.heap.size W w':=by
  go_enter Tryz.func141,Tryz.ntmps141
  go_wp2_with (go_at_call 167;refine (am2 s hp _).mono ?_)
  rintro e w' ⟨rfl,hB⟩
  go_wp2
  go_ret
  exact⟨rfl,hB⟩
 refine h.mono ?_
 rintro e w' ⟨rfl,hB⟩
 exact⟨_,rfl,hB,rfl⟩
end GL
namespace GL
def ajd (c:UInt8):∀(p t:List UInt8),c∉p->Lib.indexByte (p++c::t) c=p.length
 |[],t,_=>by simp [Lib.indexByte]
 |b::p,t,h=>by
  have hb:b≠c:=λe=>h (e ▸ ZI4)
  have ih:=ajd c p t (λhm=>h (ZI0 _ hm))
  show (if b==c then 0 else if Lib.indexByte (p++c::t) c== -1 then -1 else Lib.indexByte (p++c::t) c+1)=_
  rw [ih,if_neg (by simpa using hb),if_neg (by simp<;>omega)]
  simp
theorem aeE (c:UInt8):∀(l:List UInt8),c∉l->Lib.indexByte l c= -1
 |[],_=>rfl
 |b::l,h=>by
  have hb:b≠c:=λe=>h (e ▸ ZI4)
  have ih:=aeE c l (λhm=>h (ZI0 _ hm))
  show (if b==c then 0 else if Lib.indexByte l c== -1 then -1 else Lib.indexByte l c+1)=_
  rw [ih,if_neg (by simpa using hb)];rfl
def F7 {s:ByteArray}{c:UInt8}{p t:List UInt8}(h:lb s=p++c::t) (hn:c∉p):cO s ⟨#[c]⟩=(⟨p.toArray⟩,⟨t.toArray⟩,true):=by
 have hi:Lib.index s.data.toList (⟨#[c]⟩:ByteArray).data.toList=p.length:=by
  show Lib.index (lb s) [c]=_
  rw [Lib.index_one,h,ajd c p t hn]
 have hd:s.data.toList=p++c::t:=h
 unfold cO Lib.cut
 rw [hi,if_pos (by omega)]
 show ((⟨(List.take p.length s.data.toList).toArray⟩,⟨(List.drop (p.length+1) s.data.toList).toArray⟩,true):ByteArray×ByteArray×Bool)=_
 rw [hd,List.take_left,show p.length+1=(p++[c]).length by simp,show p++c::t=(p++[c])++t by simp,List.drop_left]
def ahz {s:ByteArray}{c:UInt8}(h:c∉lb s):(cO s ⟨#[c]⟩).2.2=false:=by
 have hi:Lib.index s.data.toList (⟨#[c]⟩:ByteArray).data.toList= -1:=by
  show Lib.index (lb s) [c]=_
  rw [Lib.index_one,aeE c _ h]
 unfold cO Lib.cut
 rw [hi];rfl
def RM {s:ByteArray}{c:UInt8}(h:(cO s ⟨#[c]⟩).2.2=true):lb s=lb (cO s ⟨#[c]⟩).1++c::lb (cO s ⟨#[c]⟩).2.1:=by
 by_cases hm:c∈lb s
 ·obtain⟨p,t,e,hn⟩:=List.eq_append_cons_of_mem hm
  rw [F7 e hn];exact e
 ·rw [ahz hm] at h;cases h
def ahy (s sep:ByteArray):(cO s sep).1.size<=s.size/\(cO s sep).2.1.size<=s.size:=by
 have e2:s.data.toList.length=s.size:=ZD6
 unfold cO Lib.cut
 by_cases h:0<=Lib.index s.data.toList sep.data.toList
 ·rw [if_pos h]
  refine⟨?_,?_⟩
  ·show (List.take _ s.data.toList).length<=s.size
   rw [ZB6];omega
  ·show (List.drop _ s.data.toList).length<=s.size
   rw [ZC8];omega
 ·rw [if_neg h]
  exact⟨ZA8 e2,ZA7 _⟩
def X8 {s:ByteArray}{c:UInt8}(h:(cO s ⟨#[c]⟩).2.2=true):(cO s ⟨#[c]⟩).2.1.size<s.size:=by
 have h1:=congrArg List.length (RM h)
 rw [ZA0,ZA1,<-cT,<-cT,<-cT] at h1
 omega
theorem JI:∀{l:List ByteArray}{out:ByteArray},out.size+(ma l).length<=2048->(dk l out).2=true
 |[],_,_=>rfl
 |x::l,out,h=>by
  simp only [ma,ZA0,ZA1,<-cT] at h
  have db:(out++bL x.size++⟨#[58]⟩++x).size=out.size+(bL x.size).size+1+x.size:=by
   simp only [ZB4];rfl
  unfold dk
  rw [decide_eq_false (by omega),cond_false,decide_eq_false (by rw [db];omega),cond_false]
  exact JI (by rw [db];omega)
def agV {s:ByteArray}{l:List ByteArray}(h:lb s=ma l) (hs:s.size<=2048) (hl:l.length<=60):bK l=(s,true):=by
 have h60:decide ((l.length:Int)<=60)=true:=decide_eq_true (by omega)
 have hy:(dk l ⟨#[]⟩).2=true:=JI (by show 0+_<=_;rw [<-h,<-cT];omega)
 rw [eF h60]
 refine Prod.ext (nq ?_) hy
 rw [(s9 hy).1,h];rfl
def RA {s:ByteArray}{l:List ByteArray}(h:lb s=ma l) (hs:s.size<=2048) (hl:l.length<=60):az s=(l,true):=by
 have e:=agV h hs hl
 have:=r6 (l:=l) (by rw [e])
 rw [e] at this;exact this
def Q9 {s:ByteArray}(h:(az s).2=true):lb s=ma (az s).1/\s.size<=2048/\(az s).1.length<=60/\∀x∈(az s).1,x.size<=2048:=by
 cases h48:decide ((s.size:Int)<=2048) with
 |false=>rw [jv h48] at h;cases h
 |true=>
  have hs:s.size<=2048:=by have:=aF h48;omega
  cases hf:J8 (s.size+1) s 0 [] with
  |none=>rw [fL h48 hf] at h;cases h
  |some out=>
   rw [iB h48 hf] at h ⊢
   cases h1: !(bK out).2 with
   |true=>rw [KX h1] at h;cases h
   |false=>
    cases h2:decide ((bK out).1≠s) with
    |true=>rw [KW h2] at h;cases h
    |false=>
     rw [KV h1 h2]
     have e1:(bK out).1=s:=Classical.not_not.1 (aD h2)
     have e2:(bK out).2=true:=by simpa using h1
     cases h60:decide ((out.length:Int)<=60) with
     |false=>rw [qx h60] at e2;cases e2
     |true=>
      rw [eF h60] at e1 e2
      have h3:=s9 e2
      rw [e1] at h3
      exact⟨h3.1,hs,by show out.length<=60;have:=aF h60;omega,h3.2.1⟩
def Q8 {s:ByteArray}(h:(az s).2=false):az s=([],false):=by
 cases h48:decide ((s.size:Int)<=2048) with
 |false=>exact jv h48
 |true=>
  cases hf:J8 (s.size+1) s 0 [] with
  |none=>exact fL h48 hf
  |some out=>
   rw [iB h48 hf] at h ⊢
   cases h1: !(bK out).2 with
   |true=>exact KX h1
   |false=>
    cases h2:decide ((bK out).1≠s) with
    |true=>exact KW h2
    |false=>rw [KV h1 h2] at h;cases h
def aiy (s:ByteArray):0<=(aA s).1:=by
 cases h:(aA s).2 with
 |true=>exact (num_inv (show aA s=((aA s).1,true) by rw [<-h])).2.1
 |false=>
  unfold aA at h ⊢
  cases hc:decide ((D9 s).2=0)||decide ((D9 s).2≠(s.size:Int)) with
  |true=>exact ZC1 _
  |false=>rw [hc] at h;cases h
structure FgS (s:ByteArray) (out:List ByteArray) (rest:ByteArray):Prop where
 sz:s.size<=2048
 len:out.length<=60
 e:lb s=ma out++lb rest
 all:∀l,lb s=ma l->l.length<=60->∃r,l=out++r/\lb rest=ma r
theorem aa8:∀(a b:List ByteArray),ma (a++b)=ma a++ma b
 |[],_=>rfl
 |x::a,b=>by rw [ZH4,ma,ma,aa8 a b];simp
def FgS.z {s:ByteArray}(h:s.size<=2048):FgS s [] s:=⟨h,ZA7 _,rfl,λl h _=>⟨l,rfl,h⟩⟩
def FgS.rest {s rest:ByteArray}{out:List ByteArray}(h:FgS s out rest):rest.size<=2048:=by
 have h1:=congrArg List.length h.e
 rw [ZA0,<-cT,<-cT] at h1
 have:=h.sz;omega
def FgS.y {s rest:ByteArray}{out:List ByteArray}(h:FgS s out rest) (h1:(cO rest ⟨#[58]⟩).2.2=true) (h2:(aA (cO rest ⟨#[58]⟩).1).2=true) (h3:(aA (cO rest ⟨#[58]⟩).1).1<=(cO rest ⟨#[58]⟩).2.1.size) (h4:out.length≠60):
  FgS s (out++[(cO rest ⟨#[58]⟩).2.1.extract 0 (aA (cO rest ⟨#[58]⟩).1).1.toNat]) ((cO rest ⟨#[58]⟩).2.1.extract (aA (cO rest ⟨#[58]⟩).1).1.toNat (cO rest ⟨#[58]⟩).2.1.size):=by
 have hi:=RM h1
 obtain⟨q1,q2,q3⟩:=num_inv (show aA (cO rest ⟨#[58]⟩).1=((aA (cO rest ⟨#[58]⟩).1).1,true) by rw [<-h2])
 generalize hn:(aA (cO rest ⟨#[58]⟩).1).1=n at *
 generalize hT:(cO rest ⟨#[58]⟩).2.1=t at *
 have hi:lb rest=lb (bL n)++58::lb t:=by rw [<-q1];exact hi
 have uM:List.take t.size (lb t)=lb t:=ZC4 (by rw [cT];exact ZB0 _)
 have db:(t.extract 0 n.toNat).size=n.toNat:=by rw [ZC2];omega
 have hd:(((t.extract 0 n.toNat).size:Nat):Int)=n:=by rw [db];omega
 have KR:lb (t.extract 0 n.toNat)++lb (t.extract n.toNat t.size)=lb t:=by
  rw [iJ,iJ,ZD8,uM,ZF3]
 refine⟨h.sz,by rw [ZA0];have:=h.len;simp only [ZA1,ZA4];omega,?_,λl hl h60=>?_⟩
 ·rw [h.e,aa8,ZC5]
  congr 1
  show lb rest=(lb (bL _)++58::(lb _++[]))++_
  rw [hd,hi,ZD4,<-KR]
  simp
 ·obtain⟨r,rfl,hr⟩:=h.all l hl h60
  cases r with
  |nil=>rw [hi] at hr;have:=congrArg List.length hr;simp [ma] at this
  |cons x r=>
   have hr:lb rest=lb (bL x.size)++58::(lb x++ma r):=hr
   have hc:=F7 (s:=rest) (c:=58) hr (mC (by decide))
   have hc1:lb (bL n)=lb (bL x.size):=by
    rw [<-q1]
    show lb (cO rest ⟨#[58]⟩).1=_
    rw [hc]
   have hxn:n=(x.size:Int):=by
    have hx9:x.size<1000000000:=by
     have h5:=congrArg List.length hr
     simp only [ZA0,ZA1,<-cT] at h5
     have:=h.rest;omega
    have a1:=cI (n:=n) q2 (by omega)
    have a2:=cI (n:=(x.size:Int)) (by omega) (by omega)
    rw [nq hc1,a2] at a1
    exact (congrArg Prod.fst a1).symm
   have hc2:lb t=lb x++ma r:=by
    rw [<-hT]
    show lb (cO rest ⟨#[58]⟩).2.1=_
    rw [hc]
   have hxl:n.toNat=(lb x).length:=by rw [<-cT];omega
   have hx:t.extract 0 n.toNat=x:=nq (by rw [iJ,ZD8,hc2,hxl,List.take_left])
   refine⟨r,by rw [hx];simp,?_⟩
   rw [iJ,uM,hc2,hxl,List.drop_left]
def FgS.n {s rest:ByteArray}{out:List ByteArray}(h:FgS s out rest) (hr:rest≠⟨#[]⟩) (hb:(cO rest ⟨#[58]⟩).2.2=true->(aA (cO rest ⟨#[58]⟩).1).2=true->(aA (cO rest ⟨#[58]⟩).1).1<=(cO rest ⟨#[58]⟩).2.1.size->out.length≠60->False):az s=([],false):=by
 cases hy:(az s).2 with
 |false=>exact Q8 hy
 |true=>
  obtain⟨h1,_,h3,h4⟩:=Q9 hy
  generalize (az s).1=l at *
  obtain⟨r,rfl,hr2⟩:=h.all l h1 h3
  cases r with
  |nil=>exact absurd (nq (hr2.trans rfl)) hr
  |cons x r=>
   have hr2:lb rest=lb (bL x.size)++58::(lb x++ma r):=hr2
   have hc:=F7 (s:=rest) (c:=58) hr2 (mC (by decide))
   have hx:=h4 x (by simp)
   have a2:=cI (n:=(x.size:Int)) (by omega) (by omega)
   have e1:(cO rest ⟨#[58]⟩).1=bL x.size:=nq (by show lb (cO rest ⟨#[58]⟩).1=_;rw [hc])
   have e2:lb (cO rest ⟨#[58]⟩).2.1=lb x++ma r:=by show lb (cO rest ⟨#[58]⟩).2.1=_;rw [hc]
   refine (hb (by show (cO rest ⟨#[58]⟩).2.2=true;rw [hc]) (by rw [e1,a2]) ?_ ?_).elim
   ·rw [e1,a2]
    have:=congrArg List.length e2
    rw [ZA0,<-cT,<-cT] at this
    show (x.size:Int)<=_
    omega
   ·rw [ZA0,ZA1] at h3;omega
def FgS.f {s rest:ByteArray}{out:List ByteArray}(h:FgS s out rest) (hr:rest=⟨#[]⟩):az s=(out,true):=by
 subst hr
 exact RA (by rw [h.e,acG,ZD4]) h.sz h.len
end GL
namespace GL
noncomputable section
def vwS {x:ByteArray}{l:List ByteArray}{b:Bool}:AV.t [.s (.vw ab (List.take (l.length+1) (x::l))),.s (.q b)]= .t [.s (.vw ab (x::l)),.s (.q b)]:=by rw [show List.take (l.length+1) (x::l)=x::l from ZC4 (ZB0 _)]
def fU (s:ByteArray):Prop:=s.size<=1000000
def bP (s:ByteArray):AV:=.t [.s (.vw ab (az s).1),.s (.q (az s).2)]
def QU (s:ByteArray):List AV:=[]
def iD:cu where
 A:=[.s .str]
 B:=[]
 pre:=λx b=>fU x
 r:=λx b _=>bP x
 o:=λx b _=>QU x
def EE:Has Tryz.prog 102 iD:=by
 refine Has.aqu zT zF zF (l:=[(140,aky),(103,dc),(141,PR)]) ⟨amt,oA,aar,aa⟩ Tryz.func102 ?_
 rintro (s:ByteArray) _ (hp:fU s)
 show vc _ _ _ _ (entry [.str s] []) _
 unfold fU at hp
 refine⟨λw1=>?_,λw2=>?_⟩
 all_goals first|refine aw ?_|refine ax ?_|exact bb|(dsimp only [dc,di];omega)|exact ba|skip
 ·have e:az s=([],false):=jv (decide_eq_false (by have:=aF w1;omega))
  refine⟨[],[],_,_,_,ζ,bZ,(),0,trivial,by show Wk (bP s) _;unfold bP;rw [e];exact Wk.tup ⟨Wk.nil _,Wk.refl _,trivial⟩,ζ,ζ⟩
 ·have hs:s.size<=2048:=by have:=aD (p:=(s.size:Int)>2048) w2;omega
  refine jq (l:=[(140,aky),(103,dc),(141,PR)]) (ex:=zT) (wr:=zF) (pt:=zF) ⟨amt,oA,aar,aa⟩ [.s 0] (λy:List ByteArray×ByteArray=>match y.1 with |[]=>[(.s 4,.s (.v (.slice none 0 0))),(.s 5,.str y.2)] |x::l=>[(.s 4,.s (.xs 1007 1 0 (l.length+1))),(.s 5,.str y.2),(.b 1007,.rs ab (x::l))]) (λy=>FgS s y.1 y.2) (λy=>y.2.size) ([],s) [] (FgS.z hs) dP ?_
  rintro⟨out,rest⟩ (hF:FgS s out rest)
  have hrs:=hF.rest
  have hlen:=hF.len
  have hct:=ahy rest ⟨#[58]⟩
  have hnb:0<=(aA (cO rest ⟨#[58]⟩).1).1:=aiy _
  cases out with
  |nil=>
   refine⟨λw1=>⟨⟨tv3,?_⟩,λx2 w3=>⟨⟨tv2,?_⟩,λx4 w5=>⟨aa,λw6=>?_,λw7=>⟨aa,λw8=>?_,λw9=>⟨aa,λdB=>?_,λiP=>⟨λdW=>?_,λiL=>⟨⟨?_,?_,?_⟩,⟨tv2,?_⟩,λx14 nG=>⟨aa,⟨⟨?_,?_⟩,?_,?_⟩,⟨?_,?_,?_⟩,?_⟩⟩⟩⟩⟩⟩⟩⟩,λkC=>?_⟩
   all_goals first|refine aw ?_|refine ax ?_|exact bb|(dsimp only [dc,di];omega)|exact ba|(show rest.size<=1000000;omega)|(show (cO rest ⟨#[58]⟩).1.size<=1000000;omega)|exact hnb|skip
   ·have e:=hF.n (aF w1) (λa _ _ _=>absurd ((pJ w6).symm.trans a) Bool.noConfusion)
    refine⟨[],[],_,_,_,ζ,bZ,(),0,trivial,by show Wk (bP s) _;unfold bP;rw [e];exact Wk.tup ⟨Wk.nil _,Wk.refl _,trivial⟩,ζ,ζ⟩
   ·have e:=hF.n (aF w1) (λ_ a _ _=>absurd ((pJ w8).symm.trans a) Bool.noConfusion)
    refine⟨[],[],_,_,_,ζ,bZ,(),0,trivial,by show Wk (bP s) _;unfold bP;rw [e];exact Wk.tup ⟨Wk.nil _,Wk.refl _,trivial⟩,ζ,ζ⟩
   ·have e:=hF.n (aF w1) (λ_ _ a _=>by have h:=aF dB;exact absurd h (ZH9.2 a))
    refine⟨[],[],_,_,_,ζ,bZ,(),0,trivial,by show Wk (bP s) _;unfold bP;rw [e];exact Wk.tup ⟨Wk.nil _,Wk.refl _,trivial⟩,ζ,ζ⟩
   ·have e:=hF.n (aF w1) (λ_ _ _ a=>absurd dW (by decide))
    refine⟨[],[],_,_,_,ζ,bZ,(),0,trivial,by show Wk (bP s) _;unfold bP;rw [e];exact Wk.tup ⟨Wk.nil _,Wk.refl _,trivial⟩,ζ,ζ⟩
   ·show ((cO rest ⟨#[58]⟩).2.1.extract 0 (aA (cO rest ⟨#[58]⟩).1).1.toNat).size<=1000000
    rw [ZC2];omega
   ·refine⟨([(cO rest ⟨#[58]⟩).2.1.extract 0 (aA (cO rest ⟨#[58]⟩).1).1.toNat],(cO rest ⟨#[58]⟩).2.1.extract (aA (cO rest ⟨#[58]⟩).1).1.toNat (cO rest ⟨#[58]⟩).2.1.size),[(1007,1051)],?_,?_,?_⟩
    rotate_right
    ·exact bY
    ·exact hF.y (cr w7) (cr w9) (ZH9.1 (aD iP)) (by decide)
    ·have h1:(cO rest ⟨#[58]⟩).2.1.size<rest.size:=X8 (cr w7)
     show ((cO rest ⟨#[58]⟩).2.1.extract (aA (cO rest ⟨#[58]⟩).1).1.toNat (cO rest ⟨#[58]⟩).2.1.size).size<rest.size
     rw [ZC2];omega
   ·have e:=hF.f (Classical.not_not.1 (aD kC))
    refine⟨[],[],_,_,_,ζ,bZ,(),0,trivial,by show Wk (bP s) _;unfold bP;rw [e];exact Wk.tup ⟨Wk.nil _,Wk.refl _,trivial⟩,ζ,ζ⟩
  |cons z l=>
   refine⟨λw1=>⟨⟨tv3,?_⟩,λx2 w3=>⟨⟨tv2,?_⟩,λx4 w5=>⟨aa,λw6=>?_,λw7=>⟨aa,λw8=>?_,λw9=>⟨aa,λdB=>?_,λiP=>⟨λdW=>?_,λiL=>⟨⟨?_,?_,?_⟩,⟨tv2,?_⟩,λx14 nG=>⟨aa,⟨⟨?_,?_⟩,?_,?_⟩,⟨?_,?_,?_⟩,?_⟩⟩⟩⟩⟩⟩⟩⟩,λkC=>?_⟩
   all_goals first|refine aw ?_|refine ax ?_|exact bb|(dsimp only [dc,di];omega)|exact ba|(show rest.size<=1000000;omega)|(show (cO rest ⟨#[58]⟩).1.size<=1000000;omega)|exact hnb|skip
   ·have e:=hF.n (aF w1) (λa _ _ _=>absurd ((pJ w6).symm.trans a) Bool.noConfusion)
    refine⟨[],[],_,_,_,ζ,bZ,(),0,trivial,by show Wk (bP s) _;unfold bP;rw [e];exact Wk.tup ⟨Wk.nil _,Wk.refl _,trivial⟩,ζ,ζ⟩
   ·have e:=hF.n (aF w1) (λ_ a _ _=>absurd ((pJ w8).symm.trans a) Bool.noConfusion)
    refine⟨[],[],_,_,_,ζ,bZ,(),0,trivial,by show Wk (bP s) _;unfold bP;rw [e];exact Wk.tup ⟨Wk.nil _,Wk.refl _,trivial⟩,ζ,ζ⟩
   ·have e:=hF.n (aF w1) (λ_ _ a _=>by have h:=aF dB;exact absurd h (ZH9.2 a))
    refine⟨[],[],_,_,_,ζ,bZ,(),0,trivial,by show Wk (bP s) _;unfold bP;rw [e];exact Wk.tup ⟨Wk.nil _,Wk.refl _,trivial⟩,ζ,ζ⟩
   ·have e:=hF.n (aF w1) (λ_ _ _ a=>a (by have h:=aF dW;show l.length+1=60;omega))
    refine⟨[],[],_,_,_,ζ,bZ,(),0,trivial,by show Wk (bP s) _;unfold bP;rw [e];exact Wk.tup ⟨Wk.nil _,Wk.refl _,trivial⟩,ζ,ζ⟩
   ·show ((cO rest ⟨#[58]⟩).2.1.extract 0 (aA (cO rest ⟨#[58]⟩).1).1.toNat).size<=1000000
    rw [ZC2];omega
   ·refine⟨(z::(l++[(cO rest ⟨#[58]⟩).2.1.extract 0 (aA (cO rest ⟨#[58]⟩).1).1.toNat]),(cO rest ⟨#[58]⟩).2.1.extract (aA (cO rest ⟨#[58]⟩).1).1.toNat (cO rest ⟨#[58]⟩).2.1.size),[(1007,1051)],?_,?_,?_⟩
    rotate_right
    ·exact bY
    ·exact hF.y (cr w7) (cr w9) (ZH9.1 (aD iP)) (λh=>aD iL (by show ((l.length+1:Nat):Int)=60;have h:l.length+1=60:=h;omega))
    ·have h1:(cO rest ⟨#[58]⟩).2.1.size<rest.size:=X8 (cr w7)
     show ((cO rest ⟨#[58]⟩).2.1.extract (aA (cO rest ⟨#[58]⟩).1).1.toNat (cO rest ⟨#[58]⟩).2.1.size).size<rest.size
     rw [ZC2];omega
   ·have e:=hF.f (Classical.not_not.1 (aD kC))
    refine⟨[],[],_,_,_,ζ,bZ,(),0,trivial,by show Wk (bP s) _;unfold bP;rw [e];exact Wk.of_eq vwS.symm,ζ,ζ⟩
def j8 (f:List ByteArray):Prop:=f.length=3/\∀k,(nth ab f k).size<=1000000
def j4 (f:List ByteArray):AV:=.t [trA ((bC (nth ab f 0)).1.1,(bC (nth ab f 0)).1.2.1,(bC (nth ab f 0)).1.2.2.1,(bC (nth ab f 0)).1.2.2.2.1,(bC (nth ab f 0)).1.2.2.2.2,(aA (nth ab f 1)).1,(aA (nth ab f 2)).1),.s (.q ((bC (nth ab f 0)).2&&(aA (nth ab f 1)).2&&(aA (nth ab f 2)).2))]
def ach (f:List ByteArray):List AV:=[]
def mF:cu where
 A:=[.s (.vw ab)]
 B:=[]
 pre:=λx b=>j8 x
 r:=λx b _=>j4 x
 o:=λx b _=>ach x
def SM:Has Tryz.prog 104 mF:=by
 refine Has.sF zT zF zF (l:=[(144,mG),(103,dc)]) ⟨HT,oA,aa⟩ Tryz.func104 ?_
 rintro (f:List ByteArray) _ (hp:j8 f)
 show vc _ _ _ _ (entry [.s (.vw ab f)] []) _
 obtain⟨h3,db⟩:=hp
 refine⟨⟨?_,?_⟩,⟨tv2,?_⟩,λx1 w2=>⟨⟨?_,?_⟩,⟨tv2,?_⟩,λx3 w4=>⟨⟨?_,?_⟩,⟨tv2,?_⟩,λx5 w6=>⟨aa,λw7=>⟨aa,λw8=>?_,λw9=>?_⟩,λdB=>?_⟩⟩⟩⟩
 all_goals first|refine aw ?_|refine ax ?_|exact bb|(dsimp only [mG,ka,dc,di];omega)|exact ba|exact db _|skip
 ·have e:((bC (nth ab f 0)).2&&(aA (nth ab f 1)).2&&(aA (nth ab f 2)).2)=(aA (nth ab f 2)).2:=by rw [show (bC (nth ab f 0)).2=true from w7,show (aA (nth ab f 1)).2=true from w8];rfl
  refine⟨[],[],_,_,_,ζ,aC,(),aa,?_,?_,ζ⟩
  ·(show _=j4 f);unfold j4;first|(rw [e];rfl)|rfl
  ·rfl
 ·have e:((bC (nth ab f 0)).2&&(aA (nth ab f 1)).2&&(aA (nth ab f 2)).2)=false:=by rw [show (aA (nth ab f 1)).2=false from w9,ZD7];rfl
  refine⟨[],[],_,_,_,ζ,aC,(),aa,?_,?_,ζ⟩
  ·(show _=j4 f);unfold j4;first|(rw [e];rfl)|rfl
  ·rfl
 ·have e:((bC (nth ab f 0)).2&&(aA (nth ab f 1)).2&&(aA (nth ab f 2)).2)=false:=by rw [show (bC (nth ab f 0)).2=false from dB];rfl
  refine⟨[],[],_,_,_,ζ,aC,(),aa,?_,?_,ζ⟩
  ·(show _=j4 f);unfold j4;first|(rw [e];rfl)|rfl
  ·rfl
end
end GL
namespace GL
def amk {k s:Int}(h:decide (k=1)=true):bq k s=bif !(gC s 0 (16*12)) then -1 else (s+12-1) / 12:=by have:=aF h;subst this;rfl
def aiz {k s:Int}(h:decide (k=1)=false) (h2:decide (k=2)=true):bq k s=bif !(gC s 0 (16*128)) then -1 else (s+128-1) / 128:=by have:=aF h2;subst this;rfl
def aqw {k s:Int}(h:decide (k=1)=false) (h2:decide (k=2)=false):bq k s= -1:=by unfold bq lg;rw [h,h2];rfl
def qb (k:Int) (s:Int):Prop:=True
def dH (k:Int) (s:Int):AV:=.s (.int (bq k s))
def M5 (k:Int) (s:Int):List AV:=[]
def tP:cu where
 A:=[.s .int,.s .int]
 B:=[]
 pre:=λx b=>qb (x.1) (x.2)
 r:=λx b _=>dH (x.1) (x.2)
 o:=λx b _=>M5 (x.1) (x.2)
def Q3:Has Tryz.prog 173 tP:=by
 refine Has.sF zT zF zF (l:=[(39,cA)]) ⟨fy,aa⟩ Tryz.func173 ?_
 rintro⟨(k:Int),(s:Int)⟩ _ (hp:qb k s)
 show vc _ _ _ _ (entry [.int k,.int s] []) _
 have hI:∀e:Int,(!(gC s 0 (16*e)))=false->0<=s/\s<=16*e:=λe h=>cy.1 (cr h)
 refine⟨λw1=>⟨aa,λw2=>?_,λw3=>⟨⟨?_,?_⟩,⟨tv4,aa⟩,λx4 w5=>⟨λw6=>?_,λw7=>⟨⟨?_,?_⟩,⟨?_,?_⟩,⟨?_,?_,?_⟩,?_⟩⟩⟩⟩,λw8=>⟨λw9=>⟨aa,λdB=>?_,λiP=>⟨⟨?_,?_⟩,⟨tv4,aa⟩,λve iL=>⟨λgY=>?_,λnG=>⟨⟨?_,?_⟩,⟨?_,?_⟩,⟨?_,?_,?_⟩,?_⟩⟩⟩⟩,λkC=>⟨aa,λxh=>?_,λqU=>⟨⟨?_,?_⟩,⟨tv4,aa⟩,λx19 tl=>⟨λFW=>?_,λDB=>⟨⟨?_,?_⟩,⟨?_,?_⟩,⟨?_,?_,?_⟩,?_⟩⟩⟩⟩⟩⟩
 all_goals first|refine aw ?_|refine ax ?_|exact bb|(dsimp only [cA,dy];omega)|exact ba|exact absurd rfl (aD qU)|(have h:=hI 12 w7;show 0<=s+12-1;omega)|(have h:=hI 128 nG;show 0<=s+128-1;omega)|(have h:=hI 12 w7;simp only [gz,imax];omega)|(have h:=hI 128 nG;simp only [gz,imax];omega)|skip
 all_goals first|exact absurd rfl (aD qU)|exact absurd (aF w2) (by decide)|exact absurd (aF dB) (by decide)|skip
 ·have e:bq k s= -1:=(amk w1).trans (by rw [show (!(gC s 0 (16*12)))=true from w6];rfl)
  refine⟨[],[],_,_,_,ζ,aC,(),aa,?_,?_,ζ⟩
  ·(show _=dH k s);unfold dH;first|(rw [e];rfl)|rfl
  ·rfl
 ·have e:bq k s=(s+12-1) / 12:=(amk w1).trans (by rw [show (!(gC s 0 (16*12)))=false from w7];rfl)
  refine⟨[],[],_,_,_,ζ,aC,(),aa,?_,?_,ζ⟩
  ·(show _=dH k s);unfold dH;first|(rw [e];rfl)|rfl
  ·rfl
 ·have e:bq k s= -1:=(aiz w8 w9).trans (by rw [show (!(gC s 0 (16*128)))=true from gY];rfl)
  refine⟨[],[],_,_,_,ζ,aC,(),aa,?_,?_,ζ⟩
  ·(show _=dH k s);unfold dH;first|(rw [e];rfl)|rfl
  ·rfl
 ·have e:bq k s=(s+128-1) / 128:=(aiz w8 w9).trans (by rw [show (!(gC s 0 (16*128)))=false from nG];rfl)
  refine⟨[],[],_,_,_,ζ,aC,(),aa,?_,?_,ζ⟩
  ·(show _=dH k s);unfold dH;first|(rw [e];rfl)|rfl
  ·rfl
 ·have e:bq k s= -1:=aqw w8 kC
  refine⟨[],[],_,_,_,ζ,aC,(),aa,?_,?_,ζ⟩
  ·(show _=dH k s);unfold dH;first|(rw [e];rfl)|rfl
  ·rfl
def xY (n:dN):Prop:=True
def xM (n:dN):AV:=.s (.q (cx n))
def aco (n:dN):List AV:=[]
def IN:cu where
 A:=[.a [.int,.int,.int,.int,.int,.int,.int,.int,.int,.int]]
 B:=[]
 pre:=λx b=>xY x
 r:=λx b _=>xM x
 o:=λx b _=>aco x
def agC:Has Tryz.prog 145 IN:=by
 refine Has.sF zT zF zF (l:=[(173,tP),(39,cA),(100,gj),(74,cJ),(56,bQ)]) ⟨Q3,fy,rW,jI,eo,aa⟩ Tryz.func145 ?_
 rintro⟨(n1:Int),(n2:Int),(n3:Int),(n4:Int),(n5:Int),(n6:Int),(n7:Int),(n8:Int),(n9:Int),(cg:Int)⟩ _ (hp:xY (n1,n2,n3,n4,n5,n6,n7,n8,n9,cg))
 show vc _ _ _ _ (entry [.a [.int n1,.int n2,.int n3,.int n4,.int n5,.int n6,.int n7,.int n8,.int n9,.int cg]] []) _
 have hbd:=tG n1 n3
 refine⟨⟨tv3,aa⟩,λx1 w2=>⟨λw3=>⟨Sq3,Sq13,ζ,Sq13,Sq14,ζ,Sq14,Sq15,ζ,aa,λw4=>⟨[.s 15,.s 1],Sq16,ζ,[.s 15,.s 16,.b 1001],Sq17,ζ,[.s 15,.s 4],Sq18,ζ,[.s 15,.s 17,.s 18],Sq19,ζ,⟨tv4,aa⟩,?_,λx5 w6=>⟨[.s 15,.s 19],Sq20,ζ,Sq20,Sq21,ζ,aa,λw7=>⟨[.s 21,.s 1],Sq22,ζ,[.s 21,.s 22],Sq23,ζ,[.s 21,.s 23,.b 1001],Sq24,ζ,[.s 21,.s 3],Sq25,ζ,[.s 21,.s 24,.s 25],Sq26,ζ,[.s 21,.s 26],Sq27,ζ,Sq27,Sq28,ζ,aa,λw8=>⟨[.s 28,.s 1],Sq29,ζ,[.s 28,.s 29],Sq30,ζ,[.s 28,.s 30,.b 1001],Sq31,ζ,[.s 28,.s 3],Sq32,ζ,[.s 28,.s 32],Sq33,ζ,⟨tv2,aa⟩,?_,λx9 dB=>⟨[.s 28,.s 31,.s 33],Sq34,ζ,[.s 28,.s 34],Sq35,ζ,Sq35,Sq36,ζ,aa,λiP=>⟨[.s 36,.s 1],Sq37,ζ,[.s 36,.s 37],Sq38,ζ,[.s 36,.s 38,.b 1001],Sq39,ζ,[.s 36,.s 39],Sq40,ζ,⟨⟨tv6,aa⟩,aa⟩,?_,λve iL=>⟨[.s 36,.s 40],Sq41,ζ,Sq41,Sq42,ζ,aa,λgY=>⟨[.s 42,.s 1],Sq43,ζ,[.s 42,.s 43],Sq44,ζ,[.s 42,.s 44,.b 1001],Sq45,ζ,[.s 42,.s 45],Sq46,ζ,⟨⟨tv6,aa⟩,aa⟩,?_,λnN kC=>⟨[.s 42,.s 46],Sq47,ζ,aa,λxh=>⟨Sq47,Sq48,ζ,Sq47,Sq49,ζ,Sq47,Sq50,ζ,Sq47,Sq51,ζ,Sq47,Sq52,ζ,Sq47,Sq53,ζ,Sq47,Sq54,ζ,Sq47,Sq55,ζ,[.s 42,.s 47,.s 55],Sq56,ζ,[.s 42,.s 56],Sq57,ζ,Sq57,Sq2,ζ,?_⟩,λqU=>⟨[.s 47,.s 1],Sq48,ζ,[.s 47,.s 48],Sq49,ζ,[.s 47,.s 49],Sq50,ζ,[.s 47,.s 50,.b 1001],Sq51,ζ,[.s 47,.s 1],Sq52,ζ,[.s 47,.s 52],Sq53,ζ,[.s 47,.s 53,.b 1001],Sq54,ζ,[.s 47,.s 51,.s 54],Sq55,ζ,[.s 42,.s 47,.s 55],Sq56,ζ,[.s 42,.s 56],Sq57,ζ,Sq57,Sq2,ζ,?_⟩⟩⟩,λo9=>⟨Sq42,Sq43,ζ,Sq42,Sq44,ζ,Sq42,Sq45,ζ,Sq42,Sq46,ζ,Sq42,Sq47,ζ,Sq47,Sq48,ζ,Sq47,Sq49,ζ,Sq47,Sq50,ζ,Sq47,Sq51,ζ,Sq47,Sq52,ζ,Sq47,Sq53,ζ,Sq47,Sq54,ζ,Sq47,Sq55,ζ,Sq42,Sq56,ζ,[.s 42,.s 56],Sq57,ζ,Sq57,Sq2,ζ,?_⟩⟩⟩,λtl=>⟨Sq36,Sq37,ζ,Sq36,Sq38,ζ,Sq36,Sq39,ζ,Sq36,Sq40,ζ,[.s 36,.s 40],Sq41,ζ,Sq41,Sq42,ζ,Sq42,Sq43,ζ,Sq42,Sq44,ζ,Sq42,Sq45,ζ,Sq42,Sq46,ζ,Sq42,Sq47,ζ,Sq47,Sq48,ζ,Sq47,Sq49,ζ,Sq47,Sq50,ζ,Sq47,Sq51,ζ,Sq47,Sq52,ζ,Sq47,Sq53,ζ,Sq47,Sq54,ζ,Sq47,Sq55,ζ,Sq42,Sq56,ζ,[.s 42,.s 56],Sq57,ζ,Sq57,Sq2,ζ,?_⟩⟩⟩,λFW=>⟨Sq28,Sq29,ζ,Sq28,Sq30,ζ,Sq28,Sq31,ζ,Sq28,Sq32,ζ,Sq28,Sq33,ζ,Sq28,Sq34,ζ,[.s 28,.s 34],Sq35,ζ,Sq35,Sq36,ζ,Sq36,Sq37,ζ,Sq36,Sq38,ζ,Sq36,Sq39,ζ,Sq36,Sq40,ζ,[.s 36,.s 40],Sq41,ζ,Sq41,Sq42,ζ,Sq42,Sq43,ζ,Sq42,Sq44,ζ,Sq42,Sq45,ζ,Sq42,Sq46,ζ,Sq42,Sq47,ζ,Sq47,Sq48,ζ,Sq47,Sq49,ζ,Sq47,Sq50,ζ,Sq47,Sq51,ζ,Sq47,Sq52,ζ,Sq47,Sq53,ζ,Sq47,Sq54,ζ,Sq47,Sq55,ζ,Sq42,Sq56,ζ,[.s 42,.s 56],Sq57,ζ,Sq57,Sq2,ζ,?_⟩⟩,λDB=>⟨Sq21,Sq22,ζ,Sq21,Sq23,ζ,Sq21,Sq24,ζ,Sq21,Sq25,ζ,Sq21,Sq26,ζ,[.s 21,.s 26],Sq27,ζ,Sq27,Sq28,ζ,Sq28,Sq29,ζ,Sq28,Sq30,ζ,Sq28,Sq31,ζ,Sq28,Sq32,ζ,Sq28,Sq33,ζ,Sq28,Sq34,ζ,[.s 28,.s 34],Sq35,ζ,Sq35,Sq36,ζ,Sq36,Sq37,ζ,Sq36,Sq38,ζ,Sq36,Sq39,ζ,Sq36,Sq40,ζ,[.s 36,.s 40],Sq41,ζ,Sq41,Sq42,ζ,Sq42,Sq43,ζ,Sq42,Sq44,ζ,Sq42,Sq45,ζ,Sq42,Sq46,ζ,Sq42,Sq47,ζ,Sq47,Sq48,ζ,Sq47,Sq49,ζ,Sq47,Sq50,ζ,Sq47,Sq51,ζ,Sq47,Sq52,ζ,Sq47,Sq53,ζ,Sq47,Sq54,ζ,Sq47,Sq55,ζ,Sq42,Sq56,ζ,[.s 42,.s 56],Sq57,ζ,Sq57,Sq2,ζ,?_⟩⟩⟩,λzi=>⟨Sq15,Sq16,ζ,Sq15,Sq17,ζ,Sq15,Sq18,ζ,Sq15,Sq19,ζ,[.s 15,.s 19],Sq20,ζ,Sq20,Sq21,ζ,Sq21,Sq22,ζ,Sq21,Sq23,ζ,Sq21,Sq24,ζ,Sq21,Sq25,ζ,Sq21,Sq26,ζ,[.s 21,.s 26],Sq27,ζ,Sq27,Sq28,ζ,Sq28,Sq29,ζ,Sq28,Sq30,ζ,Sq28,Sq31,ζ,Sq28,Sq32,ζ,Sq28,Sq33,ζ,Sq28,Sq34,ζ,[.s 28,.s 34],Sq35,ζ,Sq35,Sq36,ζ,Sq36,Sq37,ζ,Sq36,Sq38,ζ,Sq36,Sq39,ζ,Sq36,Sq40,ζ,[.s 36,.s 40],Sq41,ζ,Sq41,Sq42,ζ,Sq42,Sq43,ζ,Sq42,Sq44,ζ,Sq42,Sq45,ζ,Sq42,Sq46,ζ,Sq42,Sq47,ζ,Sq47,Sq48,ζ,Sq47,Sq49,ζ,Sq47,Sq50,ζ,Sq47,Sq51,ζ,Sq47,Sq52,ζ,Sq47,Sq53,ζ,Sq47,Sq54,ζ,Sq47,Sq55,ζ,Sq42,Sq56,ζ,[.s 42,.s 56],Sq57,ζ,Sq57,Sq2,ζ,?_⟩⟩,λtZ=>⟨Sq3,Sq13,ζ,Sq13,Sq14,ζ,Sq14,Sq15,ζ,aa,λFV=>⟨[.s 15,.s 1],Sq16,ζ,[.s 15,.s 16,.b 1001],Sq17,ζ,[.s 15,.s 4],Sq18,ζ,[.s 15,.s 17,.s 18],Sq19,ζ,⟨tv4,aa⟩,?_,λtk w27=>⟨[.s 15,.s 19],Sq20,ζ,Sq20,Sq21,ζ,aa,λw28=>⟨[.s 21,.s 1],Sq22,ζ,[.s 21,.s 22],Sq23,ζ,[.s 21,.s 23,.b 1001],Sq24,ζ,[.s 21,.s 3],Sq25,ζ,[.s 21,.s 24,.s 25],Sq26,ζ,[.s 21,.s 26],Sq27,ζ,Sq27,Sq28,ζ,aa,λw29=>⟨[.s 28,.s 1],Sq29,ζ,[.s 28,.s 29],Sq30,ζ,[.s 28,.s 30,.b 1001],Sq31,ζ,[.s 28,.s 3],Sq32,ζ,[.s 28,.s 32],Sq33,ζ,⟨tv2,aa⟩,?_,λx30 w31=>⟨[.s 28,.s 31,.s 33],Sq34,ζ,[.s 28,.s 34],Sq35,ζ,Sq35,Sq36,ζ,aa,λw32=>⟨[.s 36,.s 1],Sq37,ζ,[.s 36,.s 37],Sq38,ζ,[.s 36,.s 38,.b 1001],Sq39,ζ,[.s 36,.s 39],Sq40,ζ,⟨⟨tv6,aa⟩,aa⟩,?_,λx33 w34=>⟨[.s 36,.s 40],Sq41,ζ,Sq41,Sq42,ζ,aa,λw35=>⟨[.s 42,.s 1],Sq43,ζ,[.s 42,.s 43],Sq44,ζ,[.s 42,.s 44,.b 1001],Sq45,ζ,[.s 42,.s 45],Sq46,ζ,⟨⟨tv6,aa⟩,aa⟩,?_,λx36 w37=>⟨[.s 42,.s 46],Sq47,ζ,aa,λw38=>⟨Sq47,Sq48,ζ,Sq47,Sq49,ζ,Sq47,Sq50,ζ,Sq47,Sq51,ζ,Sq47,Sq52,ζ,Sq47,Sq53,ζ,Sq47,Sq54,ζ,Sq47,Sq55,ζ,[.s 42,.s 47,.s 55],Sq56,ζ,[.s 42,.s 56],Sq57,ζ,Sq57,Sq2,ζ,?_⟩,λw39=>⟨[.s 47,.s 1],Sq48,ζ,[.s 47,.s 48],Sq49,ζ,[.s 47,.s 49],Sq50,ζ,[.s 47,.s 50,.b 1001],Sq51,ζ,[.s 47,.s 1],Sq52,ζ,[.s 47,.s 52],Sq53,ζ,[.s 47,.s 53,.b 1001],Sq54,ζ,[.s 47,.s 51,.s 54],Sq55,ζ,[.s 42,.s 47,.s 55],Sq56,ζ,[.s 42,.s 56],Sq57,ζ,Sq57,Sq2,ζ,?_⟩⟩⟩,λw40=>⟨Sq42,Sq43,ζ,Sq42,Sq44,ζ,Sq42,Sq45,ζ,Sq42,Sq46,ζ,Sq42,Sq47,ζ,Sq47,Sq48,ζ,Sq47,Sq49,ζ,Sq47,Sq50,ζ,Sq47,Sq51,ζ,Sq47,Sq52,ζ,Sq47,Sq53,ζ,Sq47,Sq54,ζ,Sq47,Sq55,ζ,Sq42,Sq56,ζ,[.s 42,.s 56],Sq57,ζ,Sq57,Sq2,ζ,?_⟩⟩⟩,λw41=>⟨Sq36,Sq37,ζ,Sq36,Sq38,ζ,Sq36,Sq39,ζ,Sq36,Sq40,ζ,[.s 36,.s 40],Sq41,ζ,Sq41,Sq42,ζ,Sq42,Sq43,ζ,Sq42,Sq44,ζ,Sq42,Sq45,ζ,Sq42,Sq46,ζ,Sq42,Sq47,ζ,Sq47,Sq48,ζ,Sq47,Sq49,ζ,Sq47,Sq50,ζ,Sq47,Sq51,ζ,Sq47,Sq52,ζ,Sq47,Sq53,ζ,Sq47,Sq54,ζ,Sq47,Sq55,ζ,Sq42,Sq56,ζ,[.s 42,.s 56],Sq57,ζ,Sq57,Sq2,ζ,?_⟩⟩⟩,λw42=>⟨Sq28,Sq29,ζ,Sq28,Sq30,ζ,Sq28,Sq31,ζ,Sq28,Sq32,ζ,Sq28,Sq33,ζ,Sq28,Sq34,ζ,[.s 28,.s 34],Sq35,ζ,Sq35,Sq36,ζ,Sq36,Sq37,ζ,Sq36,Sq38,ζ,Sq36,Sq39,ζ,Sq36,Sq40,ζ,[.s 36,.s 40],Sq41,ζ,Sq41,Sq42,ζ,Sq42,Sq43,ζ,Sq42,Sq44,ζ,Sq42,Sq45,ζ,Sq42,Sq46,ζ,Sq42,Sq47,ζ,Sq47,Sq48,ζ,Sq47,Sq49,ζ,Sq47,Sq50,ζ,Sq47,Sq51,ζ,Sq47,Sq52,ζ,Sq47,Sq53,ζ,Sq47,Sq54,ζ,Sq47,Sq55,ζ,Sq42,Sq56,ζ,[.s 42,.s 56],Sq57,ζ,Sq57,Sq2,ζ,?_⟩⟩,λw43=>⟨Sq21,Sq22,ζ,Sq21,Sq23,ζ,Sq21,Sq24,ζ,Sq21,Sq25,ζ,Sq21,Sq26,ζ,[.s 21,.s 26],Sq27,ζ,Sq27,Sq28,ζ,Sq28,Sq29,ζ,Sq28,Sq30,ζ,Sq28,Sq31,ζ,Sq28,Sq32,ζ,Sq28,Sq33,ζ,Sq28,Sq34,ζ,[.s 28,.s 34],Sq35,ζ,Sq35,Sq36,ζ,Sq36,Sq37,ζ,Sq36,Sq38,ζ,Sq36,Sq39,ζ,Sq36,Sq40,ζ,[.s 36,.s 40],Sq41,ζ,Sq41,Sq42,ζ,Sq42,Sq43,ζ,Sq42,Sq44,ζ,Sq42,Sq45,ζ,Sq42,Sq46,ζ,Sq42,Sq47,ζ,Sq47,Sq48,ζ,Sq47,Sq49,ζ,Sq47,Sq50,ζ,Sq47,Sq51,ζ,Sq47,Sq52,ζ,Sq47,Sq53,ζ,Sq47,Sq54,ζ,Sq47,Sq55,ζ,Sq42,Sq56,ζ,[.s 42,.s 56],Sq57,ζ,Sq57,Sq2,ζ,?_⟩⟩⟩,λw44=>⟨Sq15,Sq16,ζ,Sq15,Sq17,ζ,Sq15,Sq18,ζ,Sq15,Sq19,ζ,[.s 15,.s 19],Sq20,ζ,Sq20,Sq21,ζ,Sq21,Sq22,ζ,Sq21,Sq23,ζ,Sq21,Sq24,ζ,Sq21,Sq25,ζ,Sq21,Sq26,ζ,[.s 21,.s 26],Sq27,ζ,Sq27,Sq28,ζ,Sq28,Sq29,ζ,Sq28,Sq30,ζ,Sq28,Sq31,ζ,Sq28,Sq32,ζ,Sq28,Sq33,ζ,Sq28,Sq34,ζ,[.s 28,.s 34],Sq35,ζ,Sq35,Sq36,ζ,Sq36,Sq37,ζ,Sq36,Sq38,ζ,Sq36,Sq39,ζ,Sq36,Sq40,ζ,[.s 36,.s 40],Sq41,ζ,Sq41,Sq42,ζ,Sq42,Sq43,ζ,Sq42,Sq44,ζ,Sq42,Sq45,ζ,Sq42,Sq46,ζ,Sq42,Sq47,ζ,Sq47,Sq48,ζ,Sq47,Sq49,ζ,Sq47,Sq50,ζ,Sq47,Sq51,ζ,Sq47,Sq52,ζ,Sq47,Sq53,ζ,Sq47,Sq54,ζ,Sq47,Sq55,ζ,Sq42,Sq56,ζ,[.s 42,.s 56],Sq57,ζ,Sq57,Sq2,ζ,?_⟩⟩⟩⟩
 all_goals first|refine aw ?_|refine ax ?_|exact bb|(dsimp only [tP,qb,cA,dy,gj,iv,cJ,da,bQ,cl];omega)|exact ba|skip
 all_goals
  refine⟨[],[],_,_,_,ζ,aC,(),aa,?_,?_,ζ⟩
  ·show AV.q _=xM (n1,n2,n3,n4,n5,n6,n7,n8,n9,cg);unfold xM;refine congrArg AV.q ?_;simp_all [cx]
  ·rfl
def qq (l:List Int):Prop:=(∃a b,l=[a,b])\/∃a b c,l=[a,b,c]
def UO (l:List Int):AV:=.s (.xs 0 1 0 l.length)
def ZH (l:List Int):List AV:=[.rs ab (l.map bM)]
def sj:cu where
 A:=[.s (.vz ag)]
 B:=[]
 pre:=λx b=>qq x
 r:=λx b _=>UO x
 o:=λx b _=>ZH x
 nf:=1
def OG:Has Tryz.prog 147 sj:=by
 refine Has.sF zT zF zF (l:=[(143,dA)]) ⟨qJ,aa⟩ Tryz.func147 ?_
 rintro (l:List Int) _ (hp:qq l)
 show vc _ _ _ _ (entry [.s (.vz ag l)] []) _
 let A':=(1005,1016)
 rcases (show (∃a b,l=[a,b])\/∃a b c,l=[a,b,c] from hp) with ⟨a,b,rfl⟩ |⟨a,b,c,rfl⟩
 ·refine jq (l:=[(143,dA)]) (ex:=zT) (wr:=zF) (pt:=zF) ⟨qJ,aa⟩ [.s 0] (λn:Nat=>match n with |0=>[(.s 3,.s (.v (.slice none 0 0))),(.s 6,.s (.vz ag [a,b])),(.s 7,.int 2),(.s 8,.int 0)] |n+1=>[(.s 3,.s (.xs 1005 1 0 (n+1))),(.s 6,.s (.vz ag [a,b])),(.s 7,.int 2),(.s 8,.int ((n+1:Nat):Int)),(.b 1005,.rs ab (([bM a,bM b]).take (n+1)))]) (λn=>n<=2) (λn=>2-n) 0 [] (ZA7 _) dP ?_
  rintro n (hn:n<=2)
  have h5:n=0\/n=1\/n=2:=by omega
  rcases h5 with rfl |rfl |rfl
  ·refine⟨λw1=>⟨⟨?_,?_⟩,⟨tv2,aa⟩,λx2 w3=>⟨aa,⟨⟨?_,?_⟩,?_,?_⟩,⟨?_,?_⟩,?_⟩⟩,λw4=>?_⟩
   all_goals first|(exfalso;simp only [decide_eq_true_eq,decide_eq_false_iff_not] at *;omega)|refine aw ?_|refine ax ?_|exact bb|(dsimp only [dA,dz];omega)|exact ba|(show (0:Nat)+1<=1048576;omega)|skip
   ·refine⟨(1),[A'],?_,?_,?_⟩
    rotate_right
    ·exact bY
    ·show (1:Nat)<=2;omega
    ·show 2-1<2-0;omega
  ·refine⟨λw1=>⟨⟨?_,?_⟩,⟨tv2,aa⟩,λx2 w3=>⟨aa,⟨⟨?_,?_⟩,?_,?_⟩,⟨?_,?_⟩,?_⟩⟩,λw4=>?_⟩
   all_goals first|(exfalso;simp only [decide_eq_true_eq,decide_eq_false_iff_not] at *;omega)|refine aw ?_|refine ax ?_|exact bb|(dsimp only [dA,dz];omega)|exact ba|(show (1:Nat)+1<=1048576;omega)|skip
   ·refine⟨(2),[A'],?_,?_,?_⟩
    rotate_right
    ·exact bY
    ·show (2:Nat)<=2;omega
    ·show 2-2<2-1;omega
  ·refine⟨λw1=>⟨⟨?_,?_⟩,⟨tv2,aa⟩,λx2 w3=>⟨aa,⟨⟨?_,?_⟩,?_,?_⟩,⟨?_,?_⟩,?_⟩⟩,λw4=>?_⟩
   all_goals first|(exfalso;simp only [decide_eq_true_eq,decide_eq_false_iff_not] at *;omega)|refine aw ?_|refine ax ?_|exact bb|(dsimp only [dA,dz];omega)|exact ba|skip
   refine⟨[1005],[],_,_,_,ζ,bZ,(),aa,ζ,ζ,ζ⟩
 ·refine jq (l:=[(143,dA)]) (ex:=zT) (wr:=zF) (pt:=zF) ⟨qJ,aa⟩ [.s 0] (λn:Nat=>match n with |0=>[(.s 3,.s (.v (.slice none 0 0))),(.s 6,.s (.vz ag [a,b,c])),(.s 7,.int 3),(.s 8,.int 0)] |n+1=>[(.s 3,.s (.xs 1005 1 0 (n+1))),(.s 6,.s (.vz ag [a,b,c])),(.s 7,.int 3),(.s 8,.int ((n+1:Nat):Int)),(.b 1005,.rs ab (([bM a,bM b,bM c]).take (n+1)))]) (λn=>n<=3) (λn=>3-n) 0 [] (ZA7 _) dP ?_
  rintro n (hn:n<=3)
  have h5:n=0\/n=1\/n=2\/n=3:=by omega
  rcases h5 with rfl |rfl |rfl |rfl
  ·refine⟨λw1=>⟨⟨?_,?_⟩,⟨tv2,aa⟩,λx2 w3=>⟨aa,⟨⟨?_,?_⟩,?_,?_⟩,⟨?_,?_⟩,?_⟩⟩,λw4=>?_⟩
   all_goals first|(exfalso;simp only [decide_eq_true_eq,decide_eq_false_iff_not] at *;omega)|refine aw ?_|refine ax ?_|exact bb|(dsimp only [dA,dz];omega)|exact ba|(show (0:Nat)+1<=1048576;omega)|skip
   ·refine⟨(1),[A'],?_,?_,?_⟩
    rotate_right
    ·exact bY
    ·show (1:Nat)<=3;omega
    ·show 3-1<3-0;omega
  ·refine⟨λw1=>⟨⟨?_,?_⟩,⟨tv2,aa⟩,λx2 w3=>⟨aa,⟨⟨?_,?_⟩,?_,?_⟩,⟨?_,?_⟩,?_⟩⟩,λw4=>?_⟩
   all_goals first|(exfalso;simp only [decide_eq_true_eq,decide_eq_false_iff_not] at *;omega)|refine aw ?_|refine ax ?_|exact bb|(dsimp only [dA,dz];omega)|exact ba|(show (1:Nat)+1<=1048576;omega)|skip
   ·refine⟨(2),[A'],?_,?_,?_⟩
    rotate_right
    ·exact bY
    ·show (2:Nat)<=3;omega
    ·show 3-2<3-1;omega
  ·refine⟨λw1=>⟨⟨?_,?_⟩,⟨tv2,aa⟩,λx2 w3=>⟨aa,⟨⟨?_,?_⟩,?_,?_⟩,⟨?_,?_⟩,?_⟩⟩,λw4=>?_⟩
   all_goals first|(exfalso;simp only [decide_eq_true_eq,decide_eq_false_iff_not] at *;omega)|refine aw ?_|refine ax ?_|exact bb|(dsimp only [dA,dz];omega)|exact ba|(show (2:Nat)+1<=1048576;omega)|skip
   ·refine⟨(3),[A'],?_,?_,?_⟩
    rotate_right
    ·exact bY
    ·show (3:Nat)<=3;omega
    ·show 3-3<3-2;omega
  ·refine⟨λw1=>⟨⟨?_,?_⟩,⟨tv2,aa⟩,λx2 w3=>⟨aa,⟨⟨?_,?_⟩,?_,?_⟩,⟨?_,?_⟩,?_⟩⟩,λw4=>?_⟩
   all_goals first|(exfalso;simp only [decide_eq_true_eq,decide_eq_false_iff_not] at *;omega)|refine aw ?_|refine ax ?_|exact bb|(dsimp only [dA,dz];omega)|exact ba|skip
   refine⟨[1005],[],_,_,_,ζ,bZ,(),aa,ζ,ζ,ζ⟩
def p9 (t:bf):Prop:=True
def JZ (t:bf):AV:=.s (.xs 0 1 0 3)
def M4 (t:bf):List AV:=[.rs ab [bj (t.1,t.2.1,t.2.2.1,t.2.2.2.1,t.2.2.2.2.1),bM t.2.2.2.2.2.1,bM t.2.2.2.2.2.2]]
def tN:cu where
 A:=[.a [.int,.int,.int,.int,.int,.int,.int]]
 B:=[]
 pre:=λx b=>p9 x
 r:=λx b _=>JZ x
 o:=λx b _=>M4 x
 nf:=1
def Q0:Has Tryz.prog 148 tN:=by
 refine Has.sF zT zF zF (l:=[(172,eQ),(147,sj)]) ⟨uJ,OG,aa⟩ Tryz.func148 ?_
 rintro⟨(t1:Int),(t2:Int),(t3:Int),(t4:Int),(t5:Int),(t6:Int),(t7:Int)⟩ _ (hp:p9 (t1,t2,t3,t4,t5,t6,t7))
 show vc _ _ _ _ (entry [.a [.int t1,.int t2,.int t3,.int t4,.int t5,.int t6,.int t7]] []) _
 refine⟨Sq1,Sq3,ζ,[.s 3,.b 1001],Sq4,ζ,Sq4,Sq5,ζ,⟨⟨tv6,aa⟩,aa⟩,?_,λx1 w2=>⟨[.s 5,.b 1006],[.s 6,.b 1006],ζ,aa,Sq1,Sq7,ζ,[.s 7,.b 1001],Sq8,ζ,Sq1,Sq9,ζ,[.s 9,.b 1001],Sq10,ζ,[.s 8,.s 10,.b 1011],[.s 11,.b 1011],ζ,aa,[.s 11,.b 1011,.b 130000],[.s 12,.b 130000],ζ,⟨⟨⟨?_,?_⟩,aa⟩,?_⟩,?_,λx3 w4=>⟨[.s 6,.s 12,.b 1006,.b 130000,.b 1013],[.s 13,.b 1013,.b 1006],ζ,⟨⟨?_,?_⟩,?_,?_⟩,Sq13,Sq2,ζ,?_⟩⟩⟩
 all_goals first|refine aw ?_|refine ax ?_|exact bb|(dsimp only [eQ,eN,sj,qq];omega)|exact ba|exact .inl ⟨_,_,rfl⟩|(show 1+2<=1048576;decide)|skip
 ·refine⟨[1013],[],_,_,_,ζ,bZ,(),aa,ζ,ζ,ζ⟩
end GL
namespace GL
open Go.RowKit
def JT {T e:TypeId}{B b:Nat}{p:Value}{bs:List Value}{W W':World}(h:Lib.BuilderAtF T e B b p bs W) (hb:Below W.heap.size W W'):Lib.BuilderAtF T e B b p bs W':=by
 have bR:=h.lt
 obtain⟨hB,v,hv,fq,ft⟩:=h
 exact⟨hB,v,(hb.block b bR).trans hv,fq.kept (row:=none) ⟨hb.os,hb.tape,hb.output,hb.size,λk hk _=>hb.block k hk⟩ (Classical.em _),ft⟩
def acW {T e:TypeId}{B b:Nat}{bs:List Value}{W W':World}(h:Lib.IsBuilderF T e B b bs W) (hb:Below W.heap.size W W'):Lib.IsBuilderF T e B b bs W':=
 h.elim (λx=>.inl (JT x hb)) (λx=>.inr (JT x hb))
def ahO:Go.Shelf.Ren:=⟨λn=>match n with |167=>175 |170=>176 |n=>Tryz.ix.f n,Tryz.ix.t,Tryz.ix.g⟩
def aqC:Go.Proofs.Lays.n167 Tryz.prog ahO:= { Tryz.oY with
 f167:=Tryz.func175.trans (congrArg some (by kernel_rfl))
 f240:=Tryz.oY.f240.trans (congrArg some (by kernel_rfl))
 f276:=Tryz.oY.f276.trans (congrArg some (by kernel_rfl))
 t5:=Tryz.underlying5
 a5:=Tryz.isAgg5
 z5:=Tryz.sizeOf5
 v5:=Tryz.zeroValue5 }
def aoM:Go.Proofs.Lays.n170 Tryz.prog ahO:= { Tryz.oY with
 f170:=Tryz.func176.trans (congrArg some (by kernel_rfl)) }
def aqA:Builder.Extra Tryz.prog ahO:= { Tryz.ff with }
def fpR:List ByteArray->List UInt8->List UInt8×Bool
 |[],out=>(out,true)
 |x::l,out=>if ((out++lb (bL x.size)++[58]++lb x).length:Int)>2048 then ([],false) else fpR l (out++lb (bL x.size)++[58]++lb x)
theorem amE:∀(l:List ByteArray) (out:ByteArray),fpR l (lb out)=(lb (dk l out).1,(dk l out).2)
 |[],_=>rfl
 |x::l,out=>by
  have db:((out++bL x.size++⟨#[58]⟩++x).size:Int)=((lb out++lb (bL x.size)++[58]++lb x).length:Int):=by
   rw [cT];simp only [qH]
  have hlb:lb (out++bL x.size++⟨#[58]⟩++x)=lb out++lb (bL x.size)++[58]++lb x:=by simp only [qH]
  have wZ:x.size<=(out++bL x.size++⟨#[58]⟩++x).size:=by simp only [ZB4];omega
  unfold fpR
  cases h2:decide (((out++bL x.size++⟨#[58]⟩++x).size:Int)>2048) with
  |true=>rw [IA h2,if_pos (by rw [<-db];exact aF h2)]
  |false=>
   have h3:=aD h2
   rw [H9 (decide_eq_false (by omega)) h2,if_neg (by rw [<-db];exact h3),<-hlb]
   exact amE l _
def ajJ (W:World) (v:Value) (L:List ByteArray) (db:∀x∈L,x.size<=1000000) (hL:(L=[]/\∃p cap,v= .slice p 0 cap)\/∃b o cap,v= .slice (some ⟨b,o,none⟩) L.length cap/\b<W.heap.size/\∀k (h:k<L.length),W.cell? ⟨b,o+k,none⟩=some (.string L[k])) (h60:L.length<=60)
   (hIT:∀(n:Nat) w,n<=1000000->Below W.heap.size W w->Calls Tryz.prog 170 #[.int .i64 n] w λe w'=>e= .returned (.string (bL n))/\Below w.heap.size w w'):
   Calls Tryz.prog 146 #[v] W λe w'=>e= .returned (.tuple #[.string ⟨(fpR L []).1.toArray⟩,.bool (fpR L []).2])/\Below W.heap.size W w':=by
 have hbw:Lib.IsBuilderF 190 5 W.heap.size W.heap.size (Lib.byteCells []) (W.alloc (.cells #[.pointer none,.slice none 0 0] 190)):=Lib.IsBuilderF.of (Lib.fresh_isBuilder 190 5 W)
 have bA:Below W.heap.size W (W.alloc (.cells #[.pointer none,.slice none 0 0] 190)):=(Below.refl _ _).alloc (ZB0 _) _
 rcases hL with ⟨hL,p,cap,rfl⟩ |⟨vb,vo,cap,rfl,hvb,iz⟩
 ·subst hL
  go_enter Tryz.func146,Tryz.ntmps146
  go_wp2
  refine wp_loop_rounds 1 ?_
  rw [rounds_succ]
  go_wp2_with (go_at_call 177;refine (Any.Builder_String_any_f (ρ:=Tryz.ix) { Tryz.oY with } Tryz.ff W.heap.size W.heap.size [] _ hbw bA.size).mono ?_)
  rintro e w4 ⟨rfl,_,b4⟩
  go_wp2
  go_ret2
  exact⟨rfl,bA.trans b4⟩
 ·go_enter Tryz.func146,Tryz.ntmps146
  go_wp2
  go_loopw [12] (λi wr=>∃(k:Nat) (out:List UInt8),k<=L.length/\i= .int .i64 k/\Lib.IsBuilderF 190 5 W.heap.size W.heap.size (Lib.byteCells out) wr/\Below W.heap.size W wr/\out.length<=2048/\fpR (L.drop k) out=fpR L []) (λi _=>L.length-(intOf i).toNat)
  case atStart=>exact⟨0,[],ZA7 _,rfl,hbw,bA,ZA7 _,rfl⟩
  case round=>
   obtain⟨k,out,hk,rfl,hb,zO,lZ,hg⟩:=hrel
   by_cases bR:k<L.length
   ·have d0:=(zO.cell (p:=⟨vb,vo+k,none⟩) hvb).trans (iz k bR)
    have hxs:L[k].size<=1000000:=db _ (ZG4 bR)
    rw [ZH1 bR,fpR] at hg
    generalize L[k]=x at *
    go_wp2_with (go_at_call 170;refine (hIT x.size _ hxs zO).mono ?_)
    rintro e w3 ⟨rfl,b3⟩
    have hds:=cM (n:=(x.size:Int)) (by omega)
    have n3:Below W.heap.size W w3:=zO.trans (b3.mono zO.size)
    go_wp2_with (go_at_call 174;refine (Any.Builder_WriteString_f (ρ:=Tryz.ix) { Tryz.oY with } Tryz.ff W.heap.size W.heap.size (Lib.byteCells out) (bL x.size) _ (acW hb b3) (by rw [Lib.byteCells_length];omega) n3.size).mono ?_)
    rintro e w4 ⟨rfl,hb4,b4⟩
    have n4:Below W.heap.size W w4:=n3.trans b4
    have hb4:Lib.IsBuilderF 190 5 W.heap.size W.heap.size (Lib.byteCells (out++lb (bL x.size))) w4:=.inr (by have h:=hb4;rw [Lib.byteCells_append];exact h)
    go_wp2_with (go_at_call 175;refine (Any.Builder_WriteByte_k (ρ:=ahO) aqC aqA W.heap.size W.heap.size (Lib.byteCells (out++lb (bL x.size))) 58 _ hb4 (by rw [Lib.byteCells_length,ZA0,<-cT];omega) n4.size).mono ?_)
    rintro e w5 ⟨rfl,hb5,b5,_⟩
    have n5:Below W.heap.size W w5:=n4.trans b5
    have hb5:Lib.IsBuilderF 190 5 W.heap.size W.heap.size (Lib.byteCells (out++lb (bL x.size)++[58])) w5:=.inr (by have h:=hb5;rw [Lib.byteCells_append];exact h)
    go_wp2_with (go_at_call 174;refine (Any.Builder_WriteString_f (ρ:=Tryz.ix) { Tryz.oY with } Tryz.ff W.heap.size W.heap.size (Lib.byteCells (out++lb (bL x.size)++[58])) x _ hb5 (by rw [Lib.byteCells_length];simp only [ZA0,<-cT,ZA1,ZA4];omega) n5.size).mono ?_)
    rintro e w6 ⟨rfl,hb6,b6⟩
    have n6:Below W.heap.size W w6:=n5.trans b6
    have hb6:Lib.IsBuilderF 190 5 W.heap.size W.heap.size (Lib.byteCells (out++lb (bL x.size)++[58]++lb x)) w6:=.inr (by have h:=hb6;rw [Lib.byteCells_append];exact h)
    go_wp2_with (go_at_call 176;refine (Any.Builder_Len_f (ρ:=ahO) aoM W.heap.size W.heap.size _ _ hb6).mono ?_)
    rintro e w7 ⟨rfl,rfl⟩
    have hln:((out++lb (bL x.size)++[58]++lb x).length:Int)=out.length+((bL x.size).size+(x.size+1)):=by simp only [ZA0,<-cT,ZA1,ZA4];omega
    rw [Lib.byteCells_length]
    by_cases ajB:((out++lb (bL x.size)++[58]++lb x).length:Int)>2048
    ·rw [if_pos ajB] at hg
     go_wp2
     go_ret2
     exact⟨by rw [<-hg];rfl,n6⟩
    ·rw [if_neg ajB] at hg
     go_wp2
     refine⟨⟨k+1,_,bR,ζ,hb6,n6,by omega,hg⟩,?_⟩
     show L.length-((k:Int)+1).toNat<L.length-((k:Int)).toNat
     omega
   ·have hkk:k=L.length:=by omega
    subst hkk
    rw [ZB3 (ZB0 _),fpR] at hg
    go_wp2_with (go_at_call 177;refine (Any.Builder_String_any_f (ρ:=Tryz.ix) { Tryz.oY with } Tryz.ff W.heap.size W.heap.size out _ hb zO.size).mono ?_)
    rintro e w4 ⟨rfl,_,b4⟩
    go_wp2
    go_ret2
    exact⟨by rw [<-hg];rfl,zO.trans b4⟩
def E6:cu:=E2 [.s (.vz ab)] (λl=>l.length<=60/\∀x∈l,x.size<=1000000) λl=>.t [.s (.str (bK l).1),.s (.q (bK l).2)]
def alh (x:ByteArray):(⟨(lb x).toArray⟩:ByteArray)=x:=nq rfl
def V9:Has Tryz.prog 146 E6:=by
 refine Has.lib ⟨_,Tryz.func146,by rfl,by decide⟩ (λx=>⟨rfl,rfl⟩) λ(l:List ByteArray) (hp:l.length<=60/\∀x∈l,x.size<=1000000) W T β vs hT hN cB=>?_
 obtain⟨v,rfl⟩:∃v,vs=[v]:=by
  match vs,cB with
  |[v],_=>exact⟨v,rfl⟩
  |[],h=>exact h.elim
  |_::_::_,h=>exact h.2.elim
 have hv:(SV.vz ab l).rel T β v:=cB.1
 have hIT:∀(n:Nat) w,n<=1000000->Below W.heap.size W w->Calls Tryz.prog 170 #[.int .i64 n] w λe w'=>e= .returned (.string (bL n))/\Below w.heap.size w w':=λn w hn hb=>by
  refine ((ajb.1 (n:Int) () ⟨by show (-9223372036854775808:Int)<=(n:Int);omega,by show (n:Int)<=(9223372036854775807:Int);omega⟩).lib (β:=β) (vs:=[.int .i64 n]) rfl hT hN ⟨rfl,trivial⟩ hb).mono ?_
  rintro e w' ⟨v,r,os,T',β',rfl,⟨z,_,rfl,_⟩,hv,hB,_⟩
  have hv:v= .string (aeD n):=hv
  subst hv
  exact⟨by rw [SS (by omega)],hB⟩
 refine (ajJ W v l hp.2 ?_ hp.1 hIT).mono ?_
 ·rcases hv with ⟨rfl,p,cap,rfl⟩ |⟨b,o,cap,cs,rfl,hlc,dM,hw⟩
  ·exact .inl ⟨rfl,p,cap,rfl⟩
  ·obtain⟨te,fr,hc⟩:=DT hT dM
   refine .inr ⟨b,o,cap,rfl,(ZE3.1 hc).1,λk hk=>?_⟩
   rw [bO hc]
   refine hw k _ ?_
   rw [EP,ZG7,ZB2 hk];rfl
 ·rintro e w' ⟨rfl,hB⟩
  have e1:bK l=dk l ⟨#[]⟩:=eF (decide_eq_true (by have:=hp.1;omega))
  have e2:fpR l []=(lb (bK l).1,(bK l).2):=by rw [e1];exact amE l ⟨#[]⟩
  rw [e2,alh]
  exact⟨_,rfl,hB,_,rfl,rfl,rfl,trivial⟩
end GL
namespace GL
noncomputable section
def jk (n:dN):Prop:=True
def mT (n:dN):AV:=.s (.str (aB n))
def ZN (n:dN):List AV:=[]
def kt:cu where
 A:=[.a [.int,.int,.int,.int,.int,.int,.int,.int,.int,.int]]
 B:=[]
 pre:=λx b=>jk x
 r:=λx b _=>mT x
 o:=λx b _=>ZN x
def OJ:Has Tryz.prog 105 kt:=by
 refine Has.sF zT zF zF (l:=[(145,IN),(147,sj),(148,tN),(146,E6)]) ⟨agC,OG,Q0,V9,aa⟩ Tryz.func105 ?_
 rintro⟨(n1:Int),(n2:Int),(n3:Int),(n4:Int),(n5:Int),(n6:Int),(n7:Int),(n8:Int),(n9:Int),(cg:Int)⟩ _ (hp:jk (n1,n2,n3,n4,n5,n6,n7,n8,n9,cg))
 show vc _ _ _ _ (entry [.a [.int n1,.int n2,.int n3,.int n4,.int n5,.int n6,.int n7,.int n8,.int n9,.int cg]] []) _
 let A':=(n1,n2,n3,n4,n5,n6,n7,n8,n9,cg)
 let B':=(n4,n5,n6,n7,n8)
 have qw:∀x∈[bM n1,bM n2,bM n3,bj B',bM n9,bM cg,⟨#[101,110,100]⟩],x.size<=1000000:=λx hx=>by
  simp only [ZB7,ZF6,or_false] at hx
  rcases hx with rfl |rfl |rfl |rfl |rfl |rfl |rfl
  ·exact ZA9 (gw _) (by decide)
  ·exact ZA9 (gw _) (by decide)
  ·exact ZA9 (gw _) (by decide)
  ·have:=fH B';omega
  ·exact ZA9 (gw _) (by decide)
  ·exact ZA9 (gw _) (by decide)
  ·decide
 refine⟨⟨⟨tv11,aa⟩,aa⟩,λx1 w2=>⟨λw3=>?_,λw4=>⟨Sq1,Sq9,ζ,[.s 9,.b 1001],Sq10,ζ,Sq1,Sq11,ζ,[.s 11,.b 1001],Sq12,ζ,Sq1,Sq13,ζ,[.s 13,.b 1001],Sq14,ζ,[.s 10,.s 12,.s 14,.b 1015],[.s 15,.b 1015],ζ,aa,[.s 15,.b 1015,.b 170000],[.s 16,.b 170000],ζ,⟨⟨⟨?_,?_⟩,aa⟩,?_⟩,?_,λx5 w6=>⟨Sq1,Sq17,ζ,[.s 17,.b 1001],Sq18,ζ,[.s 18,.b 200000],[.s 19,.b 200000],ζ,⟨⟨tv8,aa⟩,aa⟩,?_,λx7 w8=>⟨[.s 16,.s 19,.b 170000,.b 200000,.b 1020],[.s 20,.b 1020,.b 170000],ζ,⟨⟨?_,?_⟩,?_,?_⟩,[.b 1021],[.s 21,.b 1021],ζ,aa,[.s 20,.s 21,.b 1020,.b 1021,.b 1022],[.s 22,.b 1022,.b 1020],ζ,⟨⟨?_,?_⟩,?_,?_⟩,[.s 22,.b 1022],Sq23,ζ,⟨⟨⟨?_,?_⟩,aa⟩,?_,λx9 dB=>?_⟩,?_,λlJ dW=>⟨Sq23,Sq8,ζ,Sq8,Sq24,ζ,Sq8,Sq25,ζ,Sq24,Sq3,ζ,Sq25,Sq4,ζ,?_⟩⟩⟩⟩⟩⟩
 all_goals first|refine aw ?_|refine ax ?_|exact bb|(dsimp only [IN,xY,sj,qq,tN,p9];omega)|exact ba|exact .inl ⟨_,_,rfl⟩|exact .inr ⟨_,_,_,rfl⟩|(show 3+3<=1048576;decide)|(show 6+1<=1048576;decide)|skip
 ·have e:aB A'=⟨#[]⟩:=by unfold aB;rw [show cx A'=false from pJ w3];rfl
  refine⟨[],[],_,_,_,ζ,aC,(),aa,?_,?_,ζ⟩
  ·(show _=mT A');unfold mT;first|(rw [e];rfl)|rfl
  ·rfl
 ·show (7:Nat)<=60;decide
 ·exact qw _ dB
 ·have cn:cx A'=true:=cr w4
  have hb:=il cn
  have b1:1<=n1/\n1<=2:=hb.1
  have b2:1<=n2/\n2<=9:=hb.2.1
  have b3:0<=n3/\n3<=2048:=hb.2.2.1
  have b4:0<=n9/\n9<=2:=hb.2.2.2.1
  have b5:0<=cg/\cg<=16:=hb.2.2.2.2.1
  have e:aB A'=(bK [bM n1,bM n2,bM n3,bj B',bM n9,bM cg,⟨#[101,110,100]⟩]).1:=by
   unfold aB
   rw [cn,jM (n:=n1) (by omega) (by omega),jM (n:=n2) (by omega) (by omega),jM (n:=n3) (by omega) (by omega),jM (n:=n9) (by omega) (by omega),jM (n:=cg) (by omega) (by omega)];rfl
  refine⟨[],[],_,_,_,ζ,aC,(),aa,?_,?_,ζ⟩
  ·(show _=mT A');unfold mT;first|(rw [e];rfl)|rfl
  ·rfl
end
end GL
namespace GL
noncomputable section
abbrev VK (n:dN):List ByteArray:=[bL n.1,bL n.2.1,bL n.2.2.1,bj n.root,bL n.2.2.2.2.2.2.2.2.1,bL n.2.2.2.2.2.2.2.2.2,⟨#[101,110,100]⟩]
def aaV {n:dN}(h:cx n=true):az (aB n)=(VK n,true):=by
 have hb:=il h
 have hp:aB n=(bK (VK n)).1:=by unfold aB;rw [h];rfl
 have hf:(bK (VK n)).2=true:=by
  rw [eF rfl]
  refine yC ?_
  have d1:=cM (n:=n.1) (by omega)
  have d2:=cM (n:=n.2.1) (by omega)
  have d3:=cM (n:=n.2.2.1) (by omega)
  have d4:=fH n.root
  have d5:=cM (n:=n.2.2.2.2.2.2.2.2.1) (by omega)
  have d6:=cM (n:=n.2.2.2.2.2.2.2.2.2) (by omega)
  simp only [ZF1,List.map_nil,List.sum_cons,List.sum_nil]
  rw [show (⟨#[101,110,100]⟩:ByteArray).size=3 from rfl,show (⟨#[]⟩:ByteArray).size=0 from rfl]
  omega
 rw [hp];exact r6 hf
def oX {s:ByteArray}(h:(aG s).2=true):(aA (nth ab (az s).1 0)).2=true/\(aA (nth ab (az s).1 1)).2=true/\(aA (nth ab (az s).1 2)).2=true/\(bC (nth ab (az s).1 3)).2=true/\(aA (nth ab (az s).1 4)).2=true/\(aA (nth ab (az s).1 5)).2=true:=by
 cases h1: !(az s).2 with
 |true=>rw [rS h1] at h;cases h
 |false=>
  cases h2:decide (((az s).1.length:Int)≠7) with
  |true=>rw [ox h2] at h;cases h
  |false=>
   cases h3: !(cx (ia (az s).1)) with
   |true=>rw [vV h3] at h;cases h
   |false=>
    cases h4:decide (aB (ia (az s).1)≠s) with
    |true=>rw [rR h4] at h;cases h
    |false=>
     have cn:=cr h3
     have e:aB (ia (az s).1)=s:=Classical.not_not.1 (aD h4)
     have hf:=aaV cn
     rw [e] at hf
     generalize ia (az s).1=n at *
     have hb:=il cn
     rw [hf]
     have g1:=cI (n:=n.1) (by omega) (by omega)
     have g2:=cI (n:=n.2.1) (by omega) (by omega)
     have g3:=cI (n:=n.2.2.1) (by omega) (by omega)
     have g4:=mm hb.2.2.2.2.2.1
     have g5:=cI (n:=n.2.2.2.2.2.2.2.2.1) (by omega) (by omega)
     have g6:=cI (n:=n.2.2.2.2.2.2.2.2.2) (by omega) (by omega)
     refine⟨?_,?_,?_,?_,?_,?_⟩
     ·show (aA (bL n.1)).2=true;rw [g1]
     ·show (aA (bL n.2.1)).2=true;rw [g2]
     ·show (aA (bL n.2.2.1)).2=true;rw [g3]
     ·show (bC (bj n.root)).2=true;rw [g4]
     ·show (aA (bL n.2.2.2.2.2.2.2.2.1)).2=true;rw [g5]
     ·show (aA (bL n.2.2.2.2.2.2.2.2.2)).2=true;rw [g6]
def sX {s:ByteArray}(h:(aG s).2=true->False):aG s=(dq,false):=by
 cases h1:(aG s).2 with
 |true=>exact (h h1).elim
 |false=>exact Prod.ext (BY h1) h1
def VH {s:ByteArray}(h1:(!(az s).2)=false) (h2:decide (((az s).1.length:Int)≠7)=false) (h4:decide (aB (ia (az s).1)≠s)=false):aG s=(ia (az s).1,true):=by
 cases h3: !(cx (ia (az s).1)) with
 |false=>exact vW h1 h2 h3 h4
 |true=>
  have e:aB (ia (az s).1)=s:=Classical.not_not.1 (aD h4)
  have e2:s=⟨#[]⟩:=by rw [<-e];unfold aB;rw [pJ h3];rfl
  subst e2
  exact absurd h2 (by decide+kernel)
def aqx (l:List ByteArray) (n:Nat):List SV:=[.int (bif Nat.blt 0 n then (aA (nth ab l 0)).1 else 0),.int (bif Nat.blt 1 n then (aA (nth ab l 1)).1 else 0),.int (bif Nat.blt 2 n then (aA (nth ab l 2)).1 else 0),.int 0,.int 0,.int 0,.int 0,.int 0,.int 0,.int 0]
def vP (s:ByteArray):Prop:=s.size<=1000000
def c7 (s:ByteArray):AV:=.t [ndA (aG s).1,.s (.q (aG s).2)]
def ZO (s:ByteArray):List AV:=[]
def adw:cu where
 A:=[.s .str]
 B:=[]
 pre:=λx b=>vP x
 r:=λx b _=>c7 x
 o:=λx b _=>ZO x
def acQ:Has Tryz.prog 58 adw:=by
 refine Has.sF zT zF zF (l:=[(102,iD),(103,dc),(104,mF),(105,kt)]) ⟨EE,oA,SM,OJ,aa⟩ Tryz.func58 ?_
 rintro (s:ByteArray) _ (hp:vP s)
 show vc _ _ _ _ (entry [.str s] []) _
 unfold vP at hp
 have db:∀k,(nth ab (az s).1 k).size<=1000000:=λk=>by
  by_cases h:k<(az s).1.length
  ·exact ZA9 (AJ _ (bS (ek:=ab) h)) hp
  ·unfold nth;rw [ZE1 (by omega)];exact ZA7 _
 refine⟨⟨tv2,?_⟩,λx1 w2=>⟨aa,λw3=>?_,λw4=>⟨λw5=>?_,λw6=>?_⟩⟩⟩
 all_goals first|refine aw ?_|refine ax ?_|exact bb|(dsimp only [iD,fU,dc,di,mF,j8,kt,jk];omega)|exact ba|skip
 ·refine⟨[],[],_,_,_,ζ,aC,(),aa,?_,?_,ζ⟩
  ·(show _=c7 s);unfold c7;first|(rw [rS w3];rfl)|rfl
  ·rfl
 ·refine⟨[],[],_,_,_,ζ,aC,(),aa,?_,?_,ζ⟩
  ·(show _=c7 s);unfold c7;first|(rw [ox w5];rfl)|rfl
  ·rfl
 ·have hfy:(!(az s).2)=false:=w4
  have hf7:=w6
  have hl7:(az s).1.length=7:=by have:=Classical.not_not.1 (aD w6);omega
  have cP:∀n,(∀j,j<n->(aA (nth ab (az s).1 j)).2=true)->(!(aA (nth ab (az s).1 n)).2)=false->∀j,j<n+1->(aA (nth ab (az s).1 j)).2=true:=λn h h2 j hj=>by
   by_cases hjn:j=n
   ·rw [hjn];exact cr h2
   ·exact h j (by omega)
  have hnt:∀k,k<3->nth ab (List.take 3 (List.drop 3 (az s).1)) k=nth ab (az s).1 (3+k):=λk hk=>by
   unfold nth;rw [ZH7 hk,List.getElem?_drop]
  have ao8:nth ab (List.take 3 (List.drop 3 (az s).1)) 0=nth ab (az s).1 3:=hnt 0 (by omega)
  have ao7:nth ab (List.take 3 (List.drop 3 (az s).1)) 1=nth ab (az s).1 4:=hnt 1 (by omega)
  have ao6:nth ab (List.take 3 (List.drop 3 (az s).1)) 2=nth ab (az s).1 5:=hnt 2 (by omega)
  have aqM:∀k,(nth ab (List.take 3 (List.drop 3 (az s).1)) k).size<=1000000:=λk=>by
   by_cases hk:k<3
   ·rw [hnt k hk];exact db _
   ·unfold nth;rw [ZE1 (by rw [ZB6];omega)];exact ZA7 _
  have tV:ia (az s).1=((aA (nth ab (az s).1 0)).1,(aA (nth ab (az s).1 1)).1,(aA (nth ab (az s).1 2)).1,(bC (nth ab (List.take 3 (List.drop 3 (az s).1)) 0)).1.1,(bC (nth ab (List.take 3 (List.drop 3 (az s).1)) 0)).1.2.1,(bC (nth ab (List.take 3 (List.drop 3 (az s).1)) 0)).1.2.2.1,(bC (nth ab (List.take 3 (List.drop 3 (az s).1)) 0)).1.2.2.2.1,(bC (nth ab (List.take 3 (List.drop 3 (az s).1)) 0)).1.2.2.2.2,(aA (nth ab (List.take 3 (List.drop 3 (az s).1)) 1)).1,(aA (nth ab (List.take 3 (List.drop 3 (az s).1)) 2)).1):=by rw [ao8,ao7,ao6];rfl
  have h7:((az s).1.length:Int)=7:=Classical.not_not.1 (aD w6)
  refine jq (l:=[(102,iD),(103,dc),(104,mF),(105,kt)]) (ex:=zT) (wr:=zF) (pt:=zF) ⟨EE,oA,SM,OJ,trivial⟩ [.s 0,.s 2,.b 1002,.s 4,.s 6,.s 25,.b 1025,.s 26] (λn:Nat=>[(.s 27,.int n),(.b 1006,.a (aqx (az s).1 n))]) (λn=>n<=3/\∀j,j<n->(aA (nth ab (az s).1 j)).2=true) (λn=>3-n) 0 [] ⟨ZA7 _,λj hj=>absurd hj (by omega)⟩ dP ?_
  rintro n ⟨(hn:n<=3),hk⟩
  have h6:n=0\/n=1\/n=2\/n=3:=by omega
  rcases h6 with rfl |rfl |rfl |rfl
  ·refine⟨λw1=>⟨⟨?_,?_⟩,⟨?_,?_⟩,⟨tv2,?_⟩,λx2 w3=>⟨λw4=>?_,λw5=>⟨⟨?_,?_⟩,?_⟩⟩⟩,λw6=>⟨⟨?_,?_,?_⟩,⟨tv2,?_,λx7=>?_⟩,λx8 w9=>⟨aa,λdB=>?_,λiP=>⟨⟨⟨tv11,aa⟩,aa⟩,λve iL=>⟨λgY=>?_,λnG=>?_⟩⟩⟩⟩⟩
   all_goals first|(exfalso;simp only [decide_eq_true_eq,decide_eq_false_iff_not] at *;omega)|refine aw ?_|refine ax ?_|exact bb|(dsimp only [iD,fU,dc,di,mF,j8,kt,jk];omega)|exact ba|exact db _|(show (0:Int)<((az s).1.length:Int);omega)|skip
   ·have e:=sX (s:=s) (λh=>absurd ((pJ w4).symm.trans (oX h).1) Bool.noConfusion)
    refine⟨[],[],_,_,_,ζ,aC,(),aa,?_,?_,ζ⟩
    ·(show _=c7 s);unfold c7;first|(rw [e];rfl)|rfl
    ·rfl
   ·refine⟨(1),[],?_,?_,?_⟩
    rotate_right
    ·exact bY
    ·exact⟨by omega,cP 0 hk w5⟩
    ·show 3-1<3-0;omega
  ·refine⟨λw1=>⟨⟨?_,?_⟩,⟨?_,?_⟩,⟨tv2,?_⟩,λx2 w3=>⟨λw4=>?_,λw5=>⟨⟨?_,?_⟩,?_⟩⟩⟩,λw6=>⟨⟨?_,?_,?_⟩,⟨tv2,?_,λx7=>?_⟩,λx8 w9=>⟨aa,λdB=>?_,λiP=>⟨⟨⟨tv11,aa⟩,aa⟩,λve iL=>⟨λgY=>?_,λnG=>?_⟩⟩⟩⟩⟩
   all_goals first|(exfalso;simp only [decide_eq_true_eq,decide_eq_false_iff_not] at *;omega)|refine aw ?_|refine ax ?_|exact bb|(dsimp only [iD,fU,dc,di,mF,j8,kt,jk];omega)|exact ba|exact db _|(show (1:Int)<((az s).1.length:Int);omega)|skip
   ·have e:=sX (s:=s) (λh=>absurd ((pJ w4).symm.trans (oX h).2.1) Bool.noConfusion)
    refine⟨[],[],_,_,_,ζ,aC,(),aa,?_,?_,ζ⟩
    ·(show _=c7 s);unfold c7;first|(rw [e];rfl)|rfl
    ·rfl
   ·refine⟨(2),[],?_,?_,?_⟩
    rotate_right
    ·exact bY
    ·exact⟨by omega,cP 1 hk w5⟩
    ·show 3-2<3-1;omega
  ·refine⟨λw1=>⟨⟨?_,?_⟩,⟨?_,?_⟩,⟨tv2,?_⟩,λx2 w3=>⟨λw4=>?_,λw5=>⟨⟨?_,?_⟩,?_⟩⟩⟩,λw6=>⟨⟨?_,?_,?_⟩,⟨tv2,?_,λx7=>?_⟩,λx8 w9=>⟨aa,λdB=>?_,λiP=>⟨⟨⟨tv11,aa⟩,aa⟩,λve iL=>⟨λgY=>?_,λnG=>?_⟩⟩⟩⟩⟩
   all_goals first|(exfalso;simp only [decide_eq_true_eq,decide_eq_false_iff_not] at *;omega)|refine aw ?_|refine ax ?_|exact bb|(dsimp only [iD,fU,dc,di,mF,j8,kt,jk];omega)|exact ba|exact db _|(show (2:Int)<((az s).1.length:Int);omega)|skip
   ·have e:=sX (s:=s) (λh=>absurd ((pJ w4).symm.trans (oX h).2.2.1) Bool.noConfusion)
    refine⟨[],[],_,_,_,ζ,aC,(),aa,?_,?_,ζ⟩
    ·(show _=c7 s);unfold c7;first|(rw [e];rfl)|rfl
    ·rfl
   ·refine⟨(3),[],?_,?_,?_⟩
    rotate_right
    ·exact bY
    ·exact⟨by omega,cP 2 hk w5⟩
    ·show 3-3<3-2;omega
  ·refine⟨λw1=>⟨⟨?_,?_⟩,?_⟩,λw2=>⟨⟨?_,?_,?_⟩,⟨tv2,?_,λx3=>?_⟩,λx4 w5=>⟨aa,λw6=>?_,λw7=>⟨⟨⟨tv11,aa⟩,aa⟩,λx8 w9=>⟨λdB=>?_,λiP=>?_⟩⟩⟩⟩⟩
   all_goals first|(exfalso;simp only [decide_eq_true_eq,decide_eq_false_iff_not] at *;omega)|refine aw ?_|refine ax ?_|exact bb|(dsimp only [iD,fU,dc,di,mF,j8,kt,jk];omega)|exact ba|exact db _|skip
   ·show (List.take 3 (List.drop 3 (az s).1)).length=3
    rw [ZB6,ZC8];omega
   ·exact aqM _
   ·have w6':(!((bC (nth ab (List.take 3 (List.drop 3 (az s).1)) 0)).2&&(aA (nth ab (List.take 3 (List.drop 3 (az s).1)) 1)).2&&(aA (nth ab (List.take 3 (List.drop 3 (az s).1)) 2)).2))=true:=w6
    have e:=sX (s:=s) (λh=>by
     have hp:=oX h
     rw [ao8,ao7,ao6,hp.2.2.2.1,hp.2.2.2.2.1,hp.2.2.2.2.2] at w6'
     cases w6')
    refine⟨[],[],_,_,_,ζ,aC,(),aa,?_,?_,ζ⟩
    ·(show _=c7 s);unfold c7;first|(rw [e];rfl)|rfl
    ·rfl
   ·have e:=rR (s:=s) (by rw [tV];exact dB)
    refine⟨[],[],_,_,_,ζ,aC,(),aa,?_,?_,ζ⟩
    ·(show _=c7 s);unfold c7;first|(rw [e];rfl)|rfl
    ·rfl
   ·have e:=(VH (s:=s) hfy hf7 (by rw [tV];exact iP)).trans (congrArg (λx=>(x,true)) tV)
    refine⟨[],[],_,_,_,ζ,aC,(),aa,?_,?_,ζ⟩
    ·(show _=c7 s);unfold c7;first|(rw [e];rfl)|rfl
    ·rfl
end
end GL
namespace GL
open Go.RowKit
def DC {w:World}{b:Nat}{t0 t1 t2 t3 t4 t5 t6:Value}(h:w.heap[b]?=some (Obj.cells #[t0,t1,t2,t3,t4,t5,t6] 33 (0,0))):w.cell? ⟨b,0,none⟩=some t0/\w.cell? ⟨b,1,none⟩=some t1/\w.cell? ⟨b,2,none⟩=some t2/\w.cell? ⟨b,3,none⟩=some t3/\w.cell? ⟨b,4,none⟩=some t4/\w.cell? ⟨b,5,none⟩=some t5/\w.cell? ⟨b,6,none⟩=some t6:=
 ⟨bO h 0,bO h 1,bO h 2,bO h 3,bO h 4,bO h 5,bO h 6⟩
def nW (W:World) (A B:Obj):((W.alloc A).alloc B).heap[W.heap.size]?=some A/\W.heap.size<((W.alloc A).alloc B).heap.size:=by
 have h1:W.heap.size<(W.alloc A).heap.size:=by show _<(W.heap.push A).size;rw [ZH8];omega
 have h2:(W.alloc A).heap.size<((W.alloc A).alloc B).heap.size:=by show _<((W.alloc A).heap.push B).size;rw [ZH8];omega
 exact⟨(heap_alloc_old (W.alloc A) B h1).trans (heap_alloc_new W A),by omega⟩
theorem afp (W:World) (s0 s1 s2 s3 s4 s5 s6 s7 t0 t1 t2 t3 t4 t5 t6:Value) (sok nok:Bool) (n:Nat) (X:Nat->Option dN)
   (hSO:∀w,Below W.heap.size W w->Calls Tryz.prog 38 #[.agg #[s0,s1,s2,s3,s4,s5,s6,s7]] w λe w'=>e= .returned (.bool sok)/\Below w.heap.size w w')
   (hND:∀w b,sok=true->Below W.heap.size W w->W.heap.size<=b->w.heap[b]?=some (.cells #[s0,s1,s2,s3,s4,s5,s6,s7] 29 (0,0))->Calls Tryz.prog 28 #[.pointer (some ⟨b,0,none⟩),.agg #[t0,t1,t2,t3,t4,t5,t6]] w λe w'=>∃v,e= .returned (.tuple #[v,.bool nok])/\Below w.heap.size w w'/\(nok=true->o7 w' v n X)):
   Calls Tryz.prog 19 #[.agg #[s0,s1,s2,s3,s4,s5,s6,s7],.agg #[t0,t1,t2,t3,t4,t5,t6]] W λe w'=>∃v,e= .returned (.tuple #[v,.bool (sok&&nok)])/\Below W.heap.size W w'/\((sok&&nok)=true->o7 w' v n X):=by
 go_enter Tryz.func19,Tryz.ntmps19
 have b0:Below W.heap.size W (W.alloc (.cells #[s0,s1,s2,s3,s4,s5,s6,s7] 29)):=(Below.refl _ W).alloc (ZB0 _) _
 have b1:Below W.heap.size W ((W.alloc (.cells #[s0,s1,s2,s3,s4,s5,s6,s7] 29)).alloc (.cells #[t0,t1,t2,t3,t4,t5,t6] 33)):=b0.alloc b0.size _
 go_wp2_with (go_at_call 38;refine (hSO _ b1).mono ?_)
 rintro e w1 ⟨rfl,c1⟩
 have b2:Below W.heap.size W w1:=b1.trans (c1.mono b1.size)
 cases sok with
 |false=>
  go_wp2
  go_ret2
  exact⟨_,rfl,b2,λh=>by cases h⟩
 |true=>
  have xe:w1.heap[W.heap.size]?=some (.cells #[s0,s1,s2,s3,s4,s5,s6,s7] 29 (0,0)):=by
   rw [c1.block _ (nW _ _ _).2];exact (nW _ _ _).1
  have qg:w1.heap[(W.alloc (.cells #[s0,s1,s2,s3,s4,s5,s6,s7] 29)).heap.size]?=some (Obj.cells #[t0,t1,t2,t3,t4,t5,t6] 33 (0,0)):=by
   rw [c1.block _ (by show _<((W.alloc _).heap.push _).size;rw [ZH8];omega)];exact heap_alloc_new _ _
  have db:(W.alloc (.cells #[s0,s1,s2,s3,s4,s5,s6,s7] 29)).heap.size=W.heap.size+1:=by show (W.heap.push _).size=_;rw [ZH8]
  rw [db] at qg
  obtain⟨f0,f1,f2,f3,f4,f5,f6⟩:=DC qg
  go_wp2_with (go_at_call 28;refine (hND w1 W.heap.size (by simp) b2 (ZB0 _) xe).mono ?_)
  rintro e w2 ⟨v,rfl,c2,hv⟩
  go_wp2
  go_ret2
  exact⟨_,by cases nok<;>rfl,b2.trans (c2.mono b2.size),λh=>hv (by cases nok with |true=>rfl |false=>cases h)⟩
def atO (n:Nat) (X:Nat->Option dN) (k:Int):dN×Bool:=bif gC k 0 ((n:Int)-1) then (match X k.toNat with |some m=>(m,true) |none=>(dq,false)) else (dq,false)
def al1 {n:Nat}{X:Nat->Option dN}{k:Int}(h:gC k 0 ((n:Int)-1)=false):atO n X k=(dq,false):=by unfold atO;rw [h];rfl
def akJ {n:Nat}{X:Nat->Option dN}{k:Int}(h:X k.toNat=none):atO n X k=(dq,false):=by unfold atO;rw [h];cases gC k 0 ((n:Int)-1)<;>rfl
def akI {n:Nat}{X:Nat->Option dN}{k:Int}{m:dN}(hi:gC k 0 ((n:Int)-1)=true) (h:X k.toNat=some m):atO n X k=(m,true):=by unfold atO;rw [hi,h];rfl
def rT {w:World}{b:Nat}{n:dN}(h:w.heap[b]?=some (Obj.cells (iw n) 42 (0,0))):
  w.cell? ⟨b,0,none⟩=some (.int .i64 n.1)/\w.cell? ⟨b,1,none⟩=some (.int .i64 n.2.1)/\w.cell? ⟨b,2,none⟩=some (.int .i64 n.2.2.1)/\w.cell? ⟨b,3,none⟩=some (.int .i64 n.2.2.2.1)/\w.cell? ⟨b,4,none⟩=some (.int .i64 n.2.2.2.2.1)/\
  w.cell? ⟨b,5,none⟩=some (.int .i64 n.2.2.2.2.2.1)/\w.cell? ⟨b,6,none⟩=some (.int .i64 n.2.2.2.2.2.2.1)/\w.cell? ⟨b,7,none⟩=some (.int .i64 n.2.2.2.2.2.2.2.1)/\w.cell? ⟨b,8,none⟩=some (.int .i64 n.2.2.2.2.2.2.2.2.1)/\w.cell? ⟨b,9,none⟩=some (.int .i64 n.2.2.2.2.2.2.2.2.2):=
 ⟨bO h 0,bO h 1,bO h 2,bO h 3,bO h 4,bO h 5,bO h 6,bO h 7,bO h 8,bO h 9⟩
def yX {B b:Nat}{w w':World}(h:Below B w w') (hb:B<=b) (cs:Array Value):Below B w (w'.setRow b cs) where
 os:=h.os
 tape:=h.tape
 output:=h.output
 size:=by
  show w.heap.size<=(World.setRow w' b cs).heap.size
  unfold World.setRow
  simpa using h.size
 block:=λk hk=>(setRow_other w' b k cs (by omega)).trans (h.block k hk)
def acC (w:World) (v:Value) (n:Nat) (X:Nat->Option dN) (k:Int) (hN:o7 w v n X) (hn:n<=16)
   (hWI:∀w1 (a b c:Int),Below w.heap.size w w1->Calls Tryz.prog 39 #[.int .i64 a,.int .i64 b,.int .i64 c] w1 λe w'=>e= .returned (.bool (gC a b c))/\Below w1.heap.size w1 w'):
   Calls Tryz.prog 20 #[v,.int .i64 k] w λe w'=>e= .returned (.tuple #[ndV (atO n X k).1,.bool (atO n X k).2])/\Below w.heap.size w w':=by
 obtain⟨B,rfl,f,hf,_,hX⟩:=hN
 have hB:B<w.heap.size:=by obtain⟨c,hc,_⟩:=hf;exact fY hc
 go_enter Tryz.func20,Tryz.ntmps20
 have b0:Below w.heap.size w (w.alloc (.cells (iw dq) 42)):=(Below.refl _ w).alloc (ZB0 _) _
 have tJ:∀w1,Below (w.alloc (.cells (iw dq) 42)).heap.size (w.alloc (.cells (iw dq) 42)) w1->w1.heap[w.heap.size]?=some (Obj.cells (iw dq) 42 (0,0)):=λw1 c1=>(c1.block _ (by show _<(w.heap.push _).size;rw [ZH8];omega)).trans (heap_alloc_new w _)
 go_wp2_with (go_at_call 39;refine (hWI _ _ _ _ b0).mono ?_)
 rintro e w1 ⟨rfl,c1⟩
 have b1:Below w.heap.size w w1:=b0.trans (c1.mono b0.size)
 have wo:=tJ w1 c1
 have hW:(w1.setRow w.heap.size (iw dq)).heap[w.heap.size]?=some (Obj.cells (iw dq) 42 (0,0)):=setRow_heap _ _ (iw dq) _ 42 (0,0) wo
 cases hi:gC k 0 ((n:Int)-1) with
 |false=>
  go_wp2_with (refine wpList_store_row rfl _ _ _ rfl w.heap.size (iw dq) rfl rfl 42 (iw dq) wo (by kernel_rfl) rfl (by simp [iw,Value.oneCell']) ?_)
  obtain⟨f0,f1,f2,f3,f4,f5,f6,f7,f8,f9⟩:=rT hW
  (try simp only [Exit.inBlock,Exit.then])
  refine bodyPost_ret (v:=.tuple #[ndV dq,.bool false]) ?_ rfl ?_
  ·rw [results_cell_tmp rfl]
   go_simp
  ·rw [al1 hi]
   exact⟨rfl,yX b1 (ZB0 _) _⟩
 |true=>
  have hb:0<=k/\k<=(n:Int)-1:=by simpa [gC] using hi
  obtain⟨j,rfl⟩:∃j:Nat,k=(j:Int):=⟨k.toNat,by omega⟩
  have hj:j<n:=by omega
  have iz:w1.cell? ⟨B,j,none⟩=some (f j):=(b1.cell (p:=⟨B,j,none⟩) hB).trans (hf.cell hj)
  have hXj:=hX j hj
  cases hx:X j with
  |none=>
   rw [hx] at hXj
   have hfj:f j= .pointer none:=hXj
   rw [hfj] at iz
   go_wp2_with (refine wpList_store_row rfl _ _ _ rfl w.heap.size (iw dq) rfl rfl 42 (iw dq) wo (by kernel_rfl) rfl (by simp [iw,Value.oneCell']) ?_)
   obtain⟨f0,f1,f2,f3,f4,f5,f6,f7,f8,f9⟩:=rT hW
   (try simp only [Exit.inBlock,Exit.then])
   refine bodyPost_ret (v:=.tuple #[ndV dq,.bool false]) ?_ rfl ?_
   ·rw [results_cell_tmp rfl]
    go_simp
   ·rw [akJ (by rw [ZA5];exact hx)]
    exact⟨rfl,yX b1 (ZB0 _) _⟩
  |some m=>
   rw [hx] at hXj
   obtain⟨b,hfj,hbm⟩:=hXj
   rw [hfj] at iz
   have arj:w1.heap[b]?=some (Obj.cells (iw m) 42 (0,0)):=(b1.block b (fY hbm)).trans hbm
   obtain⟨g0,g1,g2,g3,g4,g5,g6,g7,g8,g9⟩:=rT arj
   have hWm:(w1.setRow w.heap.size (iw m)).heap[w.heap.size]?=some (Obj.cells (iw m) 42 (0,0)):=setRow_heap _ _ (iw dq) _ 42 (0,0) wo
   go_wp2_with (refine wpList_store_row rfl _ _ _ rfl w.heap.size (iw m) rfl rfl 42 (iw dq) wo (by kernel_rfl) rfl (by simp [iw,Value.oneCell']) ?_)
   obtain⟨f0,f1,f2,f3,f4,f5,f6,f7,f8,f9⟩:=rT hWm
   (try simp only [Exit.inBlock,Exit.then])
   refine bodyPost_ret (v:=.tuple #[ndV m,.bool true]) ?_ rfl ?_
   ·rw [results_cell_tmp rfl]
    go_simp
   ·rw [akI hi (by rw [ZA5];exact hx)]
    exact⟨rfl,yX b1 (ZB0 _) _⟩
def o7.later {w w':World}{v:Value}{n:Nat}{X:Nat->Option dN}(h:o7 w v n X) (hb:Below w.heap.size w w'):o7 w' v n X:=by
 obtain⟨B,h1,h2⟩:=h
 exact⟨B,h1,h2.grow hb⟩
def apv (n:Nat) (X:Nat->Option dN):Nat->Nat->Int
 |0,_=> -1
 |f+1,k=>bif (atO n X (k:Int)).2 then apv n X f (k+1) else (k:Int)
def cS (W:World) (o:Obj):(W.alloc o).heap.size=W.heap.size+1:=by show (W.heap.push o).size=_;rw [ZH8]
section
variable (W:World) (s0 s1 s2 s3 s4 s5 s6 s7 t0 t1 t2 t3 t4 t5 t6:Value) (ok:Bool) (n:Nat) (X:Nat->Option dN)
def K7:Prop:=∀w,Below W.heap.size W w->Calls Tryz.prog 19 #[.agg #[s0,s1,s2,s3,s4,s5,s6,s7],.agg #[t0,t1,t2,t3,t4,t5,t6]] w λe w'=>∃v,e= .returned (.tuple #[v,.bool ok])/\Below w.heap.size w w'/\(ok=true->o7 w' v n X)
def afg:Prop:=∀w1 (a b c:Int),Below W.heap.size W w1->Calls Tryz.prog 39 #[.int .i64 a,.int .i64 b,.int .i64 c] w1 λe w'=>e= .returned (.bool (gC a b c))/\Below w1.heap.size w1 w'
def XV (hT:K7 W s0 s1 s2 s3 s4 s5 s6 s7 t0 t1 t2 t3 t4 t5 t6 ok n X):Calls Tryz.prog 13 #[.agg #[s0,s1,s2,s3,s4,s5,s6,s7],.agg #[t0,t1,t2,t3,t4,t5,t6]] W λe w'=>e= .returned (.bool ok)/\Below W.heap.size W w':=by
 go_enter Tryz.func13,Tryz.ntmps13
 have b0:Below W.heap.size W (W.alloc (.cells #[s0,s1,s2,s3,s4,s5,s6,s7] 29)):=(Below.refl _ W).alloc (ZB0 _) _
 have b1:Below W.heap.size W ((W.alloc (.cells #[s0,s1,s2,s3,s4,s5,s6,s7] 29)).alloc (.cells #[t0,t1,t2,t3,t4,t5,t6] 33)):=b0.alloc b0.size _
 go_wp2_with (go_at_call 19;refine (hT _ b1).mono ?_)
 rintro e w1 ⟨v,rfl,c1,_⟩
 go_wp2
 go_ret
 exact⟨rfl,b1.trans (c1.mono b1.size)⟩
def UC (k:Int) (hn:ok=true->n<=16) (hT:K7 W s0 s1 s2 s3 s4 s5 s6 s7 t0 t1 t2 t3 t4 t5 t6 ok n X) (hWI:afg W):Calls Tryz.prog 10 #[.agg #[s0,s1,s2,s3,s4,s5,s6,s7],.agg #[t0,t1,t2,t3,t4,t5,t6],.int .i64 k] W λe w'=>e= .returned (.tuple #[ndV (bif ok then atO n X k else (dq,false)).1,.bool (bif ok then atO n X k else (dq,false)).2])/\Below W.heap.size W w':=by
 go_enter Tryz.func10,Tryz.ntmps10
 have b0:Below W.heap.size W (W.alloc (.cells #[s0,s1,s2,s3,s4,s5,s6,s7] 29)):=(Below.refl _ W).alloc (ZB0 _) _
 have b1:Below W.heap.size W ((W.alloc (.cells #[s0,s1,s2,s3,s4,s5,s6,s7] 29)).alloc (.cells #[t0,t1,t2,t3,t4,t5,t6] 33)):=b0.alloc b0.size _
 have b2:Below W.heap.size W (((W.alloc (.cells #[s0,s1,s2,s3,s4,s5,s6,s7] 29)).alloc (.cells #[t0,t1,t2,t3,t4,t5,t6] 33)).alloc (.cells (iw dq) 42)):=b1.alloc b1.size _
 have tJ:∀w1,Below (((W.alloc (.cells #[s0,s1,s2,s3,s4,s5,s6,s7] 29)).alloc (.cells #[t0,t1,t2,t3,t4,t5,t6] 33)).alloc (.cells (iw dq) 42)).heap.size (((W.alloc (.cells #[s0,s1,s2,s3,s4,s5,s6,s7] 29)).alloc (.cells #[t0,t1,t2,t3,t4,t5,t6] 33)).alloc (.cells (iw dq) 42)) w1->w1.heap[W.heap.size+1+1]?=some (Obj.cells (iw dq) 42 (0,0)):=λw1 c1=>by
  have h0:=heap_alloc_new ((W.alloc (.cells #[s0,s1,s2,s3,s4,s5,s6,s7] 29)).alloc (.cells #[t0,t1,t2,t3,t4,t5,t6] 33)) (.cells (iw dq) 42)
  rw [cS,cS] at h0
  exact (c1.block _ (by rw [cS,cS,cS];omega)).trans h0
 go_wp2_with (go_at_call 19;refine (hT _ b2).mono ?_)
 rintro e w1 ⟨v,rfl,c1,hN⟩
 have b3:Below W.heap.size W w1:=b2.trans (c1.mono b2.size)
 have wo:=tJ w1 c1
 have bR:W.heap.size+1+1<w1.heap.size:=fY wo
 cases ok with
 |false=>
  have hW:(w1.setRow (W.heap.size+1+1) (iw dq)).heap[W.heap.size+1+1]?=some (Obj.cells (iw dq) 42 (0,0)):=setRow_heap _ _ (iw dq) _ 42 (0,0) wo
  go_wp2_with (refine wpList_store_row rfl _ _ _ rfl (W.heap.size+1+1) (iw dq) rfl rfl 42 (iw dq) wo (by kernel_rfl) rfl (by simp [iw,Value.oneCell']) ?_)
  obtain⟨f0,f1,f2,f3,f4,f5,f6,f7,f8,f9⟩:=rT hW
  (try simp only [Exit.inBlock,Exit.then])
  refine bodyPost_ret (v:=.tuple #[ndV dq,.bool false]) ?_ rfl ?_
  ·rw [results_cell_tmp rfl]
   go_simp
  ·exact⟨rfl,yX b3 (by omega) _⟩
 |true=>
  have hNt:=hN rfl
  have hnt:=hn rfl
  clear hN hn
  go_wp2_with (go_at_call 20;refine (acC w1 v n X k hNt hnt λw2 a b c c2=>hWI w2 a b c (b3.trans (c2.mono b3.size))).mono ?_)
  rintro e w2 ⟨rfl,c2⟩
  have b4:Below W.heap.size W w2:=b3.trans (c2.mono b3.size)
  have WI:w2.heap[W.heap.size+1+1]?=some (Obj.cells (iw dq) 42 (0,0)):=(c2.block _ bR).trans wo
  have hW:(w2.setRow (W.heap.size+1+1) (iw (atO n X k).1)).heap[W.heap.size+1+1]?=some (Obj.cells (iw (atO n X k).1) 42 (0,0)):=setRow_heap _ _ (iw dq) _ 42 (0,0) WI
  go_wp2_with (refine wpList_store_row rfl _ _ _ rfl (W.heap.size+1+1) (iw (atO n X k).1) rfl rfl 42 (iw dq) WI (by kernel_rfl) rfl (by simp [iw,Value.oneCell']) ?_)
  obtain⟨f0,f1,f2,f3,f4,f5,f6,f7,f8,f9⟩:=rT hW
  (try simp only [Exit.inBlock,Exit.then])
  refine bodyPost_ret (v:=.tuple #[ndV (atO n X k).1,.bool (atO n X k).2]) ?_ rfl ?_
  ·rw [results_cell_tmp rfl]
   go_simp
  ·exact⟨rfl,yX b4 (by omega) _⟩
def lsX (X:Nat->Option dN):Nat->Nat->List Int
 |0,_=>[]
 |f+1,k=>match X k with
  |none=>lsX X f (k+1)
  |some _=>(k:Int)::lsX X f (k+1)
structure aol (B:Nat) (ok:Bool) (l:List Int) (w:World) (v:Value):Prop where
 yes:ok=true->w.ownsRow B 3 1 v l.length (l.map (Value.int .i64))
 no:ok=false->v= .slice none 0 0
def afO {w:World}{B C:Nat}{e:TypeId}{v:Value}{n:Nat}{l:List Value}(h:w.ownsRow B e 1 v n l) (hb:C<=B):w.ownsRow C e 1 v n l:=by
 obtain⟨h1,h2 |⟨g,cap,cur,h2,h3,h4⟩⟩:=h
 ·exact⟨h1,.inl h2⟩
 ·exact⟨h1,.inr ⟨g,cap,cur,h2,ZA9 hb h3,h4⟩⟩
def ah2 {w:World}{B:Nat}{e:TypeId}{v:Value}{n:Nat}{l:List Value}(h:w.ownsRow B e 1 v n l):∀k,v.ownBlock=some k->B<=k:=by
 obtain⟨h1,⟨rfl,_⟩ |⟨g,cap,cur,rfl,h3,h4⟩⟩:=h
 ·intro k hk;cases hk
 ·intro k hk;cases hk;exact h3
def ale {w1 wr w2:World}{o:Obj}{B:Nat}{e:TypeId}{u v':Value}{out:List Int}{k:Int}(fq:wr.ownsRow B e 1 u out.length (out.map (Value.int .i64))) (zO:Below B w1 wr) (hB:B<=wr.heap.size) (SW:w2.ownsRow B e 1 v' (out.length+1) (out.map (Value.int .i64)++[.int .i64 k])) (wY:(wr.alloc o).grownBy w2 u.ownBlock):
  w2.ownsRow B e 1 v' (out++[k]).length ((out++[k]).map (Value.int .i64))/\Below B w1 w2:=by
 refine⟨?_,?_⟩
 ·rw [ZA0,List.map_append];exact SW
 ·exact Below.grown (zO.alloc hB o) wY (by rw [cS];omega) (ah2 fq)
def QL (hn:ok=true->n<=16) (hT:K7 W s0 s1 s2 s3 s4 s5 s6 s7 t0 t1 t2 t3 t4 t5 t6 ok n X):Calls Tryz.prog 9 #[.agg #[s0,s1,s2,s3,s4,s5,s6,s7],.agg #[t0,t1,t2,t3,t4,t5,t6]] W λe w'=>∃v,e= .returned (.tuple #[v,.bool ok])/\Below W.heap.size W w'/\aol W.heap.size ok (lsX X n 0) w' v:=by
 have JF:(Tryz.prog.info? 3).map (λi=>(i.zero,i.size,i.bytes))=some (some (.int .i64 0),1,8):=by kernel_rfl
 obtain⟨i0,hi,HY,hz1,hz2⟩:=info_parts JF
 have aje:Tryz.prog.underlying 24=some (.slice 3):=by kernel_rfl
 clear JF
 go_enter Tryz.func9,Tryz.ntmps9
 have b0:Below W.heap.size W (W.alloc (.cells #[s0,s1,s2,s3,s4,s5,s6,s7] 29)):=(Below.refl _ W).alloc (ZB0 _) _
 have b1:Below W.heap.size W ((W.alloc (.cells #[s0,s1,s2,s3,s4,s5,s6,s7] 29)).alloc (.cells #[t0,t1,t2,t3,t4,t5,t6] 33)):=b0.alloc b0.size _
 go_wp2_with (go_at_call 19;refine (hT _ b1).mono ?_)
 rintro e w1 ⟨v,rfl,c1,hN⟩
 have b2:Below W.heap.size W w1:=b1.trans (c1.mono b1.size)
 cases ok with
 |false=>
  go_wp2
  go_ret2
  exact⟨_,rfl,b2,⟨λh=>(by cases h),λ_=>rfl⟩⟩
 |true=>
  have hnt:=hn rfl
  clear hn
  obtain⟨B,rfl,f,hf,_,hX⟩:=hN rfl
  have hB:B<w1.heap.size:=by obtain⟨c,hc,_⟩:=hf;exact fY hc
  go_wp2
  go_loopw [8,21] (λo i wr=>∃(k:Nat) (out:List Int),k<=n/\i= .int .i64 k/\out.length<=k/\out++lsX X (n-k) k=lsX X n 0/\wr.ownsRow w1.heap.size 3 1 o out.length (out.map (Value.int .i64))/\Below w1.heap.size w1 wr) (λ_ i _=>n-(intOf i).toNat)
  case atStart=>exact⟨0,[],ZA7 _,rfl,ZA7 _,rfl,World.ownsRow_nil _ _ _ _,Below.refl _ _⟩
  case round=>
   obtain⟨k,out,hk,rfl,hol,hg,fq,zO⟩:=hrel
   by_cases bR:k<n
   ·have iz:wr.cell? ⟨B,k,none⟩=some (f k):=(zO.cell (p:=⟨B,k,none⟩) hB).trans (hf.cell bR)
    have hXk:=hX k bR
    rw [show n-k=(n-(k+1))+1 by omega,lsX] at hg
    cases hx:X k with
    |none=>
     rw [hx] at hXk hg
     have hfk:f k= .pointer none:=hXk
     rw [hfk] at iz
     go_wp2
     refine⟨⟨k+1,out,bR,ζ,by omega,hg,fq,zO⟩,?_⟩
     show n-((k:Int)+1).toNat<n-((k:Int)).toNat
     omega
    |some m=>
     rw [hx] at hXk hg
     obtain⟨b,hfk,_⟩:=hXk
     rw [hfk] at iz
     go_wp2_with (at_builtin;refine wpList_append_own _ rfl _ _ 24 rfl w1.heap.size 3 i0 (.int .i64 0) 1 8 aje hi HY hz1 hz2 rfl (by decide) _ _ _ rfl (fq.alloc _) ⟨wr.heap.size,0,none⟩ 1 1 [.int .i64 (k:Int)] rfl rfl ?c1 ?c2 ?c3 ?c4 ?c5 ?_)
     case c2=>rfl
     case c3=>unfold maxLen;omega
     case c4=>omega
     case c5=>have:=zO.size;simp;omega
     ·intro v' w2 SW wY _
      have hr:=ale fq zO zO.size SW wY
      clear SW wY fq iz
      go_wp2
      refine⟨⟨k+1,out++[(k:Int)],bR,ζ,by rw [ZA0];exact Nat.succ_le_succ hol,by rw [ZC5];exact hg,hr.1,hr.2⟩,?_⟩
      show n-((k:Int)+1).toNat<n-((k:Int)).toNat
      omega
   ·have hkk:k=n:=by omega
    subst hkk
    rw [Nat.sub_self,lsX,ZD4] at hg
    go_wp2
    go_ret2
    exact⟨_,rfl,b2.trans (zO.mono b2.size),⟨λ_=>by rw [<-hg];exact afO fq b2.size,λh=>by cases h⟩⟩
end
end GL
namespace GL
abbrev FX (S:ay) (t:bf) (k:Nat):ByteArray:=nth ab (aE S t) k
def ndX (S:ay) (t:bf) (k:Nat):Option dN:=bif decide (FX S t k=⟨#[]⟩) then none else some (aG (FX S t k)).1
def ahu {s:ay}{X:List ByteArray}:∀{f k:Nat},k+f=X.length->LQ (λk=>decide (nth ab X k=⟨#[]⟩)) (λk=>(aG (nth ab X k)).2) (λk=>iX s (cK (aG (nth ab X k)).1)) f k=nK s (X.drop k)
 |0,k,h=>by rw [ZB3 (by omega)];rfl
 |f+1,k,h=>by
  rw [bJ (ek:=ab) (show k<X.length by omega),LQ,nK,ahu (f:=f) (k:=k+1) (by omega)]
def pd {s:ay}:∀{l:List ByteArray},nK s l=true->∀x∈l,x≠⟨#[]⟩->(aG x).2=true/\iX s (cK (aG x).1)=true
 |y::l,h,x,hx,ft=>by
  rw [nK] at h
  cases h1:decide (y=⟨#[]⟩) with
  |true=>
   rw [h1,cond_true] at h
   rcases ZB7.1 hx with rfl |hx
   ·exact absurd (aF h1) ft
   ·exact pd h x hx ft
  |false=>
   rw [h1,cond_false] at h
   cases h2:(aG y).2 with
   |false=>rw [h2] at h;cases h
   |true=>
    rw [h2,Bool.not_true,cond_false] at h
    cases h3:iX s (cK (aG y).1) with
    |false=>rw [h3] at h;cases h
    |true=>
     rw [h3,Bool.not_true,cond_false] at h
     rcases ZB7.1 hx with rfl |hx
     ·exact⟨h2,h3⟩
     ·exact pd h x hx ft
section
variable {S:ay}{t:bf}
def qp (h:cU S t=true):(aE S t).length=t.many.toNat/\0<=t.many/\t.many<=16:=by
 have h2:=(fZ h).2.1
 exact⟨eV (D0 h2),(ZW h2).1⟩
def amK (h:cU S t=true) (k:Int):atO t.many.toNat (ndX S t) k=cW S t k:=by
 obtain⟨_,h2,h3⟩:=fZ h
 obtain⟨hl,h0,h1⟩:=qp h
 have e:((t.many.toNat:Int)-1)=t.many-1:=by omega
 unfold atO
 rw [e]
 cases hi:gC k 0 (t.many-1) with
 |false=>rw [ac7 (by rw [hi];rfl)];rfl
 |true=>
  have hb:=cy.1 hi
  rw [ac6 (by rw [hi];rfl),cond_true,<-AX (D0 h2) (by omega)]
  unfold ndX FX
  cases hx:decide (nth ab (aE S t) k.toNat=⟨#[]⟩) with
  |true=>rw [aF hx,ez];rfl
  |false=>
   have hg:=(pd h3 _ (bS (ek:=ab) (l:=aE S t) (k:=k.toNat) (by omega)) (aD hx)).1
   exact Prod.ext rfl hg.symm
def amn:∀{f k:Nat},k+f=(aE S t).length->lsX (ndX S t) f k=v8 ((aE S t).drop k) k
 |0,k,h=>by rw [ZB3 (by omega)];rfl
 |f+1,k,h=>by
  rw [bJ (ek:=ab) (show k<(aE S t).length by omega),lsX,v8,amn (f:=f) (k:=k+1) (by omega)]
  have e:ndX S t k=bif decide (nth ab (aE S t) k=⟨#[]⟩) then none else some (aG (nth ab (aE S t) k)).1:=rfl
  rw [e]
  by_cases hx:nth ab (aE S t) k=⟨#[]⟩
  ·rw [decide_eq_true hx,decide_eq_false (p:=nth ab (aE S t) k≠⟨#[]⟩) (λh=>h hx)];rfl
  ·rw [decide_eq_false hx,decide_eq_true (p:=nth ab (aE S t) k≠⟨#[]⟩) hx];rfl
