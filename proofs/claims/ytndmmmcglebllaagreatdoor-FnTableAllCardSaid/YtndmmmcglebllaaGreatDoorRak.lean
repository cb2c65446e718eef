/- Part 11 of the proof of a drawn law. -/
import Derived.Below
import Derived.Test.YtndmmmcglebllaaGreatDoorRad
import Derived.Test.YtndmmmcglebllaaGreatDoorRaf
import Derived.Test.YtndmmmcglebllaaGreatDoorRag
import Derived.Test.YtndmmmcglebllaaGreatDoorRah
import Derived.Test.YtndmmmcglebllaaGreatDoorRai
import Derived.Test.YtndmmmcglebllaaGreatDoorRaj
set_option maxHeartbeats 20000000
set_option maxRecDepth 100000
set_option linter.all false
namespace Go.Proofs.YtndmmmcglebllaaGreatDoor
namespace GL
structure ay.fit (s:ay) (p:Pt):Prop where
 ok:bc p=true
 b:p.2.1<=s.cz
def ag5 {s:ay}{p:Pt}{lv:Int}(h0:0<=s.cz) (hp:s.fit p):∀q∈(bl s p lv).1,s.fit q:=by
 intro q hq
 refine⟨qP s p lv q hq,?_⟩
 cases hh:au p with
 |true=>
  rw [lG hh] at hq
  rw [(ZE4.1 hq).2];exact h0
 |false=>
  have nil:∀{b:Bool},bl s p lv=([],b)->False:=λe=>by rw [e] at hq;cases hq
  have h1:(!(bc p))=false:=by rw [hp.ok];rfl
  have h3:decide (p.2.1>s.cz)=false:=decide_eq_false (by have:=hp.b;omega)
  cases hl:decide (p.2.2.2.2≠lv) with
  |true=>exact (nil (y0 hh hl)).elim
  |false=>
   cases hr: !(bB s p).2 with
   |true=>exact (nil (yZ hh h1 hl h3 hr)).elim
   |false=>
    rw [yY hh h1 hl h3 hr] at hq
    cases ha:(bw (bB s p).1).1.any (late p) with
    |true=>rw [y5 ha] at hq;cases hq
    |false=>
     rw [uY ha] at hq
     have:=List.any_eq_false.1 ha q hq
     have h2:¬(q.2.1>p.2.1):=by simpa [late] using this
     have:=hp.b;omega
def X0 {s:ay}{lv:Int}(h0:0<=s.cz):∀{l acc n:List Pt},(∀q∈l,s.fit q)->(∀q∈acc,s.fit q)->fj s lv l acc=some n->∀q∈n,s.fit q
 |[],acc,n,_,h2,h=>by cases h;exact h2
 |p::l,acc,n,h1,h2,h=>by
  unfold fj at h
  cases hb:(bl s p lv).2 with
  |true=>
   rw [hb,cond_true] at h
   refine X0 h0 (λq hq=>h1 q (by simp [hq])) (λq hq=>?_) h
   rcases ZB5.1 hq with hq |hq
   ·exact h2 q hq
   ·exact ag5 h0 (h1 p (by simp)) q hq
  |false=>rw [hb] at h;cases h
def aad {n:Int}{d:Nat}(h0:gC n 0 16=true) (h:d=4 ^ (bo n).toNat):n.toNat<=d:=by
 obtain⟨h1,h2⟩:=cy.1 h0
 rw [h]
 unfold bo
 cases hc:decide (n<=1) with
 |true=>have:=aF hc;show n.toNat<=1;omega
 |false=>
  cases hd:decide (n<=4) with
  |true=>have:=aF hd;show n.toNat<=4;omega
  |false=>show n.toNat<=16;omega
def ac0 {p:Pt}(h:au p=true):p.2.1=0:=by rw [gH h];rfl
def O2 {p:Pt}(h:au p=true):p.2.2.2.2=0:=by rw [gH h];rfl
theorem agk {s:ay}{t:bf}(h0:0<=s.cz) (h:decide (t.root.2.1>s.cz)=true):iX s t=false:=by
 have hh:au t.root=false:=by
  cases hh:au t.root with
  |false=>rfl
  |true=>have:=aF h;rw [ac0 hh] at this;omega
 cases hb:ki t with
 |true=>exact I4 hb
 |false=>
  cases hd:decide (t.depth>0) with
  |false=>
   have e:bh s t=([t.root],true):=rV hd
   rw [RZ hb (by rw [e];rfl),e]
   exact zB hh (aeu h)
  |true=>
   have e:bh s t=([],false):=ym hd (by rw [KE (by rw [FA hh h];rfl)])
   exact R0 hb (by rw [e];rfl)
def pz (S:ay) (t:bf):Prop:=S.rd/\0<=S.cz
def Y6 (S:ay) (t:bf) (z:Bool):Prop:=z=iX S t
def ca (S:ay) (t:bf) (z:Bool):AV:=.t [match z with |true=>.s (.xs 0 5 0 t.many.toNat) |false=>.s (.v (.slice none 0 0)),.s (.q z)]
def cE (S:ay) (t:bf) (z:Bool):List AV:=match z with |true=>[.rs ae (bh S t).1] |false=>[.zz]
def IM:cu where
 A:=[.vs vj,.a [.int,.int,.int,.int,.int,.int,.int]]
 B:=[]
 pre:=λx b=>pz (x.1) (x.2)
 α:=λ_ _=>Bool
 φ:=λx b z=>Y6 (x.1) (x.2) z
 r:=λx b z=>ca (x.1) (x.2) z
 o:=λx b z=>cE (x.1) (x.2) z
 nf:=1
theorem SN:Has Tryz.prog 55 IM:=by
 refine Has.acA zT zF zF (l:=[(39,cA),(100,gj),(74,cJ),(70,lF),(57,lR),(56,bQ)]) ⟨fy,rW,jI,yr,zM,eo,aa⟩ Tryz.func55 ?_
 rintro⟨⟨(aj:List ByteArray),(ak:List Int),(an:List Int),(ao:Int),(ah:List Pt),(aq:Int),(ai:List Pt),(ar:Bool)⟩,⟨(t1:Int),(t2:Int),(t3:Int),(t4:Int),(t5:Int),(t6:Int),(t7:Int)⟩⟩ _ (hp:pz (aj,ak,an,ao,ah,aq,ai,ar) (t1,t2,t3,t4,t5,t6,t7))
 show vc _ _ _ _ (entry [.s (.vs [.vz ab aj,.vz ag ak,.vz ag an,.v (.int .i64 ao),.vz ae ah,.v (.int .i64 aq),.vz ae ai,.q ar] 0),.a [.int t1,.int t2,.int t3,.int t4,.int t5,.int t6,.int t7]] []) _
 let A':=(aj,ak,an,ao,ah,aq,ai,ar)
 let B':=(t1,t2,t3,t4,t5,t6,t7)
 obtain⟨dM,(h0:0<=ao)⟩:=hp
 have dM:ay.rd A':=dM
 refine⟨Sq3,Sq17,ζ,[.s 17,.b 1003],Sq18,ζ,Sq18,Sq19,ζ,⟨tv4,aa⟩,?_,λx1 w2=>⟨Sq19,Sq20,ζ,Sq20,Sq21,ζ,aa,λw3=>⟨Sq21,Sq22,ζ,Sq21,Sq23,ζ,Sq21,Sq24,ζ,Sq21,Sq25,ζ,Sq21,Sq26,ζ,Sq21,Sq27,ζ,[.s 21,.s 27],Sq28,ζ,Sq28,Sq29,ζ,Sq29,Sq30,ζ,Sq29,Sq31,ζ,Sq29,Sq32,ζ,Sq29,Sq33,ζ,[.s 29,.s 33],Sq34,ζ,Sq34,Sq35,ζ,Sq35,Sq36,ζ,Sq35,Sq37,ζ,Sq35,Sq38,ζ,Sq35,Sq39,ζ,Sq35,Sq40,ζ,Sq35,Sq41,ζ,Sq35,Sq42,ζ,Sq35,Sq43,ζ,[.s 35,.s 43],Sq44,ζ,?_⟩,λw4=>⟨[.s 21,.s 3],Sq22,ζ,[.s 21,.s 22,.b 1003],Sq23,ζ,[.s 21,.s 3],Sq24,ζ,[.s 21,.s 24,.b 1003],Sq25,ζ,[.s 21,.s 25],Sq26,ζ,⟨tv2,aa⟩,?_,λx5 w6=>⟨[.s 21,.s 23,.s 26],Sq27,ζ,[.s 21,.s 27],Sq28,ζ,Sq28,Sq29,ζ,aa,λw7=>⟨Sq29,Sq30,ζ,Sq29,Sq31,ζ,Sq29,Sq32,ζ,Sq29,Sq33,ζ,[.s 29,.s 33],Sq34,ζ,Sq34,Sq35,ζ,Sq35,Sq36,ζ,Sq35,Sq37,ζ,Sq35,Sq38,ζ,Sq35,Sq39,ζ,Sq35,Sq40,ζ,Sq35,Sq41,ζ,Sq35,Sq42,ζ,Sq35,Sq43,ζ,[.s 35,.s 43],Sq44,ζ,?_⟩,λw8=>⟨[.s 29,.s 3],Sq30,ζ,[.s 29,.s 30,.b 1003],Sq31,ζ,[.s 29,.s 31],Sq32,ζ,⟨⟨tv6,aa⟩,aa⟩,?_,λx9 dB=>⟨[.s 29,.s 32],Sq33,ζ,[.s 29,.s 33],Sq34,ζ,Sq34,Sq35,ζ,aa,λiP=>⟨Sq35,Sq36,ζ,Sq35,Sq37,ζ,Sq35,Sq38,ζ,Sq35,Sq39,ζ,Sq35,Sq40,ζ,Sq35,Sq41,ζ,Sq35,Sq42,ζ,Sq35,Sq43,ζ,[.s 35,.s 43],Sq44,ζ,?_⟩,λdW=>⟨[.s 35,.s 3],Sq36,ζ,[.s 35,.s 36],Sq37,ζ,[.s 35,.s 37,.b 1003],Sq38,ζ,[.s 35,.s 0],Sq39,ζ,[.s 35,.s 39],Sq40,ζ,[.s 35,.s 40],Sq41,ζ,[.s 35,.s 41],Sq42,ζ,[.s 35,.s 38,.s 42],Sq43,ζ,[.s 35,.s 43],Sq44,ζ,λiL=>?_,λgY=>⟨aa,?_⟩⟩⟩⟩⟩⟩⟩⟩
 all_goals first|refine aw ?_|refine ax ?_|exact bb|(dsimp only [cA,dy,gj,iv,cJ,da,lF,j9,lR,kI,bQ,cl];omega)|exact ba|skip
 ·refine⟨[],[],_,_,_,ζ,aC,false,1,(show false=iX A' B' from (I4 (s:=A') (t:=B') (ael w3)).symm),?_,?_,ζ⟩
  ·(show _=ca A' B' false);unfold ca;first|(rw [rfl];rfl)|rfl
  ·(show _=cE A' B' false);unfold cE;first|(rw [rfl];rfl)|rfl
 ·refine⟨[],[],_,_,_,ζ,aC,false,1,(show false=iX A' B' from (I4 (s:=A') (t:=B') (aek w7)).symm),?_,?_,ζ⟩
  ·(show _=ca A' B' false);unfold ca;first|(rw [rfl];rfl)|rfl
  ·(show _=cE A' B' false);unfold cE;first|(rw [rfl];rfl)|rfl
 ·refine⟨[],[],_,_,_,ζ,aC,false,1,(show false=iX A' B' from (I4 (s:=A') (t:=B') (aej iP)).symm),?_,?_,ζ⟩
  ·(show _=ca A' B' false);unfold ca;first|(rw [rfl];rfl)|rfl
  ·(show _=cE A' B' false);unfold cE;first|(rw [rfl];rfl)|rfl
 ·refine⟨[],[],_,_,_,ζ,aC,false,1,(show false=iX A' B' from (agk (s:=A') (t:=B') h0 iL).symm),?_,?_,ζ⟩
  ·(show _=ca A' B' false);unfold ca;first|(rw [rfl];rfl)|rfl
  ·(show _=cE A' B' false);unfold cE;first|(rw [rfl];rfl)|rfl
 have ajt:gC t7 0 16=true:=cr w4
 have hdp:t6=bo t7:=ZE6.1 (aD (p:=¬t6=bo t7) w8)
 have hB:ki B'=false:=D2 (t:=B') w4 w8 dW
 have hd2:=oI t7
 rw [<-hdp] at hd2
 have aeG:ay.fit A' (t1,t2,t3,t4,t5):=⟨cr dW,by have:=aD gY;show t2<=ao;omega⟩
 refine jq (l:=[(39,cA),(100,gj),(74,cJ),(70,lF),(57,lR),(56,bQ)]) (ex:=zT) (wr:=zF) (pt:=zF) ⟨fy,rW,jI,yr,zM,eo,trivial⟩ [.s 0,.s 3,.b 1003] (λy:Int×List Pt×Nat=>[(.s 6,.s (.xs 1019 5 0 y.2.1.length)),(.s 7,.int y.1),(.b 1019,.rs ae y.2.1)]) (λy=>(0<=y.1/\y.1<=t6)/\y.2.1.length=4 ^ (t6-y.1).toNat/\y.1<y.2.2/\wa A' y.2.2 y.1 y.2.1=bh A' B'/\∀q∈y.2.1,ay.fit A' q) (λy=>y.1.toNat) (t6,[(t1,t2,t3,t4,t5)],3) [(1019,1047)] ⟨⟨hd2.1,ZC1 _⟩,by show 1=4 ^ (t6-t6).toNat;rw [Int.sub_self];rfl,by show t6<(3:Nat);omega,rfl,λq hq=>by rw [ZD0.1 hq];exact aeG⟩ dP ?_
 rintro⟨lv,l,f⟩ ⟨⟨(KS:0<=lv),(bR:lv<=t6)⟩,(hl:l.length=4 ^ (t6-lv).toNat),(hf:lv<(f:Int)),(hr:wa A' f lv l=bh A' B'),(Q6:∀q∈l,ay.fit A' q)⟩
 have aq6:l.length<=16:=by
  rw [hl]
  have:(t6-lv).toNat=0\/(t6-lv).toNat=1\/(t6-lv).toNat=2:=by omega
  rcases this with h |h |h<;>rw [h]<;>decide
 refine⟨λw1=>?_,λw2=>?_⟩
 all_goals first|refine aw ?_|refine ax ?_|exact bb|(dsimp only [cA,dy,gj,iv,cJ,da,lF,j9,lR,kI,bQ,cl];omega)|exact ba|skip
 ·have oC:decide (lv>0)=true:=w1
  obtain⟨g,rfl⟩:∃g,f=g+1:=⟨f-1,by have:=aF oC;omega⟩
  refine jq (l:=[(39,cA),(100,gj),(74,cJ),(70,lF),(57,lR),(56,bQ)]) (ex:=zT) (wr:=zF) (pt:=zF) ⟨fy,rW,jI,yr,zM,eo,aa⟩ [.s 0,.s 3,.b 1003,.s 6,.s 7,.b 1019,.s 54,.s 55] (λy:Nat×List Pt=>match y.1 with |0=>[(.s 8,.s (.v (.slice none 0 0))),(.s 56,.int 0)] |n+1=>[(.s 8,.s (.xs 1021 5 0 y.2.length)),(.s 56,.int ((n+1:Nat):Int)),(.b 1021,.rs ae y.2)]) (λy=>y.1<=l.length/\y.2.length=4*y.1/\fj A' lv (l.drop y.1) y.2=fj A' lv l []) (λy=>l.length-y.1) (0,[]) [] ⟨ZA7 _,rfl,rfl⟩ dP ?_
  rintro⟨i,acc⟩ ⟨(hi:i<=l.length),(agP:acc.length=4*i),(hs:fj A' lv (l.drop i) acc=fj A' lv l [])⟩
  have cF:decide ((i:Int)<(l.length:Int))=true->i<l.length:=λh=>by have:=aF h;omega
  have cP:i<l.length->l.drop i=nth ae l i::l.drop (i+1):=λh=>bJ (ek:=ae) h
  have hft:i<l.length->ay.fit A' (nth ae l i):=λh=>Q6 _ (bS (ek:=ae) h)
  have hfb:i<l.length->oG A' (nth ae l i) lv=(bl A' (nth ae l i) lv).2/\(oG A' (nth ae l i) lv=true->r8 A' (nth ae l i)=(bl A' (nth ae l i) lv).1):=λh=>TE (hft h).ok (λ_=>(hft h).b)
  have jt:i<l.length->(!(oG A' (nth ae l i) lv))=true->false=iX A' B':=λh h2=>by
   rw [(hfb h).1] at h2
   have e:fj A' lv l []=none:=by rw [<-hs,cP h,KE (s:=A') (lv:=lv) (p:=nth ae l i) h2]
   exact (R0 hB (by rw [<-hr,ym oC e];rfl)).symm
  have hgo:i<l.length->(!(oG A' (nth ae l i) lv))=false->(r8 A' (nth ae l i)).length=4/\fj A' lv (l.drop (i+1)) (acc++r8 A' (nth ae l i))=fj A' lv l []:=λh h2=>by
   have e:=(hfb h).2 (cr h2)
   have h3:=h2
   rw [(hfb h).1] at h3
   rw [e]
   exact⟨(gU A' (nth ae l i) lv).2 (cr h3),by rw [<-hs,cP h,KD (s:=A') (lv:=lv) (p:=nth ae l i) h3]⟩
  have AG:0<l.length:=by rw [hl];exact Nat.pow_pos (by decide)
  cases i with
  |zero=>
   have ha0:acc=[]:=ZE2.1 (by rw [agP])
   subst ha0
   refine⟨λw1=>⟨⟨?_,?_⟩,?_,⟨⟨aa,tv6,tv2⟩,?_,?_⟩,λ|false=>λw2=>⟨λw3=>?_,λw4=>⟨⟨⟨?_,?_⟩,aa⟩,⟨?_,?_⟩,?_⟩⟩ |true=>λw5=>⟨λw6=>?_,λw7=>⟨⟨⟨?_,?_⟩,?_,?_⟩,⟨?_,?_⟩,?_⟩⟩⟩,λw8=>⟨⟨?_,?_⟩,?_⟩⟩
   all_goals first|refine aw ?_|refine ax ?_|exact bb|(dsimp only [cA,dy,gj,iv,cJ,da,lF,j9,lR,kI,bQ,cl];omega)|exact ba|exact dM|exact (hft (cF w1)).ok|exact absurd ((show oG A' (nth ae l 0) lv=true->false=true from w2) (cr w4)) (by decide)|(show 0<(r8 A' (nth ae l 0)).length;rw [(hgo (cF w1) w7).1];decide)|(show (r8 A' (nth ae l 0)).length<=1048576;rw [(hgo (cF w1) w7).1];decide)|(exfalso;have h9:¬((0:Int)<(l.length:Int)):=aD w8;omega)|skip
   ·refine⟨[],[],_,_,_,ζ,aC,false,1,(jt (cF w1) w3),?_,?_,ζ⟩
    ·(show _=ca A' B' false);unfold ca;first|(rw [rfl];rfl)|rfl
    ·(show _=cE A' B' false);unfold cE;first|(rw [rfl];rfl)|rfl
   ·refine⟨[],[],_,_,_,ζ,aC,false,1,(jt (cF w1) w6),?_,?_,ζ⟩
    ·(show _=ca A' B' false);unfold ca;first|(rw [rfl];rfl)|rfl
    ·(show _=cE A' B' false);unfold cE;first|(rw [rfl];rfl)|rfl
   ·refine⟨(1,r8 A' (nth ae l 0)),[(1021,1071)],?_,?_,?_⟩
    rotate_right
    ·exact bY
    ·exact⟨AG,by show (r8 A' (nth ae l 0)).length=4*1;rw [(hgo (cF w1) w7).1],(hgo (cF w1) w7).2⟩
    ·show l.length-1<l.length-0;omega
  |succ i=>
   refine⟨λw1=>⟨⟨?_,?_⟩,?_,⟨⟨aa,tv6,tv2⟩,?_,?_⟩,λ|false=>λw2=>⟨λw3=>?_,λw4=>⟨⟨⟨?_,?_⟩,aa⟩,⟨?_,?_⟩,?_⟩⟩ |true=>λw5=>⟨λw6=>?_,λw7=>⟨⟨⟨?_,?_⟩,?_,?_⟩,⟨?_,?_⟩,?_⟩⟩⟩,λw8=>⟨⟨?_,?_⟩,?_⟩⟩
   all_goals first|refine aw ?_|refine ax ?_|exact bb|(dsimp only [cA,dy,gj,iv,cJ,da,lF,j9,lR,kI,bQ,cl];omega)|exact ba|exact dM|exact (hft (cF w1)).ok|exact absurd ((show oG A' (nth ae l (i+1)) lv=true->false=true from w2) (cr w4)) (by decide)|(show acc.length+(r8 A' (nth ae l (i+1))).length<=1048576;rw [(hgo (cF w1) w7).1,agP];omega)|skip
   ·refine⟨[],[],_,_,_,ζ,aC,false,1,(jt (cF w1) w3),?_,?_,ζ⟩
    ·(show _=ca A' B' false);unfold ca;first|(rw [rfl];rfl)|rfl
    ·(show _=cE A' B' false);unfold cE;first|(rw [rfl];rfl)|rfl
   ·refine⟨[],[],_,_,_,ζ,aC,false,1,(jt (cF w1) w6),?_,?_,ζ⟩
    ·(show _=ca A' B' false);unfold ca;first|(rw [rfl];rfl)|rfl
    ·(show _=cE A' B' false);unfold cE;first|(rw [rfl];rfl)|rfl
   ·refine⟨(i+2,acc++r8 A' (nth ae l (i+1))),[(1021,1071)],?_,?_,?_⟩
    rotate_right
    ·exact bY
    ·exact⟨cF w1,by show List.length (_++_)=4*(i+2);rw [ZA0,(hgo (cF w1) w7).1,agP];omega,(hgo (cF w1) w7).2⟩
    ·show l.length-(i+2)<l.length-(i+1);have:=cF w1;omega
   ·have wZ:¬i+1<l.length:=by have:=aD (p:=((i+1:Nat):Int)<(l.length:Int)) w8;omega
    have e:fj A' lv l []=some acc:=by rw [<-hs,ZB3 (by omega)];rfl
    have h1:lv>0:=aF oC
    refine⟨(lv-1,acc,g),[(1019,1021)],?_,?_,?_⟩
    rotate_right
    ·exact bY
    ·refine⟨⟨by show 0<=lv-1;omega,by show lv-1<=t6;omega⟩,?_,by show lv-1<(g:Int);omega,by rw [<-hr,tH oC e],X0 h0 Q6 (λq hq=>by cases hq) e⟩
     show acc.length=4 ^ (t6-(lv-1)).toNat
     rw [ud e,hl,show (t6-(lv-1)).toNat=(t6-lv).toNat+1 by omega,Nat.pow_succ]
     show 0+4*_=_;omega
    ·show (lv-1).toNat<lv.toNat;omega
 ·refine jq (l:=[(39,cA),(100,gj),(74,cJ),(70,lF),(57,lR),(56,bQ)]) (ex:=zT) (wr:=zF) (pt:=zF) ⟨fy,rW,jI,yr,zM,eo,aa⟩ [.s 0,.s 3,.b 1003,.s 6,.b 1019,.s 74,.s 75] (λi:Nat=>[(.s 76,.int i)]) (λi=>i<=l.length/\iY A' t7 i (l.drop i)=iY A' t7 0 l) (λi=>l.length-i) 0 [] ⟨ZA7 _,rfl⟩ dP ?_
  rintro i ⟨(hi:i<=l.length),(hs:iY A' t7 i (l.drop i)=iY A' t7 0 l)⟩
  have cF:decide ((i:Int)<(l.length:Int))=true->i<l.length:=λh=>by have:=aF h;omega
  have cP:i<l.length->l.drop i=nth ae l i::l.drop (i+1):=λh=>bJ (ek:=ae) h
  have hft:i<l.length->ay.fit A' (nth ae l i):=λh=>Q6 _ (bS (ek:=ae) h)
  have aq2:lv=0:=by have:=aD (p:=lv>0) w2;omega
  have hE:bh A' B'=(l,true):=by
   rw [<-hr]
   cases f with
   |zero=>rfl
   |succ g=>exact rV w2
  have hM:iX A' B'=iY A' t7 0 l:=by rw [RZ hB (by rw [hE];rfl),hE]
  have hlm:t7<=(l.length:Int):=by
   have h1:=aad (n:=t7) (d:=l.length) ajt (by rw [hl,aq2,Int.sub_zero,hdp])
   have:=(cy.1 ajt).1;omega
  have h70:=(cy.1 ajt).1
  have jt:i<l.length->au (nth ae l i)=false->nR A' t7 i (nth ae l i)=true->false=iX A' B':=λh h2 h3=>by rw [hM,<-hs,cP h,zB (s:=A') (p:=nth ae l i) h2 h3]
  have hnh:(!(bB A' (nth ae l i)).2)=true->au (nth ae l i)=false:=λh=>by
   cases hh:au (nth ae l i) with
   |false=>rfl
   |true=>rw [fw hh] at h;cases h
  have hnl:decide ((nth ae l i).2.2.2.2≠0)=true->au (nth ae l i)=false:=λh=>by
   cases hh:au (nth ae l i) with
   |false=>rfl
   |true=>exact absurd (O2 hh) (aF (p:=¬(nth ae l i).2.2.2.2=0) h)
  refine⟨λw1=>⟨⟨?_,?_⟩,?_,⟨⟨aa,tv6,aa⟩,λx2 w3=>?_,?_,?_⟩,λx4 w5=>⟨aa,λw6=>?_,λw7=>⟨aa,λw8=>?_,λw9=>⟨aa,λdB=>⟨⟨⟨tv6,aa⟩,aa⟩,λlJ dW=>⟨λiL=>?_,λgY=>⟨⟨?_,?_⟩,?_⟩⟩⟩,λnG=>⟨⟨?_,?_⟩,?_⟩⟩⟩⟩⟩,λkC=>⟨⟨?_,?_,?_,?_⟩,?_⟩⟩
  all_goals first|refine aw ?_|refine ax ?_|exact bb|(dsimp only [cA,dy,gj,iv,cJ,da,lF,j9,lR,kI,bQ,cl];omega)|exact ba|exact dM.2|exact dM.1|exact (hft (cF w1)).ok|exact dM.2 _ (by assumption)|exact h70|exact hlm|skip
  ·refine⟨[],[],_,_,_,ζ,aC,false,1,(jt (cF w1) (hnh w6) (aew (s:=A') w6)),?_,?_,ζ⟩
   ·(show _=ca A' B' false);unfold ca;first|(rw [rfl];rfl)|rfl
   ·(show _=cE A' B' false);unfold cE;first|(rw [rfl];rfl)|rfl
  ·refine⟨[],[],_,_,_,ζ,aC,false,1,(jt (cF w1) (hnl w8) (aev (s:=A') w8)),?_,?_,ζ⟩
   ·(show _=ca A' B' false);unfold ca;first|(rw [rfl];rfl)|rfl
   ·(show _=cE A' B' false);unfold cE;first|(rw [rfl];rfl)|rfl
  ·refine⟨[],[],_,_,_,ζ,aC,false,1,(jt (cF w1) (sW iL) (aet (s:=A') dB)),?_,?_,ζ⟩
   ·(show _=ca A' B' false);unfold ca;first|(rw [rfl];rfl)|rfl
   ·(show _=cE A' B' false);unfold cE;first|(rw [rfl];rfl)|rfl
  ·refine⟨(i+1),[],?_,?_,?_⟩
   rotate_right
   ·exact bY
   ·exact⟨cF w1,by rw [<-hs,cP (cF w1),KL (s:=A') (p:=nth ae l i) (cr gY)];rfl⟩
   ·show l.length-(i+1)<l.length-i;have:=cF w1;omega
  ·refine⟨(i+1),[],?_,?_,?_⟩
   rotate_right
   ·exact bY
   ·refine⟨cF w1,?_⟩
    rw [<-hs,cP (cF w1)]
    cases hh:au (nth ae l i) with
    |true=>rw [KL (s:=A') (p:=nth ae l i) hh];rfl
    |false=>rw [VQ (s:=A') (p:=nth ae l i) hh (VR (s:=A') w7 w9 (decide_eq_false (by have:=(hft (cF w1)).b;omega)) nG)];rfl
   ·show l.length-(i+1)<l.length-i;have:=cF w1;omega
  ·have wZ:¬i<l.length:=by have:=aD (p:=(i:Int)<(l.length:Int)) kC;omega
   have e:iX A' B'=true:=by rw [hM,<-hs,ZB3 (by omega)];rfl
   have e2:(bh A' B').1=l:=by rw [hE]
   refine⟨[1019],[],_,_,_,ζ,aC,true,0,(show true=iX A' B' from e.symm),?_,?_,ζ⟩
   ·(show _=ca A' B' true);unfold ca;first|(rw [e2];rfl)|rfl
   ·(show _=cE A' B' true);unfold cE;first|(rw [e2];rfl)|rfl
end GL
namespace GL
section
variable {n l:Int}{k:Nat}
def aox (h:(!(gC n 0 900))=true):QN n l k=false:=decide_eq_false (by rw [ZG6,OU] at h;omega)
def aow (h:(!(gC l n 900))=true):QN n l k=false:=decide_eq_false (by rw [ZG6,OU] at h;omega)
def amf (h:decide (n>0)=true) (h2:decide ((k:Int)<8)=true):QN n l k=false:=decide_eq_false (by have:=aF h;have:=aF h2;omega)
def ahE (h:(!(gC n 0 900))=false) (h2:(!(gC l n 900))=false) (h3:decide (n=0)=false\/decide (l≠0)=false) (h4:decide (n>0)=false\/decide ((k:Int)<8)=false):QN n l k=true:=decide_eq_true (by
 have a1:=cy.1 (cr h);have a2:=cy.1 (cr h2)
 refine⟨by omega,?_,?_⟩
 ·rcases h3 with h3 |h3
  ·have:=aD h3;omega
  ·have:=aD h3;omega
 ·rcases h4 with h4 |h4
  ·have:=aD h4;omega
  ·have:=aD h4;omega)
end
def nb (sp:List Int×List Int):Prop:=True
def cZ (sp:List Int×List Int):AV:=.s (.q (tv sp))
def ZK (sp:List Int×List Int):List AV:=[]
def me:cu where
 A:=[.a [.vz ag,.vz ag]]
 B:=[]
 pre:=λx b=>nb x
 r:=λx b _=>cZ x
 o:=λx b _=>ZK x
def B6:Has Tryz.prog 71 me:=by
 refine Has.sF zT zF zF (l:=[(39,cA)]) ⟨fy,aa⟩ Tryz.func71 ?_
 rintro⟨(dX:List Int),(fo:List Int)⟩ _ (hp:nb (dX,fo))
 show vc _ _ _ _ (entry [.a [.vz ag dX,.vz ag fo]] []) _
 refine⟨aa,λw1=>?_,λw2=>⟨λw3=>?_,λw4=>?_⟩⟩
 all_goals first|refine aw ?_|refine ax ?_|exact bb|(dsimp only [cA,dy];omega)|exact ba|skip
 ·refine⟨[],[],_,_,_,ζ,aC,(),aa,?_,?_,ζ⟩
  ·(show _=cZ (dX,fo));unfold cZ;first|(rw [UJ (p:=(dX,fo)) w1];rfl)|rfl
  ·rfl
 ·refine⟨[],[],_,_,_,ζ,aC,(),aa,?_,?_,ζ⟩
  ·(show _=cZ (dX,fo));unfold cZ;first|(rw [UI (p:=(dX,fo)) w3];rfl)|rfl
  ·rfl
 ·have l1:dX.length=64:=by have:=aD w2;omega
  have l2:fo.length=64:=by have:=aD w4;omega
  have hE:=abx (p:=(dX,fo)) w2 w4
  refine jq (l:=[(39,cA)]) (ex:=zT) (wr:=zF) (pt:=zF) ⟨fy,trivial⟩ [.s 1,.b 1001,.s 17,.s 18] (λi:Nat=>[(.s 19,.int i)]) (λi=>i<=64/\∀j,j<i->AA dX fo j=true) (λi=>64-i) 0 [] ⟨ZA7 _,λj hj=>absurd hj (by omega)⟩ dP ?_
  rintro i ⟨(hi:i<=64),hj⟩
  have cF:decide ((i:Int)<(dX.length:Int))=true->i<64:=λh=>by have:=aF h;omega
  have bR:∀l:List Int,l.length=64->decide ((i:Int)<(dX.length:Int))=true->(i:Int)<(l.length:Int):=λl hl h=>by rw [hl,<-l1];exact aF h
  have jt:i<64->AA dX fo i=false->tv (dX,fo)=false:=λh h2=>by rw [hE];exact aa1 h h2
  have hgo:AA dX fo i=true->∀j,j<i+1->AA dX fo j=true:=λh j CC=>by
   by_cases e:j=i
   ·rw [e];exact h
   ·exact hj j (by omega)
  refine⟨λw1=>⟨⟨?_,?_⟩,⟨?_,?_⟩,⟨tv4,aa⟩,λx2 w3=>⟨aa,λw4=>?_,λw5=>⟨⟨tv4,aa⟩,λx6 w7=>⟨aa,λw8=>?_,λw9=>⟨aa,λdB=>⟨aa,λiP=>?_,λdW=>⟨aa,λiL=>⟨λgY=>?_,λnG=>⟨⟨?_,?_⟩,?_⟩⟩,λkC=>⟨⟨?_,?_⟩,?_⟩⟩⟩,λxh=>⟨aa,λqU=>⟨λo9=>?_,λtl=>⟨⟨?_,?_⟩,?_⟩⟩,λFW=>⟨⟨?_,?_⟩,?_⟩⟩⟩⟩⟩⟩⟩,λDB=>?_⟩
  all_goals first|refine aw ?_|refine ax ?_|exact bb|(dsimp only [cA,dy];omega)|exact ba|exact bR _ l1 w1|exact bR _ l2 w1|skip
  ·refine⟨[],[],_,_,_,ζ,aC,(),aa,?_,?_,ζ⟩
   ·(show _=cZ (dX,fo));unfold cZ;first|(rw [jt (cF w1) (aox w4)];rfl)|rfl
   ·rfl
  ·refine⟨[],[],_,_,_,ζ,aC,(),aa,?_,?_,ζ⟩
   ·(show _=cZ (dX,fo));unfold cZ;first|(rw [jt (cF w1) (aow w8)];rfl)|rfl
   ·rfl
  ·refine⟨[],[],_,_,_,ζ,aC,(),aa,?_,?_,ζ⟩
   ·(show _=cZ (dX,fo));unfold cZ;first|(rw [jt (cF w1) (amh dB iP)];rfl)|rfl
   ·rfl
  ·refine⟨[],[],_,_,_,ζ,aC,(),aa,?_,?_,ζ⟩
   ·(show _=cZ (dX,fo));unfold cZ;first|(rw [jt (cF w1) (amf iL gY)];rfl)|rfl
   ·rfl
  ·refine⟨(i+1),[],?_,?_,?_⟩
   rotate_right
   ·exact bY
   ·exact⟨cF w1,hgo (ahE w5 w9 (.inr dW) (.inl kC))⟩
   ·show 64-(i+1)<64-i;have:=cF w1;omega
  ·refine⟨[],[],_,_,_,ζ,aC,(),aa,?_,?_,ζ⟩
   ·(show _=cZ (dX,fo));unfold cZ;first|(rw [jt (cF w1) (amf qU o9)];rfl)|rfl
   ·rfl
  ·refine⟨(i+1),[],?_,?_,?_⟩
   rotate_right
   ·exact bY
   ·exact⟨cF w1,hgo (ahE w5 w9 (.inl xh) (.inr tl))⟩
   ·show 64-(i+1)<64-i;have:=cF w1;omega
  ·refine⟨(i+1),[],?_,?_,?_⟩
   rotate_right
   ·exact bY
   ·exact⟨cF w1,hgo (ahE w5 w9 (.inl xh) (.inl FW))⟩
   ·show 64-(i+1)<64-i;have:=cF w1;omega
  ·have e:tv (dX,fo)=true:=by rw [hE];exact TK λj CC=>hj j (by have:=aD DB;omega)
   refine⟨[],[],_,_,_,ζ,aC,(),aa,?_,?_,ζ⟩
   ·(show _=cZ (dX,fo));unfold cZ;first|(rw [e];rfl)|rfl
   ·rfl
end GL
namespace GL
def xZ (l:List Int):Prop:=0<l.length/\l.length<=1000000
def ahU (l:List Int) (z:Int):Prop:=(∀j,j<l.length->nth ag l j<=z)/\∃j,j<l.length/\nth ag l j=z
def MC (l:List Int) (z:Int):AV:=.int z
def U7 (l:List Int) (z:Int):List AV:=[]
def CX:cu where
 A:=[.s (.vz ag)]
 B:=[]
 pre:=λx b=>xZ x
 α:=λ_ _=>Int
 φ:=λx b z=>ahU x z
 r:=λx b z=>MC x z
 o:=λx b z=>U7 x z
def acR:Has Tryz.prog 72 CX:=by
 refine Has.acA zT zF zF (l:=[]) trivial Tryz.func72 ?_
 rintro (l:List Int) _ (hp:xZ l)
 show vc _ _ _ _ (entry [.s (.vz ag l)] []) _
 obtain⟨(h0:0<l.length),(h1:l.length<=1000000)⟩:=hp
 refine⟨λw1=>?_,λw2=>⟨⟨?_,?_⟩,?_⟩⟩
 all_goals first|(exfalso;simp only [decide_eq_true_eq,decide_eq_false_iff_not] at *;omega)|refine aw ?_|refine ax ?_|exact bb|exact ba|skip
 refine jq (l:=[]) (ex:=zT) (wr:=zF) (pt:=zF) trivial [.s 0] (λy:Nat×Int=>[(.s 3,.int y.2),(.s 4,.int ((y.1+1:Nat):Int))]) (λy=>y.1+1<=l.length/\(∀j,j<y.1+1->nth ag l j<=y.2)/\∃j,j<y.1+1/\nth ag l j=y.2) (λy=>l.length-y.1) (0,nth ag l 0) [] ⟨h0,λj hj=>by rw [show j=0 by omega];exact ZC1 _,0,by omega,rfl⟩ dP ?_
 rintro⟨i,m⟩ ⟨(hi:i+1<=l.length),hj,hx⟩
 refine⟨λw1=>⟨⟨?_,?_⟩,⟨⟨?_,?_⟩,?_⟩⟩,λw2=>?_⟩
 all_goals first|refine aw ?_|refine ax ?_|exact bb|exact ba|skip
 ·have bR:i+1<l.length:=by have:=aF w1;simp only [] at this;omega
  refine⟨(i+1,max m (nth ag l (i+1))),[],?_,?_,?_⟩
  rotate_right
  ·exact bY
  ·refine⟨bR,λj CC=>?_,?_⟩
   ·by_cases e:j=i+1
    ·rw [e];exact Int.le_max_right _ _
    ·exact ZE9 (hj j (by omega)) (Int.le_max_left _ _)
   ·obtain⟨j,h2,h3⟩:=hx
    by_cases e:nth ag l (i+1)<=m
    ·exact⟨j,by omega,by rw [h3];exact (Int.max_eq_left e).symm⟩
    ·exact⟨i+1,by omega,(Int.max_eq_right (by have:=Int.not_le.1 e;exact Int.le_of_lt this)).symm⟩
  ·show l.length-(i+1)<l.length-i;omega
 ·have wZ:¬(i+1<l.length):=by have:=aD w2;simp only [] at this;omega
  obtain⟨j,h2,h3⟩:=hx
  refine⟨[],[],_,_,_,ζ,aC,m,0,(⟨λj CC=>hj j (by omega),j,by omega,h3⟩),?_,?_,ζ⟩
  ·(show _=MC l m);unfold MC;first|(rw [rfl];rfl)|rfl
  ·(show _=U7 l m);unfold U7;first|(rw [rfl];rfl)|rfl
def fW (s:ay) (jn:Int) (p:Pt):Bool:=bc p&&(!(au p)&&(!(decide (p.2.1>jn))&& !(decide (nth ag s.refs p.1.toNat=(0:Int)))))
section
variable {s:ay}{jn:Int}{p:Pt}
def ang (h:(!(bc p))=true):fW s jn p=false:=by unfold fW;rw [sW h];rfl
def anf (h:au p=true):fW s jn p=false:=by unfold fW;rw [h];cases bc p<;>rfl
def ane (h:decide (p.2.1>jn)=true):fW s jn p=false:=by unfold fW;rw [h];cases bc p<;>cases au p<;>rfl
def anb (h:decide (nth ag s.refs p.1.toNat=(0:Int))=true):fW s jn p=false:=by unfold fW;rw [h];cases bc p<;>cases au p<;>cases decide (p.2.1>jn)<;>rfl
def am8 (h:(!(bc p))=false) (h2:au p=false) (h3:decide (p.2.1>jn)=false) (h4:decide (nth ag s.refs p.1.toNat=(0:Int))=false):fW s jn p=true:=by unfold fW;rw [cr h,h2,h3,h4];rfl
end
def UB {l:List Pt}{n:Nat}(h:n<l.length):l.take (n+1)=l.take n++[nth ae l n]:=by
 rw [List.take_succ,qe (ek:=ae) h];rfl
def uv (l:List Pt) (jn:Int) (S:ay) (o:List Int):Prop:=o.length=64/\S.refs.length=64/\l.length<=1000000/\∀r,(0:Int)<=nth ag o r/\nth ag o r<=(1000000:Int)
def RW (l:List Pt) (jn:Int) (S:ay) (o:List Int) (z:List Int):Prop:=z.length=64/\(∀r,(0:Int)<=nth ag z r/\nth ag z r<=(nth ag o r+(l.length:Int):Int))/\(l.all (fW S jn)=true->∀r,nth ag z r=(nth ag o r+(bF l r:Int):Int))
def iV (l:List Pt) (jn:Int) (S:ay) (o:List Int) (z:List Int):AV:=.q (l.all (fW S jn))
def kh (l:List Pt) (jn:Int) (S:ay) (o:List Int) (z:List Int):List AV:=[.a [.xs 1 1 0 o.length],.rs ag z]
def wJ:cu where
 A:=[.s (.vz ae),.s .int,.vs vj,.b 0]
 B:=[.a [.xb 1 ag],.r ag]
 pre:=λx b=>abj (b.1) (b.2)/\uv (x.1) (x.2.1) (x.2.2.1) (b.2)
 α:=λ_ _=>List Int
 φ:=λx b z=>RW (x.1) (x.2.1) (x.2.2.1) (b.2) z
 r:=λx b z=>iV (x.1) (x.2.1) (x.2.2.1) (b.2) z
 o:=λx b z=>kh (x.1) (x.2.1) (x.2.2.1) (b.2) z
def V7:Has Tryz.prog 73 wJ:=by
 refine Has.acA zT zF zF (l:=[(74,cJ),(56,bQ)]) ⟨jI,eo,aa⟩ Tryz.func73 ?_
 rintro⟨(l:List Pt),(jn:Int),⟨(aj:List ByteArray),(ak:List Int),(an:List Int),(ao:Int),(ah:List Pt),(aq:Int),(ai:List Pt),(ar:Bool)⟩,_⟩ ⟨(om:Nat),(o:List Int)⟩ ⟨(aqG:om=List.length o),(hp:uv l jn (aj,ak,an,ao,ah,aq,ai,ar) o)⟩
 subst aqG
 show vc _ _ _ _ (entry [.s (.vz ae l),.int jn,.s (.vs [.vz ab aj,.vz ag ak,.vz ag an,.v (.int .i64 ao),.vz ae ah,.v (.int .i64 aq),.vz ae ai,.q ar] 0),.s (.bp 0 0)] [.a [.xs 1 1 0 o.length],.rs ag o]) _
 let A':=(aj,ak,an,ao,ah,aq,ai,ar)
 obtain⟨(ho:List.length o=64),(hrf:ak.length=64),(hl:l.length<=1000000),hb⟩:=hp
 refine ?_
 all_goals first|refine aw ?_|refine ax ?_|exact bb|(dsimp only [cJ,da,bQ,cl];omega)|exact ba|skip
 refine jq (l:=[(74,cJ),(56,bQ)]) (ex:=zT) (wr:=zF) (pt:=zF) ⟨jI,eo,aa⟩ [.s 1,.s 2,.s 3,.s 9,.s 10,.b 0] (λy:Nat×List Int=>[(.s 11,.int y.1),(.b 1,.rs ag y.2)]) (λy=>y.1<=l.length/\y.2.length=64/\(∀r,nth ag y.2 r=(nth ag o r+(bF (l.take y.1) r:Int):Int))/\(l.take y.1).all (fW A' jn)=true) (λy=>l.length-y.1) (0,o) [] ⟨ZA7 _,ho,λr=>(Int.add_zero _).symm,rfl⟩ dP ?_
 rintro⟨i,z⟩ ⟨(hi:i<=l.length),(hz:z.length=64),(hc:∀r,nth ag z r=(nth ag o r+(bF (l.take i) r:Int):Int)),(ha:(l.take i).all (fW A' jn)=true)⟩
 have cF:decide ((i:Int)<(l.length:Int))=true->i<l.length:=λh=>by have:=aF h;omega
 have hq:(!(bc (nth ae l i)))=false->0<=(nth ae l i).1/\(nth ae l i).1<64:=λh=>pI (cr h)
 have hci:∀r,bF (l.take i) r<=i:=λr=>ZA9 List.countP_le_length (by rw [ZB6];omega)
 have hzb:∀r,(0:Int)<=nth ag z r/\nth ag z r<=(nth ag o r+(l.length:Int):Int)/\nth ag z r<=(2000000:Int):=λr=>by
  have h1:=hb r;have h2:=hci r
  rw [hc r]
  refine⟨?_,?_,?_⟩
  ·show (0:Int)<=nth ag o r+(bF (l.take i) r:Int);have h3:(0:Int)<=nth ag o r:=h1.1;omega
  ·exact Int.add_le_add_left (by omega:((bF (l.take i) r:Nat):Int)<=(l.length:Int)) _
  ·exact ZE9 (Int.add_le_add h1.2 (by omega:((bF (l.take i) r:Nat):Int)<=1000000)) (by decide)
 have jt:i<l.length->fW A' jn (nth ae l i)=false->l.all (fW A' jn)=false:=λh h2=>by
  rw [Bool.eq_false_iff];intro h3
  rw [ZD3.1 h3 _ (bS (ek:=ae) h)] at h2;cases h2
 have yx:∀b:Bool,l.all (fW A' jn)=b->b=false->RW l jn A' o z:=λb h h2=>⟨hz,λr=>⟨(hzb r).1,(hzb r).2.1⟩,λh3=>by rw [h,h2] at h3;cases h3⟩
 refine⟨λw1=>⟨⟨?_,?_⟩,⟨⟨tv6,aa⟩,aa⟩,λx2 w3=>⟨aa,λw4=>?_,λw5=>⟨⟨⟨tv6,aa⟩,aa⟩,λx6 w7=>⟨aa,λw8=>?_,λw9=>⟨aa,λdB=>?_,λiP=>⟨⟨?_,?_⟩,λdW=>?_,λiL=>⟨⟨?_,?_⟩,?_,⟨?_,?_⟩,⟨?_,?_⟩,?_,⟨?_,?_⟩,?_⟩⟩⟩⟩⟩⟩⟩,λgY=>?_⟩
 all_goals first|refine aw ?_|refine ax ?_|exact bb|(dsimp only [cJ,da,bQ,cl];omega)|exact ba|exact (hq w5).1|(show _<(ak.length:Int);rw [hrf];exact (hq w5).2)|(show _<(List.length o:Int);rw [ho];exact (hq w5).2)|(show (nth ae l i).1.toNat<z.length;rw [hz];exact uD (cr w5))|(have h8:=(hzb (nth ae l i).1.toNat).1;show (-9223372036854775808:Int)<=nth ag z (nth ae l i).1.toNat+1;have h9:(0:Int)<=nth ag z (nth ae l i).1.toNat:=h8;omega)|exact ZE9 (Int.add_le_add_right (hzb (nth ae l i).1.toNat).2.2 1) (by decide)|skip
 ·have e:=jt (cF w1) (ang w4)
  refine⟨[],[],_,_,_,ζ,aC,z,0,(yx _ e rfl),?_,?_,ζ⟩
  ·(show _=iV l jn A' o z);unfold iV;first|(rw [e];rfl)|rfl
  ·(show _=kh l jn A' o z);unfold kh;first|(rw [e];rfl)|rfl
 ·have e:=jt (cF w1) (anf w8)
  refine⟨[],[],_,_,_,ζ,aC,z,0,(yx _ e rfl),?_,?_,ζ⟩
  ·(show _=iV l jn A' o z);unfold iV;first|(rw [e];rfl)|rfl
  ·(show _=kh l jn A' o z);unfold kh;first|(rw [e];rfl)|rfl
 ·have e:=jt (cF w1) (ane dB)
  refine⟨[],[],_,_,_,ζ,aC,z,0,(yx _ e rfl),?_,?_,ζ⟩
  ·(show _=iV l jn A' o z);unfold iV;first|(rw [e];rfl)|rfl
  ·(show _=kh l jn A' o z);unfold kh;first|(rw [e];rfl)|rfl
 ·have e:=jt (cF w1) (anb (s:=A') dW)
  refine⟨[],[],_,_,_,ζ,aC,z,0,(yx _ e rfl),?_,?_,ζ⟩
  ·(show _=iV l jn A' o z);unfold iV;first|(rw [e];rfl)|rfl
  ·(show _=kh l jn A' o z);unfold kh;first|(rw [e];rfl)|rfl
 ·have bR:=cF w1
  have hk:(nth ae l i).1.toNat<z.length:=by rw [hz];exact uD (cr w5)
  refine⟨(i+1,z.set (nth ae l i).1.toNat (nth ag z (nth ae l i).1.toNat+1:Int)),[],?_,?_,?_⟩
  rotate_right
  ·exact bY
  ·refine⟨bR,by show (List.set _ _ _).length=64;rw [ZC6,hz],λr=>?_,?_⟩
   ·show nth ag (List.set z _ _) r=(nth ag o r+(bF (l.take (i+1)) r:Int):Int)
    rw [UB bR,bT]
    by_cases e:(nth ae l i).1.toNat=r
    ·subst e
     rw [oV (ek:=ag) hk,hc,tM (p:=nth ae l i) w9]
     exact Int.add_assoc _ _ _
    ·rw [jm (ek:=ag) e,hc,CM e];rfl
   ·show (l.take (i+1)).all _=true
    rw [UB bR,List.all_append,ha]
    show (true&&(fW A' jn (nth ae l i)&&true))=true
    rw [am8 (s:=A') (p:=nth ae l i) w5 w9 iP iL];rfl
  ·show l.length-(i+1)<l.length-i;omega
 ·have wZ:i=l.length:=by have:=aD (p:=(i:Int)<(l.length:Int)) gY;omega
  have ht:l.take i=l:=ZC4 (by omega)
  rw [ht] at ha
  refine⟨[],[],_,_,_,ζ,aC,z,0,(⟨hz,λr=>⟨(hzb r).1,(hzb r).2.1⟩,λ_ r=>by rw [hc r,ht]⟩),?_,?_,ζ⟩
  ·(show _=iV l jn A' o z);unfold iV;first|(rw [ha];rfl)|rfl
  ·(show _=kh l jn A' o z);unfold kh;first|(rw [ha];rfl)|rfl
end GL
namespace GL
noncomputable section
structure wO (s:ay):Prop where
 len:s.rows.length=64
 sp:tv (s.refs,s.last)=true
 cz:1<=s.cz/\s.cz<=900
 cm:0<=s.cm/\s.cm<=s.cz-1
 XH:∀i,i<64->nth ag s.last i<=s.cz
 row:∀i,i<64->(nth ab s.rows i).size<=128/\decide (nth ab s.rows i=⟨#[]⟩)=decide (nth ag s.refs i=(0:Int))
 gone:∀p∈s.gone,bc p=true/\au p=false/\p.2.1<=s.cz-1
 dead:∀p∈s.dead,bc p=true/\au p=false/\p.2.1<=s.cm
 bF:∀r,r<64->((bF s.gone r+bF s.dead r:Nat):Int)<=sB s r
def iM (s:ay):Bool:= @decide (wO s) (Classical.propDecidable _)
def abw {s:ay}(h:wO s):iM s=true:=by unfold iM;exact @decide_eq_true _ (Classical.propDecidable _) h
def nZ {s:ay}(h:¬wO s):iM s=false:=by unfold iM;exact @decide_eq_false _ (Classical.propDecidable _) h
def pg {s:ay}:iM s=true↔wO s:=by unfold iM;exact @decide_eq_true_iff _ (Classical.propDecidable _)
def DK {p:List Int×List Int}(h:tv p=true):p.1.length=64/\p.2.length=64:=by
 cases h1:decide ((p.1.length:Int)≠64) with
 |true=>rw [UJ h1] at h;cases h
 |false=>
  cases h2:decide ((p.2.length:Int)≠64) with
  |true=>rw [UI h2] at h;cases h
  |false=>
   have:=aD (p:=¬(p.1.length:Int)=64) h1;have:=aD (p:=¬(p.2.length:Int)=64) h2
   omega
def aiI:∀(l:List Int),0<l.length->∃z:Int,(∀j,j<l.length->nth ag l j<=z)/\∃j,j<l.length/\nth ag l j=z
 |[a],_=>⟨a,λj hj=>by rw [show j=0 by simpa using hj];exact ZC1 _,0,by simp,rfl⟩
 |a::b::l,_=>by
  obtain⟨z,h1,k,h2,h3⟩:=aiI (b::l) (by simp)
  by_cases e:a<=z
  ·refine⟨z,λj hj=>?_,k+1,by simpa using h2,h3⟩
   cases j with
   |zero=>exact e
   |succ j=>exact h1 j (by simpa using hj)
  ·refine⟨a,λj hj=>?_,0,by simp,ζ⟩
   cases j with
   |zero=>exact ZC1 _
   |succ j=>exact ZE9 (h1 j (by simpa using hj)) (by omega)
section
variable {s:ay}
def aov (h:decide ((s.rows.length:Int)≠64)=true):iM s=false:=nZ λk=>by have:=aF h;have:=k.len;omega
def aou (h:(!(tv (s.refs,s.last)))=true):iM s=false:=nZ λk=>by rw [k.sp] at h;cases h
def aot (h:(!(gC s.cz 1 900))=true):iM s=false:=nZ λk=>by rw [cy.2 k.cz] at h;cases h
def aos (h:(!(gC s.cm 0 (s.cz-1)))=true):iM s=false:=nZ λk=>by rw [cy.2 k.cm] at h;cases h
def aqq {m:Int}(hl:s.last.length=64) (hx:∃j,j<s.last.length/\nth ag s.last j=m) (h:decide (m>s.cz)=true):iM s=false:=nZ λk=>by
 obtain⟨j,h1,h2⟩:=hx
 have h3:=k.XH j (by omega)
 rw [h2] at h3
 have:=aF h
 exact absurd h3 (Int.not_le.2 this)
end
def F8 (s:ay) (i:Nat):Bool:=bif decide (((nth ab s.rows i).size:Int)>128) then false else !(bne (decide (nth ab s.rows i=⟨#[]⟩)) (decide (nth ag s.refs i=(0:Int))))
def xm (n r:Nat):nth ag (List.replicate n (EK.zero ag)) r=(0:Int):=by
 by_cases h:r<(List.replicate n (EK.zero ag)).length
 ·exact (ZE4.1 (bS (ek:=ag) h)).2
 ·exact oW (ek:=ag) (by omega)
section
variable {s:ay}{i:Nat}
def ahI (h:decide (((nth ab s.rows i).size:Int)>128)=true):F8 s i=false:=by unfold F8;rw [h];rfl
def ahH (h:bne (decide (nth ab s.rows i=⟨#[]⟩)) (decide (nth ag s.refs i=(0:Int)))=true):F8 s i=false:=by unfold F8;rw [h];cases decide (((nth ab s.rows i).size:Int)>128)<;>rfl
def ahG (h:decide (((nth ab s.rows i).size:Int)>128)=false) (h2:bne (decide (nth ab s.rows i=⟨#[]⟩)) (decide (nth ag s.refs i=(0:Int)))=false):F8 s i=true:=by unfold F8;rw [h,h2];rfl
def L7:F8 s i=true↔(nth ab s.rows i).size<=128/\decide (nth ab s.rows i=⟨#[]⟩)=decide (nth ag s.refs i=(0:Int)):=by
 unfold F8
 cases h:decide (((nth ab s.rows i).size:Int)>128) with
 |true=>have:=aF h;exact⟨λh=>(by cases h),λh=>absurd h.1 (by omega)⟩
 |false=>
  have:=aD h
  rw [cond_false]
  cases decide (nth ab s.rows i=⟨#[]⟩)<;>cases decide (nth ag s.refs i=(0:Int))<;>simp<;>omega
def DY {jn:Int}{p:Pt}:fW s jn p=true↔bc p=true/\au p=false/\p.2.1<=jn/\nth ag s.refs p.1.toNat≠(0:Int):=by
 unfold fW
 simp only [ZB1,ZG6,decide_eq_false_iff_not,ZH9]
def aba {l:List Pt}{p:Pt}(h:p∈l) (hh:au p=false):0<bF l (at' p):=List.countP_pos_iff.2 ⟨p,h,by simp [Q5,hh]⟩
def wO.am9 (k:wO s):s.gone.all (fW s (s.cz-1))=true:=ZD3.2 λp hp=>by
 obtain⟨h1,h2,h3⟩:=k.gone p hp
 refine DY.2 ⟨h1,h2,h3,λh=>?_⟩
 have h4:=k.bF (at' p) (uD h1);have h5:=aba hp h2
 rw [show sB s (at' p)=0 from h] at h4;omega
def wO.ana (k:wO s):s.dead.all (fW s s.cm)=true:=ZD3.2 λp hp=>by
 obtain⟨h1,h2,h3⟩:=k.dead p hp
 refine DY.2 ⟨h1,h2,h3,λh=>?_⟩
 have h4:=k.bF (at' p) (uD h1);have h5:=aba hp h2
 rw [show sB s (at' p)=0 from h] at h4;omega
def akY (hi:i<64) (h:F8 s i=false):iM s=false:=nZ λk=>by rw [L7.2 (k.row i hi)] at h;cases h
def aqp (h:s.gone.all (fW s (s.cz-1))=false):iM s=false:=nZ λk=>by rw [k.am9] at h;cases h
def aqo (h:s.dead.all (fW s s.cm)=false):iM s=false:=nZ λk=>by rw [k.ana] at h;cases h
def aqn {r:Nat}(hr:r<64) (h:¬((bF s.gone r+bF s.dead r:Nat):Int)<=sB s r):iM s=false:=nZ λk=>h (k.bF r hr)
end
def vN (S:ay):Prop:=S.gone.length<=1000000/\S.dead.length<=1000000
def cb (S:ay):AV:=.s (.q (iM S))
def ZJ (S:ay):List AV:=[]
def CU:cu where
 A:=[.a vj]
 B:=[]
 pre:=λx b=>vN x
 r:=λx b _=>cb x
 o:=λx b _=>ZJ x
def OI:Has Tryz.prog 38 CU:=by
 refine Has.sF zT zF zF (l:=[(71,me),(39,cA),(72,CX),(73,wJ)]) ⟨B6,fy,acR,V7,aa⟩ Tryz.func38 ?_
 rintro⟨(aj:List ByteArray),(ak:List Int),(an:List Int),(ao:Int),(ah:List Pt),(aq:Int),(ai:List Pt),(ar:Bool)⟩ _ (hp:vN (aj,ak,an,ao,ah,aq,ai,ar))
 show vc _ _ _ _ (entry [.a [.vz ab aj,.vz ag ak,.vz ag an,.int ao,.vz ae ah,.int aq,.vz ae ai,.q ar]] []) _
 let A':=(aj,ak,an,ao,ah,aq,ai,ar)
 obtain⟨(hg:ah.length<=1000000),(hd:ai.length<=1000000)⟩:=hp
 have hla:(!(tv (ak,an)))=false->ak.length=64/\an.length=64:=λh=>DK (cr h)
 have hxt:(!(gC ao 1 900))=false->1<=ao/\ao<=900:=λh=>cy.1 (cr h)
 have hxk:(!(gC aq 0 (ao-1)))=false->0<=aq/\aq<=ao-1:=λh=>cy.1 (cr h)
 refine⟨Sq1,Sq9,ζ,[.s 9,.b 1001],Sq10,ζ,Sq10,Sq11,ζ,Sq11,Sq12,ζ,Sq12,Sq13,ζ,aa,λw1=>⟨Sq13,Sq14,ζ,Sq13,Sq15,ζ,Sq13,Sq16,ζ,Sq13,Sq17,ζ,[.s 13,.s 17],Sq18,ζ,Sq18,Sq19,ζ,Sq19,Sq20,ζ,Sq19,Sq21,ζ,Sq19,Sq22,ζ,Sq19,Sq23,ζ,[.s 19,.s 23],Sq24,ζ,Sq24,Sq25,ζ,Sq25,Sq26,ζ,Sq25,Sq27,ζ,Sq25,Sq28,ζ,Sq25,Sq29,ζ,Sq25,Sq30,ζ,Sq25,Sq31,ζ,Sq25,Sq32,ζ,[.s 25,.s 32],Sq33,ζ,Sq33,Sq34,ζ,Sq34,Sq35,ζ,Sq34,Sq36,ζ,Sq34,Sq37,ζ,Sq34,Sq38,ζ,Sq34,Sq39,ζ,Sq34,Sq40,ζ,Sq34,Sq41,ζ,[.s 34,.s 41],Sq42,ζ,?_⟩,λw2=>⟨[.s 13,.s 1],Sq14,ζ,[.s 13,.s 14,.b 1001],Sq15,ζ,[.s 13,.s 15],Sq16,ζ,⟨⟨tv3,aa⟩,aa⟩,?_,λx3 w4=>⟨[.s 13,.s 16],Sq17,ζ,[.s 13,.s 17],Sq18,ζ,Sq18,Sq19,ζ,aa,λw5=>⟨Sq19,Sq20,ζ,Sq19,Sq21,ζ,Sq19,Sq22,ζ,Sq19,Sq23,ζ,[.s 19,.s 23],Sq24,ζ,Sq24,Sq25,ζ,Sq25,Sq26,ζ,Sq25,Sq27,ζ,Sq25,Sq28,ζ,Sq25,Sq29,ζ,Sq25,Sq30,ζ,Sq25,Sq31,ζ,Sq25,Sq32,ζ,[.s 25,.s 32],Sq33,ζ,Sq33,Sq34,ζ,Sq34,Sq35,ζ,Sq34,Sq36,ζ,Sq34,Sq37,ζ,Sq34,Sq38,ζ,Sq34,Sq39,ζ,Sq34,Sq40,ζ,Sq34,Sq41,ζ,[.s 34,.s 41],Sq42,ζ,?_⟩,λw6=>⟨[.s 19,.s 1],Sq20,ζ,[.s 19,.s 20,.b 1001],Sq21,ζ,[.s 19,.s 21],Sq22,ζ,⟨tv4,aa⟩,?_,λx7 w8=>⟨[.s 19,.s 22],Sq23,ζ,[.s 19,.s 23],Sq24,ζ,Sq24,Sq25,ζ,aa,λw9=>⟨Sq25,Sq26,ζ,Sq25,Sq27,ζ,Sq25,Sq28,ζ,Sq25,Sq29,ζ,Sq25,Sq30,ζ,Sq25,Sq31,ζ,Sq25,Sq32,ζ,[.s 25,.s 32],Sq33,ζ,Sq33,Sq34,ζ,Sq34,Sq35,ζ,Sq34,Sq36,ζ,Sq34,Sq37,ζ,Sq34,Sq38,ζ,Sq34,Sq39,ζ,Sq34,Sq40,ζ,Sq34,Sq41,ζ,[.s 34,.s 41],Sq42,ζ,?_⟩,λdB=>⟨[.s 25,.s 1],Sq26,ζ,[.s 25,.s 26,.b 1001],Sq27,ζ,[.s 25,.s 1],Sq28,ζ,[.s 25,.s 28,.b 1001],Sq29,ζ,[.s 25,.s 29],Sq30,ζ,⟨?_,?_⟩,[.s 25,.s 27,.s 30],Sq31,ζ,⟨tv4,aa⟩,?_,λlJ dW=>⟨[.s 25,.s 31],Sq32,ζ,[.s 25,.s 32],Sq33,ζ,Sq33,Sq34,ζ,aa,λiL=>⟨Sq34,Sq35,ζ,Sq34,Sq36,ζ,Sq34,Sq37,ζ,Sq34,Sq38,ζ,Sq34,Sq39,ζ,Sq34,Sq40,ζ,Sq34,Sq41,ζ,[.s 34,.s 41],Sq42,ζ,?_⟩,λgY=>⟨[.s 34,.s 1],Sq35,ζ,[.s 34,.s 35],Sq36,ζ,[.s 34,.s 36,.b 1001],Sq37,ζ,[.s 34,.s 37],Sq38,ζ,⟨tv2,?_,?_⟩,?_,λnN kC=>⟨[.s 34,.s 1],Sq39,ζ,[.s 34,.s 39,.b 1001],Sq40,ζ,[.s 34,.s 38,.s 40],Sq41,ζ,[.s 34,.s 41],Sq42,ζ,λxh=>?_,λqU=>?_⟩⟩⟩⟩⟩⟩⟩⟩⟩
 all_goals first|refine aw ?_|refine ax ?_|exact bb|(dsimp only [me,nb,cA,dy,CX,xZ,wJ,uv];omega)|exact ba|(show (-9223372036854775808:Int)<=ao-1;have:=hxt dB;omega)|(show ao-1<=(9223372036854775807:Int);have:=hxt dB;omega)|(show 0<an.length;rw [(hla w6).2];decide)|(show an.length<=1000000;rw [(hla w6).2];decide)|exact aiI an (by rw [(hla w6).2];decide)|skip
 ·refine⟨[],[],_,_,_,ζ,aC,(),aa,?_,?_,ζ⟩
  ·(show _=cb A');unfold cb;first|(rw [aov (s:=A') w1];rfl)|rfl
  ·rfl
 ·refine⟨[],[],_,_,_,ζ,aC,(),aa,?_,?_,ζ⟩
  ·(show _=cb A');unfold cb;first|(rw [aou (s:=A') w5];rfl)|rfl
  ·rfl
 ·refine⟨[],[],_,_,_,ζ,aC,(),aa,?_,?_,ζ⟩
  ·(show _=cb A');unfold cb;first|(rw [aot (s:=A') w9];rfl)|rfl
  ·rfl
 ·refine⟨[],[],_,_,_,ζ,aC,(),aa,?_,?_,ζ⟩
  ·(show _=cb A');unfold cb;first|(rw [aos (s:=A') iL];rfl)|rfl
  ·rfl
 ·refine⟨[],[],_,_,_,ζ,aC,(),aa,?_,?_,ζ⟩
  ·(show _=cb A');unfold cb;first|(rw [aqq (s:=A') (hla w6).2 kC.2 xh];rfl)|rfl
  ·rfl
 have hlen:aj.length=64:=by have:=aD w2;omega
 have hrl:=hla w6
 have KR:tv (ak,an)=true:=cr w6
 have htx:=hxt dB
 have hkp:=hxk gY
 have hyo:∀i,i<64->nth ag an i<=ao:=λi hi=>ZE9 (kC.1 i (show i<an.length by rw [hrl.2];exact hi)) (ZH9.1 (aD (p:=(show Int from nN)>ao) qU))
 have HY:∀r,nth ag (List.replicate (Int.toNat 64) (EK.zero ag)) r=(0:Int):=λr=>xm _ r
 have hz1:∀r,(0:Int)<=nth ag (List.replicate (Int.toNat 64) (EK.zero ag)) r:=λr=>by rw [HY];exact ZC1 _
 have hz2:∀r,nth ag (List.replicate (Int.toNat 64) (EK.zero ag)) r<=(1000000:Int):=λr=>by rw [HY];decide
 have hz3:∀r,(nth ag (List.replicate (Int.toNat 64) (EK.zero ag)) r+(ah.length:Int):Int)<=(1000000:Int):=λr=>by rw [HY];show (0:Int)+_<=_;omega
 refine jq (l:=[(71,me),(39,cA),(72,CX),(73,wJ)]) (ex:=zT) (wr:=zF) (pt:=zF) ⟨B6,fy,acR,V7,trivial⟩ [.s 1,.b 1001,.s 44,.s 45] (λi:Nat=>[(.s 46,.int i)]) (λi=>i<=64/\∀j,j<i->F8 A' j=true) (λi=>64-i) 0 [] ⟨ZA7 _,λj hj=>absurd hj (by omega)⟩ dP ?_
 rintro i ⟨(hi:i<=64),hj⟩
 have cF:decide ((i:Int)<(aj.length:Int))=true->i<64:=λh=>by have:=aF h;omega
 refine⟨λw1=>⟨⟨?_,?_⟩,aa,λw2=>?_,λw3=>⟨⟨?_,?_⟩,λw4=>?_,λw5=>⟨⟨?_,?_⟩,?_⟩⟩⟩,λw6=>⟨⟨?_,?_,?_⟩,⟨?_,?_⟩,⟨tv5,?_,?_,?_,?_,λx7=>⟨?_,?_⟩⟩,λx8 w9=>⟨aa,λdB=>?_,λiP=>⟨⟨tv5,?_,?_,?_,?_,λve=>⟨?_,?_⟩⟩,λtY gY=>⟨λnG=>?_,λkC=>?_⟩⟩⟩⟩⟩
 all_goals first|refine aw ?_|refine ax ?_|exact bb|(dsimp only [me,nb,cA,dy,CX,xZ,wJ,uv];omega)|exact ba|(show (i:Int)<(ak.length:Int);rw [hrl.1];exact Int.ofNat_lt.2 (cF w1))|exact hrl.1|exact hz1 _|exact hz2 _|exact w9.1.symm|exact w9.1|exact (w9.2.1 _).1|exact ZE9 (w9.2.1 _).2 (hz3 _)|exact hg|exact hd|skip
 ·refine⟨[],[],_,_,_,ζ,aC,(),aa,?_,?_,ζ⟩
  ·(show _=cb A');unfold cb;first|(rw [akY (s:=A') (cF w1) (ahI (s:=A') w2)];rfl)|rfl
  ·rfl
 ·refine⟨[],[],_,_,_,ζ,aC,(),aa,?_,?_,ζ⟩
  ·(show _=cb A');unfold cb;first|(rw [akY (s:=A') (cF w1) (ahH (s:=A') w4)];rfl)|rfl
  ·rfl
 ·refine⟨(i+1),[],?_,?_,?_⟩
  rotate_right
  ·exact bY
  ·refine⟨cF w1,λj CC=>?_⟩
   by_cases e:j=i
   ·rw [e];exact ahG (s:=A') w3 w5
   ·exact hj j (by omega)
  ·show 64-(i+1)<64-i;have:=cF w1;omega
 ·refine⟨[],[],_,_,_,ζ,aC,(),aa,?_,?_,ζ⟩
  ·(show _=cb A');unfold cb;first|(rw [aqp (s:=A') (sW dB)];rfl)|rfl
  ·rfl
 ·refine⟨[],[],_,_,_,ζ,aC,(),aa,?_,?_,ζ⟩
  ·(show _=cb A');unfold cb;first|(rw [aqo (s:=A') (sW nG)];rfl)|rfl
  ·rfl
 ·have agI:∀j,j<64->F8 A' j=true:=λj CC=>hj j (by have:=aD w6;omega)
  have hgo:ah.all (fW A' (ao-1))=true:=cr iP
  have hde:ai.all (fW A' aq)=true:=cr kC
  have hc1:∀r,(nth ag (show List Int from x8) r:Int)=(bF ah r:Int):=λr=>(w9.2.2 hgo r).trans (show (nth ag (List.replicate (Int.toNat 64) (EK.zero ag)) r+(bF ah r:Int):Int)=_ by rw [HY,Int.zero_add])
  have hcn:∀r,(nth ag (show List Int from tY) r:Int)=((bF ah r+bF ai r:Nat):Int):=λr=>(gY.2.2 hde r).trans (show (nth ag (show List Int from x8) r+(bF ai r:Int):Int)=_ by rw [hc1];rfl)
  have hx8:List.length (show List Int from x8)=64:=w9.1
  have hx:List.length (show List Int from tY)=64:=gY.1
  refine jq (l:=[(71,me),(39,cA),(72,CX),(73,wJ)]) (ex:=zT) (wr:=zF) (pt:=zF) ⟨B6,fy,acR,V7,trivial⟩ [.s 1,.b 1001,.s 86,.s 87,.b 1067] (λi:Nat=>[(.s 88,.int i)]) (λi=>i<=64/\∀j,j<i->(nth ag tY j:Int)<=nth ag ak j) (λi=>64-i) 0 [] ⟨ZA7 _,λj hj=>absurd hj (by omega)⟩ dP ?_
  clear hj cF hi
  rintro i ⟨(hi:i<=64),hj⟩
  have cF:decide ((i:Int)<(List.length (show List Int from x8):Int))=true->i<64:=λh=>by have:=aF h;omega
  have lZ:decide ((i:Int)<(List.length (show List Int from x8):Int))=false->i=64:=λh=>by have:=aD h;omega
  refine⟨λw1=>⟨⟨?_,?_⟩,⟨?_,⟨⟨?_,?_⟩,⟨λw2=>?_,λw3=>⟨⟨?_,?_⟩,?_⟩⟩⟩⟩⟩,λw4=>?_⟩
  all_goals first|refine aw ?_|refine ax ?_|exact bb|(dsimp only [me,nb,cA,dy,CX,xZ,wJ,uv];omega)|exact ba|(show i<List.length (show List Int from tY);rw [hx];exact cF w1)|(show (i:Int)<(ak.length:Int);rw [hrl.1];exact Int.ofNat_lt.2 (cF w1))|skip
  ·refine⟨[],[],_,_,_,ζ,aC,(),aa,?_,?_,ζ⟩
   ·(show _=cb A');unfold cb;first|(rw [aqn (s:=A') (cF w1) (λh=>by rw [<-hcn i] at h;exact absurd h (Int.not_le.2 (aF w2)))];rfl)|rfl
   ·rfl
  ·refine⟨(i+1),[],?_,?_,?_⟩
   rotate_right
   ·exact bY
   ·refine⟨cF w1,λj CC=>?_⟩
    by_cases e:j=i
    ·rw [e];exact ZH9.1 (aD w3)
    ·exact hj j (by omega)
   ·show 64-(i+1)<64-i;have:=cF w1;omega
  ·have e:iM A'=true:=abw
    {len:=hlen,sp:=KR,cz:=htx,cm:=hkp,XH:=hyo,row:=λj CC=>L7.1 (agI j CC)
     gone:=λp hp=>by
      have:=DY.1 (ZD3.1 hgo p hp)
      exact⟨this.1,this.2.1,this.2.2.1⟩
     dead:=λp hp=>by
      have:=DY.1 (ZD3.1 hde p hp)
      exact⟨this.1,this.2.1,this.2.2.1⟩
     bF:=λr hr=>by rw [<-hcn r];exact hj r (by rw [lZ w4];exact hr) }
   refine⟨[],[],_,_,_,ζ,aC,(),aa,?_,?_,ζ⟩
   ·(show _=cb A');unfold cb;first|(rw [e];rfl)|rfl
   ·rfl
end
end GL
namespace GL
noncomputable section
def BS (l:List Pt):Prop:=l.length<=1000000
def abZ (l:List Pt) (z:Bool):Prop:=z=true->l=[]
def rm (l:List Pt) (z:Bool):AV:=match z with |true=>.s (.v (.slice none 0 0)) |false=>.s (.xs 0 5 0 l.length)
def uA (l:List Pt) (z:Bool):List AV:=match z with |true=>[.zz] |false=>[.rs ae l]
def P3:cu where
 A:=[.s (.vz ae)]
 B:=[]
 pre:=λx b=>BS x
 α:=λ_ _=>Bool
 φ:=λx b z=>abZ x z
 r:=λx b z=>rm x z
 o:=λx b z=>uA x z
 nf:=1
def aja:Has Tryz.prog 69 P3:=by
 refine Has.acA zT zF zF (l:=[]) trivial Tryz.func69 ?_
 rintro (l:List Pt) _ (hp:BS l)
 show vc _ _ _ _ (entry [.s (.vz ae l)] []) _
 have hp:l.length<=1000000:=hp
 refine⟨?_,λ|false=>λw1=>⟨λw2=>?_,λw3=>⟨aa,⟨⟨?_,?_⟩,aa⟩,?_⟩⟩ |true=>λw4=>⟨λw5=>?_,λw6=>⟨aa,⟨⟨?_,?_⟩,aa⟩,?_⟩⟩⟩
 all_goals first|refine aw ?_|refine ax ?_|exact bb|exact ba|(show 0+l.length<=1048576;omega)|exact⟨false,λh=>by cases h⟩|skip
 ·cases w2
 ·refine⟨[1007],[],_,_,_,ζ,aC,false,0,(w1),?_,?_,ζ⟩
  ·(show _=rm l false);unfold rm;first|((show AV.s (.xs 0 5 0 (0+l.length))=AV.s (.xs 0 5 0 l.length);rw [ZA6]))|((show [AV.rs ae ([]++l)]=[AV.rs ae l];rfl))|rfl
  ·(show _=uA l false);unfold uA;first|((show AV.s (.xs 0 5 0 (0+l.length))=AV.s (.xs 0 5 0 l.length);rw [ZA6]))|((show [AV.rs ae ([]++l)]=[AV.rs ae l];rfl))|rfl
 ·refine⟨[],[],_,_,_,ζ,aC,true,1,(w4),?_,?_,ζ⟩
  ·(show _=rm l true);unfold rm;first|(rw [rfl];rfl)|rfl
  ·(show _=uA l true);unfold uA;first|(rw [rfl];rfl)|rfl
 ·cases w6
def dE (s:ay) (t:bf):List Pt×Bool:=bif iM s&&iX s t then ((bh s t).1.take t.many.toNat,true) else ([],false)
def oQ {s:ay}{t:bf}:(dE s t).2=(iM s&&iX s t):=by unfold dE;cases iM s&&iX s t<;>rfl
def afm {s:ay}{t:bf}(h:iM s=false):dE s t=([],false):=by unfold dE;rw [h];rfl
def RE {s:ay}{t:bf}(h:iX s t=false):dE s t=([],false):=by unfold dE;rw [h,ZD7];rfl
def qC {s:ay}{t:bf}(h:iM s=true) (h2:iX s t=true):dE s t=((bh s t).1.take t.many.toNat,true):=by unfold dE;rw [h,h2];rfl
def wO.rd {s:ay}(k:wO s):s.rd:=⟨k.len,λx hx=>by
 obtain⟨i,hi,rfl⟩:=List.getElem_of_mem hx
 have h1:=(k.row i (by have:=k.len;omega)).1
 unfold nth at h1;rw [ZB2 hi] at h1;exact ZA9 h1 (by omega)⟩
theorem zu {s:ay}{t:bf}(h:iX s t=true):ki t=false:=by
 cases hb:ki t with
 |false=>rfl
 |true=>rw [I4 hb] at h;cases h
def HE {s:ay}{t:bf}(h:iX s t=true):t.rd:=ND (zu h)
def aah {s:ay}:∀{f:Nat}{lv:Int}{l:List Pt},lv<(f:Int)->(wa s f lv l).2=true->(wa s f lv l).1.length=l.length*4 ^ lv.toNat
 |0,lv,l,h,_=>by
  rw [show lv.toNat=0 by omega];exact (Nat.mul_one _).symm
 |f+1,lv,l,h,h2=>by
  cases hp:decide (lv>0) with
  |false=>
   have:=aD hp
   rw [rV hp,show lv.toNat=0 by omega];exact (Nat.mul_one _).symm
  |true=>
   have hp':=aF hp
   match e:fj s lv l [] with
   |none=>rw [ym hp e] at h2;cases h2
   |some n=>
    rw [tH hp e] at h2 ⊢
    rw [aah (by omega) h2,ud e,show lv.toNat=(lv-1).toNat+1 by omega,Nat.pow_succ]
    show (0+4*l.length)*_=_
    rw [ZA6,Nat.mul_comm 4,Nat.mul_assoc,Nat.mul_comm 4]
def D1 {s:ay}{t:bf}(h:iX s t=true):t.many.toNat<=(bh s t).1.length:=by
 have hb:=zu h
 have hl:(bh s t).2=true:=by
  cases hl: !(bh s t).2 with
  |false=>exact cr hl
  |true=>rw [R0 hb hl] at h;cases h
 unfold ki at hb
 simp only [ZD5,decide_eq_false_iff_not,ZE6] at hb
 obtain⟨h1,h2,h3⟩:=hb
 have:=oI t.many
 refine aad (cr h1) ?_
 have e:=aah (s:=s) (f:=3) (lv:=t.depth) (l:=[t.root]) (by omega) hl
 rw [<-h2];exact e.trans (Nat.one_mul _)
def qa (S:ay) (t:bf):Prop:=S.gone.length<=1000000/\S.dead.length<=1000000
def J0 (S:ay) (t:bf) (z:Bool):Prop:=z=true->(dE S t).1=[]
def dG (S:ay) (t:bf) (z:Bool):AV:=.t [match z with |true=>.s (.v (.slice none 0 0)) |false=>.s (.xs 0 5 0 (dE S t).1.length),.s (.q (dE S t).2)]
def dS (S:ay) (t:bf) (z:Bool):List AV:=match z with |true=>[.zz] |false=>[.rs ae (dE S t).1]
def tO:cu where
 A:=[.a vj,.a [.int,.int,.int,.int,.int,.int,.int]]
 B:=[]
 pre:=λx b=>qa (x.1) (x.2)
 α:=λ_ _=>Bool
 φ:=λx b z=>J0 (x.1) (x.2) z
 r:=λx b z=>dG (x.1) (x.2) z
 o:=λx b z=>dS (x.1) (x.2) z
 nf:=1
def Q1:Has Tryz.prog 35 tO:=by
 refine Has.acA zT zF (λd=>d==17) (l:=[(38,CU),(55,IM),(69,P3)]) ⟨OI,SN,aja,aa⟩ Tryz.func35 ?_
 rintro⟨⟨(aj:List ByteArray),(ak:List Int),(an:List Int),(ao:Int),(ah:List Pt),(aq:Int),(ai:List Pt),(ar:Bool)⟩,⟨(t1:Int),(t2:Int),(t3:Int),(t4:Int),(t5:Int),(t6:Int),(t7:Int)⟩⟩ _ (hp:qa (aj,ak,an,ao,ah,aq,ai,ar) (t1,t2,t3,t4,t5,t6,t7))
 show vc _ _ _ _ (entry [.a [.vz ab aj,.vz ag ak,.vz ag an,.int ao,.vz ae ah,.int aq,.vz ae ai,.q ar],.a [.int t1,.int t2,.int t3,.int t4,.int t5,.int t6,.int t7]] []) _
 let A':=(aj,ak,an,ao,ah,aq,ai,ar)
 let B':=(t1,t2,t3,t4,t5,t6,t7)
 obtain⟨hg,hd⟩:=hp
 have hk:(!(iM A'))=false->wO A':=λh=>pg.1 (cr h)
 have dM:(!(iM A'))=false->ay.rd A':=λh=>(hk h).rd
 have hlen:∀b:Bool,b=iX A' B'->b=true->(bh A' B').1.length<=16:=λb h h2=>sZ (HE (h ▸ h2))
 refine⟨⟨⟨tv9,aa⟩,?_,?_⟩,λx1 w2=>⟨λw3=>?_,λw4=>⟨⟨⟨aa,tv8,aa⟩,?_,?_⟩,λ|false=>λw5=>⟨⟨tv2,?_⟩,λ|false=>λw6=>?_ |true=>λw7=>?_⟩ |true=>λw8=>⟨⟨⟨?_,aa⟩,?_⟩,λ|false=>λw9=>?_ |true=>λdB=>?_⟩⟩⟩⟩
 all_goals first|refine aw ?_|refine ax ?_|exact bb|(dsimp only [CU,vN,IM,pz,P3,BS];omega)|exact ba|exact hg|exact hd|exact dM w4|(show 0<=ao;have h:1<=ao/\ao<=900:=(hk w4).cz;omega)|exact ZA7 _|(show 0+t7.toNat<=_;rw [ZA6];exact D1 (s:=A') (t:=B') (show true=iX A' B' from w8).symm)|(show (List.take _ _).length<=1000000;have:=hlen true w8 rfl;rw [ZB6];exact ZA9 (Nat.min_le_right _ _) (ZA9 this (by decide)))|skip
 ·have e:=afm (s:=A') (t:=B') (sW w3)
  refine⟨[],[],_,_,_,ζ,aC,true,1,(λ_=>show (dE A' B').1=[] by rw [e]),?_,?_,ζ⟩
  ·(show _=dG A' B' true);unfold dG;first|(rw [e];rfl)|rfl
  ·(show _=dS A' B' true);unfold dS;first|(rw [e];rfl)|rfl
 ·have e:=RE (s:=A') (t:=B') (show false=iX A' B' from w5).symm
  refine⟨[180000],[],_,_,_,ζ,aC,false,0,(λh=>by cases h),?_,?_,ζ⟩
  ·(show _=dG A' B' false);unfold dG;first|(rw [e];rfl)|rfl
  ·(show _=dS A' B' false);unfold dS;first|(rw [e];rfl)|rfl
 ·have e:=RE (s:=A') (t:=B') (show false=iX A' B' from w5).symm
  refine⟨[],[],_,_,_,ζ,aC,true,1,(λ_=>show (dE A' B').1=[] by rw [e]),?_,?_,ζ⟩
  ·(show _=dG A' B' true);unfold dG;first|(rw [e];rfl)|rfl
  ·(show _=dS A' B' true);unfold dS;first|(rw [e];rfl)|rfl
 ·have e:=qC (s:=A') (t:=B') (cr w4) (show true=iX A' B' from w8).symm
  refine⟨[180000],[],_,_,_,ζ,aC,false,0,(λh=>by cases h),?_,?_,ζ⟩
  ·(show _=dG A' B' false);unfold dG;first|(rw [e];rfl)|rfl
  ·(show _=dS A' B' false);unfold dS;first|(rw [e];rfl)|rfl
 ·have e:=qC (s:=A') (t:=B') (cr w4) (show true=iX A' B' from w8).symm
  refine⟨[],[],_,_,_,ζ,aC,true,1,(λ_=>show (dE A' B').1=[] by rw [e];exact dB rfl),?_,?_,ζ⟩
  ·(show _=dG A' B' true);unfold dG;first|(rw [e];rfl)|rfl
  ·(show _=dS A' B' true);unfold dS;first|(rw [e];rfl)|rfl
def I3 (S:ay) (t:bf):Prop:=S.gone.length<=1000000/\S.dead.length<=1000000
def po (S:ay) (t:bf):AV:=.s (.q (iM S&&iX S t))
def aci (S:ay) (t:bf):List AV:=[]
def ag3:cu where
 A:=[.a vj,.a [.int,.int,.int,.int,.int,.int,.int]]
 B:=[]
 pre:=λx b=>I3 (x.1) (x.2)
 r:=λx b _=>po (x.1) (x.2)
 o:=λx b _=>aci (x.1) (x.2)
def agB:Has Tryz.prog 17 ag3:=by
 refine Has.sF zT zF zF (l:=[(35,tO)]) ⟨Q1,aa⟩ Tryz.func17 ?_
 rintro⟨⟨(aj:List ByteArray),(ak:List Int),(an:List Int),(ao:Int),(ah:List Pt),(aq:Int),(ai:List Pt),(ar:Bool)⟩,⟨(t1:Int),(t2:Int),(t3:Int),(t4:Int),(t5:Int),(t6:Int),(t7:Int)⟩⟩ _ (hp:I3 (aj,ak,an,ao,ah,aq,ai,ar) (t1,t2,t3,t4,t5,t6,t7))
 show vc _ _ _ _ (entry [.a [.vz ab aj,.vz ag ak,.vz ag an,.int ao,.vz ae ah,.int aq,.vz ae ai,.q ar],.a [.int t1,.int t2,.int t3,.int t4,.int t5,.int t6,.int t7]] []) _
 let A':=(aj,ak,an,ao,ah,aq,ai,ar)
 let B':=(t1,t2,t3,t4,t5,t6,t7)
 obtain⟨hg,hd⟩:=hp
 refine⟨⟨⟨tv9,tv8,aa⟩,?_,?_⟩,λ|false=>λw1=>?_ |true=>λw2=>?_⟩
 all_goals first|refine aw ?_|refine ax ?_|exact bb|(dsimp only [tO,qa];omega)|exact ba|exact hg|exact hd|skip
 ·refine⟨[],[],_,_,_,ζ,aC,(),aa,?_,?_,ζ⟩
  ·(show _=po A' B');unfold po;first|(rw [<-oQ (s:=A') (t:=B')];rfl)|rfl
  ·rfl
 ·refine⟨[],[],_,_,_,ζ,aC,(),aa,?_,?_,ζ⟩
  ·(show _=po A' B');unfold po;first|(rw [<-oQ (s:=A') (t:=B')];rfl)|rfl
  ·rfl
end
end GL
namespace GL
noncomputable section
section
variable {s:ay}{i:Nat}
def aqm (hi:i<64) (h:decide (nth ag s.last i>s.cz)=true):iM s=false:=nZ λk=>absurd (k.XH i hi) (Int.not_le.2 (aF h))
def amZ {p:Pt}(hp:p∈s.gone) (h:(!(bc p))=true\/au p=true\/decide (p.2.1>s.cz-1)=true):iM s=false:=nZ λk=>by
 obtain⟨h1,h2,h3⟩:=k.gone p hp
 rcases h with h |h |h
 ·rw [h1] at h;cases h
 ·rw [h2] at h;cases h
 ·have:=aF h;omega
def am0 {p:Pt}(hp:p∈s.dead) (h:(!(bc p))=true\/au p=true\/decide (p.2.1>s.cm)=true):iM s=false:=nZ λk=>by
 obtain⟨h1,h2,h3⟩:=k.dead p hp
 rcases h with h |h |h
 ·rw [h1] at h;cases h
 ·rw [h2] at h;cases h
 ·have:=aF h;omega
def aor {n r:Nat}(hr:r<64) (h:¬(bF ((s.gone++s.dead).take n) r:Int)<=sB s r):iM s=false:=nZ λk=>h (by
 have h1:=k.bF r hr
 have h2:=WW (List.take_sublist n (s.gone++s.dead)) r
 rw [bT] at h2
 omega)
end
def ahF {rf la:List Int}(h:tv (rf,la)=true) {r:Nat}(hr:r<64):(0:Int)<=nth ag rf r:=by
 cases h1:decide ((rf.length:Int)≠64) with
 |true=>rw [UJ (p:=(rf,la)) h1] at h;cases h
 |false=>
  cases h2:decide ((la.length:Int)≠64) with
  |true=>rw [UI (p:=(rf,la)) h2] at h;cases h
  |false=>
   rw [abx (p:=(rf,la)) h1 h2] at h
   have:=ajX h hr
   exact (aF this).1.1
def gdP (s:ay) (j:Nat):Pt:=bif Nat.blt j s.gone.length then nth ae s.gone j else nth ae s.dead (j-s.gone.length)
def gdT (s:ay) (j:Nat):Int:=bif Nat.blt j s.gone.length then s.cz-1 else s.cm
def gdB (s:ay) (j:Nat):Bool:=bc (gdP s j)&&(!(au (gdP s j))&& !(decide ((gdP s j).2.1>gdT s j)))
def ajI {s:ay}{j:Nat}(h:gdB s j=true):bc (gdP s j)=true/\au (gdP s j)=false/\(gdP s j).2.1<=gdT s j:=by
 unfold gdB at h
 simpa only [ZB1,ZG6,decide_eq_false_iff_not,ZH9] using h
def ars {s:ay}{i:Nat}(hi:i<s.gone.length) (h:(!(bc (nth ae s.gone i)))=false) (h2:au (nth ae s.gone i)=false) (h3:decide ((nth ae s.gone i).2.1>s.cz-1)=false):gdB s i=true:=by
 have hb:Nat.blt i s.gone.length=true:=Nat.ble_eq_true_of_le hi
 unfold gdB gdP gdT;rw [hb];show (bc (nth ae s.gone i)&&(!(au (nth ae s.gone i))&& !(decide ((nth ae s.gone i).2.1>s.cz-1))))=true
 rw [cr h,h2,h3];rfl
theorem arq {s:ay}{i k:Nat}(hi:¬i<s.gone.length) (hk:k=i-s.gone.length) (h:(!(bc (nth ae s.dead k)))=false) (h2:au (nth ae s.dead k)=false) (h3:decide ((nth ae s.dead k).2.1>s.cm)=false):gdB s i=true:=by
 have hb:Nat.blt i s.gone.length=false:=by
  cases hbb:Nat.blt i s.gone.length with
  |false=>rfl
  |true=>exact absurd (zqNlb hbb) hi
 subst hk
 unfold gdB gdP gdT;rw [hb];show (bc (nth ae s.dead (i-s.gone.length))&&(!(au (nth ae s.dead (i-s.gone.length)))&& !(decide ((nth ae s.dead (i-s.gone.length)).2.1>s.cm))))=true
 rw [cr h,h2,h3];rfl
def E3 {l:List Pt}{i:Nat}{z:List Int}{q:Pt}(hz:z.length=64) (hc:∀r,(nth ag z r:Int)=(bF (l.take i) r:Int)) (hi:i<l.length) (hq:nth ae l i=q) (ho:bc q=true) (hh:au q=false):∀r,(nth ag (z.set q.1.toNat (nth ag z q.1.toNat+1:Int)) r:Int)=(bF (l.take (i+1)) r:Int):=λr=>by
 rw [UB hi,hq,bT]
 have hk:q.1.toNat<z.length:=by rw [hz];exact uD ho
 by_cases e:q.1.toNat=r
 ·subst e
  rw [oV (ek:=ag) hk,hc,tM hh];rfl
 ·rw [jm (ek:=ag) e,hc,CM e];rfl
def akn {l:List Pt}{i:Nat}{q:Pt}{f:Nat->Int}(hi:i<l.length) (hq:nth ae l i=q) (h:∀r,r<64->(bF (l.take i) r:Int)<=f r) (h2:(bF (l.take (i+1)) q.1.toNat:Int)<=f q.1.toNat):∀r,r<64->(bF (l.take (i+1)) r:Int)<=f r:=λr hr=>by
 by_cases e:q.1.toNat=r
 ·rw [<-e];exact h2
 ·rw [UB hi,hq,bT,CM e];exact h r hr
def sV (S:ay):Prop:=S.gone.length<=1000000/\S.dead.length<=1000000
def bI (S:ay):AV:=.s (.q (iM S))
def acr (S:ay):List AV:=[]
def uW:cu where
 A:=[.a vj]
 B:=[]
 pre:=λx b=>sV x
 r:=λx b _=>bI x
 o:=λx b _=>acr x
theorem SQ:Has Tryz.prog 30 uW:=by
 refine Has.fP zT zF zF (l:=[(59,oL),(60,jc),(61,dD),(62,cN)]) ⟨HU,jr,js,cQ,aa⟩ Tryz.func30 ?_
 rintro⟨(aj:List ByteArray),(ak:List Int),(an:List Int),(ao:Int),(ah:List Pt),(aq:Int),(ai:List Pt),(ar:Bool)⟩ _ (hp:sV (aj,ak,an,ao,ah,aq,ai,ar))
 show vc _ _ _ _ (entry [.a [.vz ab aj,.vz ag ak,.vz ag an,.int ao,.vz ae ah,.int aq,.vz ae ai,.q ar]] []) _
 let A':=(aj,ak,an,ao,ah,aq,ai,ar)
 obtain⟨(hg:ah.length<=1000000),(hd:ai.length<=1000000)⟩:=hp
 have hla:(!(tv (ak,an)))=false->ak.length=64/\an.length=64:=λh=>DK (cr h)
 have hxt:(!(gC ao 1 900))=false->1<=ao/\ao<=900:=λh=>cy.1 (cr h)
 have hxk:(!(gC aq 0 (ao-1)))=false->0<=aq/\aq<=ao-1:=λh=>cy.1 (cr h)
 refine⟨aa,λw1=>?_,λw2=>⟨⟨⟨tv3,aa⟩,aa⟩,λx3 w4=>⟨aa,λw5=>?_,λw6=>⟨⟨tv4,aa⟩,λx7 w8=>⟨aa,λw9=>?_,λdB=>⟨⟨?_,?_⟩,⟨tv4,aa⟩,λlJ dW=>⟨λiL=>?_,λgY=>?_⟩⟩⟩⟩⟩⟩⟩
 all_goals first|refine aw ?_|refine ax ?_|exact bb|(dsimp only [oL,pC,dD,eO];omega)|exact ba|(show (-9223372036854775808:Int)<=ao-1;have:=hxt dB;omega)|(show ao-1<=(9223372036854775807:Int);have:=hxt dB;omega)|skip
 ·refine⟨[],[],_,_,_,ζ,aC,(),aa,?_,?_,ζ⟩
  ·(show _=bI A');unfold bI;first|(rw [aov (s:=A') w1];rfl)|rfl
  ·rfl
 ·refine⟨[],[],_,_,_,ζ,aC,(),aa,?_,?_,ζ⟩
  ·(show _=bI A');unfold bI;first|(rw [aou (s:=A') w5];rfl)|rfl
  ·rfl
 ·refine⟨[],[],_,_,_,ζ,aC,(),aa,?_,?_,ζ⟩
  ·(show _=bI A');unfold bI;first|(rw [aot (s:=A') w9];rfl)|rfl
  ·rfl
 ·refine⟨[],[],_,_,_,ζ,aC,(),aa,?_,?_,ζ⟩
  ·(show _=bI A');unfold bI;first|(rw [aos (s:=A') iL];rfl)|rfl
  ·rfl
 have hlen:aj.length=64:=by have:=aD w2;omega
 have hrl:=hla w6
 have KR:tv (ak,an)=true:=cr w6
 have htx:=hxt dB
 have hkp:=hxk gY
 have HY:∀r,nth ag (List.replicate (Int.toNat 64) (EK.zero ag)) r=(0:Int):=λr=>xm _ r
 refine df (l:=[(59,oL),(60,jc),(61,dD),(62,cN)]) (ex:=zT) (wr:=zF) (pt:=zF) ⟨HU,jr,js,cQ,trivial⟩ [.s 1,.b 1001] (λi:Nat=>[(.s 3,.int i)]) (λi=>i<=64/\∀j,j<i->F8 A' j=true/\nth ag an j<=ao) (λi=>64-i) 0 [] ⟨ZA7 _,λj hj=>absurd hj (by omega)⟩ dP ?_
 rintro i ⟨(hi:i<=64),hj⟩
 have cF:decide ((i:Int)<64)=true->i<64:=λh=>by have:=aF h;omega
 refine⟨λw1=>⟨Sq1,Sq37,ζ,[.s 37,.b 1001],Sq38,ζ,Sq3,Sq39,ζ,[.s 38,.s 39],Sq40,ζ,⟨?_,?_⟩,Sq40,Sq41,ζ,Sq41,Sq42,ζ,Sq42,Sq43,ζ,Sq43,Sq44,ζ,aa,λw2=>⟨Sq44,Sq45,ζ,Sq44,Sq46,ζ,Sq44,Sq47,ζ,Sq44,Sq48,ζ,Sq44,Sq49,ζ,Sq44,Sq50,ζ,Sq44,Sq51,ζ,Sq44,Sq52,ζ,Sq44,Sq53,ζ,Sq44,Sq54,ζ,Sq44,Sq55,ζ,Sq44,Sq56,ζ,Sq44,Sq57,ζ,Sq44,Sq58,ζ,[.s 44,.s 58],Sq59,ζ,Sq59,Sq60,ζ,Sq60,Sq61,ζ,Sq60,Sq62,ζ,Sq60,Sq63,ζ,Sq60,Sq64,ζ,Sq60,Sq65,ζ,Sq60,Sq66,ζ,Sq60,Sq67,ζ,Sq60,Sq68,ζ,Sq60,Sq69,ζ,[.s 60,.s 69],Sq70,ζ,?_⟩,λw3=>⟨[.s 44,.s 1],Sq45,ζ,[.s 44,.s 45,.b 1001],Sq46,ζ,[.s 44,.s 3],Sq47,ζ,[.s 44,.s 46,.s 47],Sq48,ζ,⟨?_,?_⟩,[.s 44,.s 48],Sq49,ζ,[.s 44,.s 49],Sq50,ζ,[.s 44,.s 1],Sq51,ζ,[.s 44,.s 51],Sq52,ζ,[.s 44,.s 52,.b 1001],Sq53,ζ,[.s 44,.s 3],Sq54,ζ,[.s 44,.s 53,.s 54],Sq55,ζ,⟨?_,?_⟩,[.s 44,.s 55],Sq56,ζ,[.s 44,.s 56],Sq57,ζ,[.s 44,.s 50,.s 57],Sq58,ζ,[.s 44,.s 58],Sq59,ζ,Sq59,Sq60,ζ,aa,λw4=>⟨Sq60,Sq61,ζ,Sq60,Sq62,ζ,Sq60,Sq63,ζ,Sq60,Sq64,ζ,Sq60,Sq65,ζ,Sq60,Sq66,ζ,Sq60,Sq67,ζ,Sq60,Sq68,ζ,Sq60,Sq69,ζ,[.s 60,.s 69],Sq70,ζ,?_⟩,λw5=>⟨[.s 60,.s 1],Sq61,ζ,[.s 60,.s 61],Sq62,ζ,[.s 60,.s 62,.b 1001],Sq63,ζ,[.s 60,.s 3],Sq64,ζ,[.s 60,.s 63,.s 64],Sq65,ζ,⟨?_,?_⟩,[.s 60,.s 65],Sq66,ζ,[.s 60,.s 1],Sq67,ζ,[.s 60,.s 67,.b 1001],Sq68,ζ,[.s 60,.s 66,.s 68],Sq69,ζ,[.s 60,.s 69],Sq70,ζ,λw6=>?_,λw7=>⟨⟨?_,?_⟩,?_⟩⟩⟩⟩,λw8=>⟨⟨?_,?_,?_⟩,?_⟩⟩
 all_goals first|refine aw ?_|refine ax ?_|exact bb|(dsimp only [oL,pC,dD,eO];omega)|exact ba|(show (i:Int)<(ak.length:Int);rw [hrl.1];exact Int.ofNat_lt.2 (cF w1))|(show (i:Int)<(aj.length:Int);rw [hlen];exact Int.ofNat_lt.2 (cF w1))|(show (i:Int)<(an.length:Int);rw [hrl.2];exact Int.ofNat_lt.2 (cF w1))|skip
 ·refine⟨[],[],_,_,_,ζ,aC,(),aa,?_,?_,ζ⟩
  ·(show _=bI A');unfold bI;first|(rw [akY (s:=A') (cF w1) (ahI (s:=A') w2)];rfl)|rfl
  ·rfl
 ·refine⟨[],[],_,_,_,ζ,aC,(),aa,?_,?_,ζ⟩
  ·(show _=bI A');unfold bI;first|(rw [akY (s:=A') (cF w1) (ahH (s:=A') w4)];rfl)|rfl
  ·rfl
 ·refine⟨[],[],_,_,_,ζ,aC,(),aa,?_,?_,ζ⟩
  ·(show _=bI A');unfold bI;first|(rw [aqm (s:=A') (cF w1) w6];rfl)|rfl
  ·rfl
 ·refine⟨(i+1),[],?_,?_,?_⟩
  rotate_right
  ·exact bY
  ·refine⟨cF w1,λj CC=>?_⟩
   by_cases e:j=i
   ·rw [e];exact⟨ahG (s:=A') w3 w5,ZH9.1 (aD w7)⟩
   ·exact hj j (by omega)
  ·show 64-(i+1)<64-i;have:=cF w1;omega
 have agI:∀j,j<64->F8 A' j=true/\nth ag an j<=ao:=λj CC=>hj j (by have:=aD w8;omega)
 clear hj cF hi
 refine df (l:=[(59,oL),(60,jc),(61,dD),(62,cN)]) (ex:=zT) (wr:=zF) (pt:=zF) ⟨HU,jr,js,cQ,trivial⟩ [.s 1,.b 1001,.s 4] (λy:Nat×List Int=>[(.s 5,.int y.1),(.b 1071,.rs ag y.2)]) (λy=>y.1<=ah.length+ai.length/\y.2.length=64/\(∀r,(nth ag y.2 r:Int)=(bF ((ah++ai).take y.1) r:Int))/\(∀r,r<64->(bF ((ah++ai).take y.1) r:Int)<=sB A' r)/\∀j,j<y.1->gdB A' j=true) (λy=>ah.length+ai.length-y.1) (0,List.replicate (Int.toNat 64) (EK.zero ag)) [] ⟨ZA7 _,rfl,HY,λr hr=>(ahF KR hr),λj hj=>absurd hj (by omega)⟩ dP ?_
 rintro⟨i,z⟩ ⟨(hi:i<=ah.length+ai.length),(hz:z.length=64),(hc:∀r,(nth ag z r:Int)=(bF ((ah++ai).take i) r:Int)),hle,hgd⟩
 have agM:decide ((i:Int)<(ah.length:Int)+(ai.length:Int))=true->i<(ah++ai).length:=λh=>by rw [ZA0];have:=aF h;omega
 have bR:decide ((i:Int)<(ah.length:Int)+(ai.length:Int))=true->i+1<=ah.length+ai.length:=λh=>by have:=aF h;omega
 have ajs:decide ((i:Int)<(ah.length:Int))=true->i<ah.length:=λh=>by have:=aF h;omega
 have hqG:decide ((i:Int)<(ah.length:Int))=true->nth ae (ah++ai) i=nth ae ah i:=λh=>by
  unfold nth;rw [ZC3 (ajs h)]
 have alw:decide ((i:Int)<(ah.length:Int))=false->((i:Int)-(ah.length:Int)).toNat=i-ah.length:=λh=>by have:=aD h;omega
 have hqD:decide ((i:Int)<(ah.length:Int))=false->nth ae (ah++ai) i=nth ae ai ((i:Int)-(ah.length:Int)).toNat:=λh=>by
  rw [alw h];have:=aD h
  exact aem (l:=ah) (m:=ai) (by omega)
 have hmD:decide ((i:Int)<(ah.length:Int))=false->decide ((i:Int)<(ah.length:Int)+(ai.length:Int))=true->nth ae ai ((i:Int)-(ah.length:Int)).toNat∈ai:=λh h2=>by
  have:=aD h;have:=aF h2
  exact bS (ek:=ae) (by omega)
 have hz1:∀k,(-9223372036854775808:Int)<=(nth ag z k+1:Int):=λk=>by rw [hc k];omega
 have hz2:∀k,(nth ag z k+1:Int)<=(9223372036854775807:Int):=λk=>by
  rw [hc k]
  have:bF ((ah++ai).take i) k<=((ah++ai).take i).length:=List.countP_le_length
  rw [ZB6,ZA0] at this
  have h3:bF ((ah++ai).take i) k<=2000000:=by omega
  exact ZE9 (Int.add_le_add_right (Int.ofNat_le.2 h3) 1) (by decide)
 have h64:(List.replicate (Int.toNat 64) (EK.zero ag)).length=64:=rfl
 refine⟨⟨?_,?_⟩,λw1=>⟨⟨?_,?_⟩,λw2=>⟨⟨?_,?_⟩,⟨⟨tv6,aa⟩,aa⟩,λx3 w4=>⟨aa,λw5=>?_,λw6=>⟨⟨⟨tv6,aa⟩,aa⟩,λx7 w8=>⟨aa,λw9=>?_,λdB=>⟨λiP=>?_,λdW=>⟨Sq4,Sq121,ζ,Sq7,Sq122,ζ,[.s 122,.b 1007],Sq123,ζ,Sq4,Sq124,ζ,Sq7,Sq125,ζ,[.s 125,.b 1007],Sq126,ζ,[.s 124,.s 126],Sq127,ζ,⟨?_,?_⟩,[.s 127,.b 1071],Sq128,ζ,?_,Sq128,Sq129,ζ,⟨?_,?_⟩,[.s 121,.s 123],Sq130,ζ,⟨?_,?_⟩,[.s 130,.s 129,.b 1071],[.b 1071],ζ,?_,Sq4,Sq131,ζ,Sq7,Sq132,ζ,[.s 132,.b 1007],Sq133,ζ,[.s 131,.s 133],Sq134,ζ,⟨?_,?_⟩,[.s 134,.b 1071],Sq135,ζ,?_,Sq1,Sq136,ζ,Sq136,Sq137,ζ,[.s 137,.b 1001],Sq138,ζ,Sq7,Sq139,ζ,[.s 139,.b 1007],Sq140,ζ,[.s 138,.s 140],Sq141,ζ,⟨?_,?_⟩,Sq141,Sq142,ζ,[.s 135,.s 142],Sq143,ζ,λiL=>?_,λgY=>⟨⟨?_,?_⟩,?_⟩⟩⟩⟩⟩⟩⟩,λnG=>⟨⟨?_,?_⟩,⟨?_,?_⟩,⟨⟨tv6,aa⟩,aa⟩,λx16 xh=>⟨aa,λqU=>?_,λo9=>⟨⟨⟨tv6,aa⟩,aa⟩,λx20 FW=>⟨aa,λDB=>?_,λzi=>⟨λtZ=>?_,λFV=>⟨Sq4,Sq121,ζ,Sq7,Sq122,ζ,[.s 122,.b 1007],Sq123,ζ,Sq4,Sq124,ζ,Sq7,Sq125,ζ,[.s 125,.b 1007],Sq126,ζ,[.s 124,.s 126],Sq127,ζ,⟨?_,?_⟩,[.s 127,.b 1071],Sq128,ζ,?_,Sq128,Sq129,ζ,⟨?_,?_⟩,[.s 121,.s 123],Sq130,ζ,⟨?_,?_⟩,[.s 130,.s 129,.b 1071],[.b 1071],ζ,?_,Sq4,Sq131,ζ,Sq7,Sq132,ζ,[.s 132,.b 1007],Sq133,ζ,[.s 131,.s 133],Sq134,ζ,⟨?_,?_⟩,[.s 134,.b 1071],Sq135,ζ,?_,Sq1,Sq136,ζ,Sq136,Sq137,ζ,[.s 137,.b 1001],Sq138,ζ,Sq7,Sq139,ζ,[.s 139,.b 1007],Sq140,ζ,[.s 138,.s 140],Sq141,ζ,⟨?_,?_⟩,Sq141,Sq142,ζ,[.s 135,.s 142],Sq143,ζ,λw26=>?_,λw27=>⟨⟨?_,?_⟩,?_⟩⟩⟩⟩⟩⟩⟩⟩,λw28=>?_⟩
 all_goals first|refine aw ?_|refine ax ?_|exact bb|(dsimp only [oL,pC,dD,eO];omega)|exact ba|(show (i:Int)-(ah.length:Int)<(ai.length:Int);have:=aF w1;omega)|(show (0:Int)<=(i:Int)-(ah.length:Int);have:=aD nG;omega)|exact (pI (cr w6)).1|exact (pI (cr o9)).1|exact (pI (cr w6)).2|exact (pI (cr o9)).2|(show _<(ak.length:Int);rw [hrl.1];exact (pI (cr w6)).2)|(show _<(ak.length:Int);rw [hrl.1];exact (pI (cr o9)).2)|exact hz1 _|exact hz2 _|(show (nth ae ah i).1.toNat<z.length;rw [hz];exact uD (cr w6))|(show (nth ae ai ((i:Int)-(ah.length:Int)).toNat).1.toNat<z.length;rw [hz];exact uD (cr o9))|(show (nth ae ah i).1.toNat<(List.set _ _ _).length;rw [ZC6,hz];exact uD (cr w6))|(show (nth ae ai ((i:Int)-(ah.length:Int)).toNat).1.toNat<(List.set _ _ _).length;rw [ZC6,hz];exact uD (cr o9))|skip
 ·refine⟨[],[],_,_,_,ζ,aC,(),aa,?_,?_,ζ⟩
  ·(show _=bI A');unfold bI;first|(rw [amZ (s:=A') (bS (ek:=ae) (ajs w2)) (.inl w5)];rfl)|rfl
  ·rfl
 ·refine⟨[],[],_,_,_,ζ,aC,(),aa,?_,?_,ζ⟩
  ·(show _=bI A');unfold bI;first|(rw [amZ (s:=A') (bS (ek:=ae) (ajs w2)) (.inr (.inl w9))];rfl)|rfl
  ·rfl
 ·refine⟨[],[],_,_,_,ζ,aC,(),aa,?_,?_,ζ⟩
  ·(show _=bI A');unfold bI;first|(rw [amZ (s:=A') (bS (ek:=ae) (ajs w2)) (.inr (.inr iP))];rfl)|rfl
  ·rfl
 ·have lj:=E3 hz hc (agM w1) (hqG w2) (cr w6) dB
  refine⟨[],[],_,_,_,ζ,aC,(),aa,?_,?_,ζ⟩
  ·(show _=bI A');unfold bI;first|(rw [aor (s:=A') (n:=i+1) (uD (cr w6)) (λh=>by rw [<-lj] at h;exact absurd h (Int.not_le.2 (aF iL)))];rfl)|rfl
  ·rfl
 ·have lj:=E3 hz hc (agM w1) (hqG w2) (cr w6) dB
  refine⟨(i+1,z.set (nth ae ah i).1.toNat (nth ag z (nth ae ah i).1.toNat+1:Int)),[],?_,?_,?_⟩
  rotate_right
  ·exact bY
  ·refine⟨bR w1,by show (List.set _ _ _).length=64;rw [ZC6,hz],lj,?_,?_⟩
   ·exact akn (agM w1) (hqG w2) hle (by rw [<-lj];exact ZH9.1 (aD gY))
   ·intro j CC
    by_cases e:j=i
    ·rw [e];exact ars (s:=A') (ajs w2) w6 dB dW
    ·exact hgd j (by have:j<i+1:=CC;omega)
  ·show ah.length+ai.length-(i+1)<ah.length+ai.length-i;have:=bR w1;omega
 ·refine⟨[],[],_,_,_,ζ,aC,(),aa,?_,?_,ζ⟩
  ·(show _=bI A');unfold bI;first|(rw [am0 (s:=A') (hmD nG w1) (.inl qU)];rfl)|rfl
  ·rfl
 ·refine⟨[],[],_,_,_,ζ,aC,(),aa,?_,?_,ζ⟩
  ·(show _=bI A');unfold bI;first|(rw [am0 (s:=A') (hmD nG w1) (.inr (.inl DB))];rfl)|rfl
  ·rfl
 ·refine⟨[],[],_,_,_,ζ,aC,(),aa,?_,?_,ζ⟩
  ·(show _=bI A');unfold bI;first|(rw [am0 (s:=A') (hmD nG w1) (.inr (.inr tZ))];rfl)|rfl
  ·rfl
 ·have lj:=E3 hz hc (agM w1) (hqD nG) (cr o9) zi
  refine⟨[],[],_,_,_,ζ,aC,(),aa,?_,?_,ζ⟩
  ·(show _=bI A');unfold bI;first|(rw [aor (s:=A') (n:=i+1) (uD (cr o9)) (λh=>by rw [<-lj] at h;exact absurd h (Int.not_le.2 (aF w26)))];rfl)|rfl
  ·rfl
 ·have lj:=E3 hz hc (agM w1) (hqD nG) (cr o9) zi
  refine⟨(i+1,z.set (nth ae ai ((i:Int)-(ah.length:Int)).toNat).1.toNat (nth ag z (nth ae ai ((i:Int)-(ah.length:Int)).toNat).1.toNat+1:Int)),[],?_,?_,?_⟩
  rotate_right
  ·exact bY
  ·refine⟨bR w1,by show (List.set _ _ _).length=64;rw [ZC6,hz],lj,?_,?_⟩
   ·exact akn (agM w1) (hqD nG) hle (by rw [<-lj];exact ZH9.1 (aD w27))
   ·intro j CC
    by_cases e:j=i
    ·rw [e];exact arq (s:=A') (by have:=aD nG;show¬i<ah.length;omega) (alw nG) o9 zi FV
    ·exact hgd j (by have:j<i+1:=CC;omega)
  ·show ah.length+ai.length-(i+1)<ah.length+ai.length-i;have:=bR w1;omega
 ·have hE:i=ah.length+ai.length:=by have:=aD (p:=(i:Int)<(ah.length:Int)+(ai.length:Int)) w28;omega
  have e:iM A'=true:=abw
   {len:=hlen,sp:=KR,cz:=htx,cm:=hkp,XH:=λj CC=>(agI j CC).2,row:=λj CC=>L7.1 (agI j CC).1
    gone:=λp hp=>by
     obtain⟨j,hj,rfl⟩:=List.getElem_of_mem hp
     have hj:j<ah.length:=hj
     have:=ajI (hgd j (by omega))
     rw [show gdP A' j=ah[j] by unfold gdP;rw [show Nat.blt j (ay.gone A').length=true from Nat.ble_eq_true_of_le hj];unfold nth;rw [cond_true];rw [show (ay.gone A')[j]?=some ah[j] from ZB2 hj],show gdT A' j=ao-1 by unfold gdT;rw [show Nat.blt j (ay.gone A').length=true from Nat.ble_eq_true_of_le hj];rfl] at this
     exact this
    dead:=λp hp=>by
     obtain⟨j,hj,rfl⟩:=List.getElem_of_mem hp
     have hj:j<ai.length:=hj
     have:=ajI (hgd (ah.length+j) (by omega))
     have hb:Nat.blt (ah.length+j) (ay.gone A').length=false:=by
      cases hbb:Nat.blt (ah.length+j) (ay.gone A').length with
      |false=>rfl
      |true=>have:ah.length+j<ah.length:=zqNlb hbb;omega
     rw [show gdP A' (ah.length+j)=ai[j] by unfold gdP;rw [hb,cond_false];rw [show ah.length+j-(ay.gone A').length=j from ZG8 ..];unfold nth;rw [show (ay.dead A')[j]?=some ai[j] from ZB2 hj],show gdT A' (ah.length+j)=aq by unfold gdT;rw [hb];rfl] at this
     exact this
    bF:=λr hr=>by
     have:=hle r hr
     rw [ZC4 (by rw [ZA0];omega),bT] at this
     exact this }
  refine⟨[],[],_,_,_,ζ,aC,(),aa,?_,?_,ζ⟩
  ·(show _=bI A');unfold bI;first|(rw [e];rfl)|rfl
  ·rfl
end
end GL
namespace GL
def nP:dN:=(2,1,0,0,0,0,0,0,0,0)
def qZ:bf:=(0,0,0,0,0,0,0)
def ago (b:Bool):aH (lh b) qZ=cL 16:=by
 have e:bh (lh b) qZ=([ch],true):=rV (f:=2) (lv:=0) (l:=[ch]) rfl
 unfold aH;rw [e];rfl
def zw (b:Bool):Tree (lh b) qZ 0 where
 tm:=⟨rfl,by decide,⟨rfl,λh=>by cases h⟩⟩
 m0:=ZC1 _
 m1:=by decide
 dm:=rfl
 tail:=λi _=>by rw [ago,HJ];rfl
def Z5 (b:Bool) (k:Nat):getM (lh b) qZ k=⟨#[]⟩:=oD (zw b) (j:=k) (Int.natCast_nonneg k)
def NP (b:Bool) (r:Nat):sB (lh b) r=0:=xm 64 r
theorem aiD (b:Bool) (E:Nat->Bool) (r:Nat):iS (lh b) qZ E r=0:=by
 have h:∀k,(bif E k then 0 else bF (ew (lh b) (nodeAt (lh b) qZ k)) r)=0:=λk=>by
  rw [kN (Z5 b k)];cases E k<;>rfl
 unfold iS
 have hs:∀l:List Nat,(l.map λk=>bif E k then 0 else bF (ew (lh b) (nodeAt (lh b) qZ k)) r).sum=0:=λl=>by
  induction l with
  |nil=>rfl
  |cons x l ih=>rw [ZF1,List.sum_cons,ih,h x]
 exact hs _
def aeo (b:Bool):FI (lh b) qZ (tS E0 0) (λr=>O0 r+bF (ew (lh b) nP) r) where
 tree:=zw b
 nodes:=λk _ _=>.inl (Z5 b k)
 acc:=
  {wf:=⟨⟨rfl,rfl,rfl⟩,λx hx=>by rw [(ZE4.1 hx).2];exact ZA7 _⟩
   up:=λr=>by rw [NP];decide
   cz:=⟨ZC1 _,show (1:Int)<=1000000 by decide⟩
   sl:=λr=>by
    rw [NP,aiD,show bF (ew (lh b) nP) r=0 from nB rfl r,show bF (eu (lh b) qZ) r=0 from nB rfl r]
    exact ZC1 _
   ok:=λp hp=>by cases hp }
def Z4 (b:Bool):(aP (lh b) qZ 0 (aB nP)).2.2=true:=by cases b<;>decide+kernel
def ahJ:cx nP=true:=by decide
def alc (b:Bool):FS (aP (lh b) qZ 0 (aB nP)).1 (aP (lh b) qZ 0 (aB nP)).2.1:=by
 obtain⟨h1,h2⟩:=(aeo b).aea (i:=0) (n:=nP) (O:=O0) (by decide) (by decide) (λh=>⟨h,zw b⟩) (Z4 b)
 have e:yL (tS E0 0) 0=E0:=by
  funext k
  unfold yL tS
  cases decide (k=0)<;>rfl
 rw [e] at h1
 refine⟨h1,?_⟩
 have h3:aG (getM (aP (lh b) qZ 0 (aB nP)).1 (aP (lh b) qZ 0 (aB nP)).2.1 0)=(nP,true):=(congrArg aG h2.at_).trans (vU ahJ)
 show (aG (getM (aP (lh b) qZ 0 (aB nP)).1 (aP (lh b) qZ 0 (aB nP)).2.1 0)).1.1=2
 rw [h3];rfl
end GL
namespace GL
def alb (b:Bool):iM (lh b)=true:=abw
 {len:=rfl
  sp:=show tv (List.replicate 64 0,List.replicate 64 0)=true by decide+kernel
  cz:=⟨ZC1 _,show (1:Int)<=900 by decide⟩
  cm:=⟨ZC1 _,ZC1 _⟩
  XH:=λi _=>by rw [show nth ag (lh b).last i=(0:Int) from xm 64 i];exact (show (0:Int)<=1 by decide)
  row:=λi _=>by
   have e:nth ab (lh b).rows i=⟨#[]⟩:=by
    by_cases h:i<(lh b).rows.length
    ·exact (ZE4.1 (bS (ek:=ab) h)).2
    ·exact oW (ek:=ab) (by omega)
   rw [e,show nth ag (lh b).refs i=(0:Int) from xm 64 i]
   exact⟨ZA7 _,rfl⟩
  gone:=λp hp=>by cases hp
  dead:=λp hp=>by cases hp
  bF:=λr _=>by rw [NP];exact ZC1 _ }
structure apX (s:ay):Prop where
 ex:∃b,s=lh b
def ng (S:ay):Prop:=apX S
def U0 (S:ay) (z:ay×bf):Prop:=FS z.1 z.2/\z.1.wg 10
def UP (S:ay) (z:ay×bf):AV:=.t [.a (nH 0 1 2 3 4 z.1),trA z.2,.s (.q true)]
def ZR (S:ay) (z:ay×bf):List AV:=[.rs ab z.1.rows,.rs ag z.1.refs,.rs ag z.1.last,.rs ae z.1.gone,.rs ae z.1.dead]
def mg:cu where
 A:=[.a vj]
 B:=[]
 pre:=λx b=>ng x
 α:=λ_ _=>ay×bf
 φ:=λx b z=>U0 x z
 r:=λx b z=>UP x z
 o:=λx b z=>ZR x z
 nf:=5
def B8:Has Tryz.prog 40 mg:=by
 refine Has.fP zT zF zF (l:=[(30,uW),(47,kq),(27,yP)]) ⟨SQ,OC,aau,aa⟩ Tryz.func40 ?_
 rintro⟨(aj:List ByteArray),(ak:List Int),(an:List Int),(ao:Int),(ah:List Pt),(aq:Int),(ai:List Pt),(ar:Bool)⟩ _ (hp:ng (aj,ak,an,ao,ah,aq,ai,ar))
 show vc _ _ _ _ (entry [.a [.vz ab aj,.vz ag ak,.vz ag an,.int ao,.vz ae ah,.int aq,.vz ae ai,.q ar]] []) _
 obtain⟨b,hb⟩:=hp.ex
 have xe:iM (aj,ak,an,ao,ah,aq,ai,ar)=true:=by rw [hb];exact alb b
 have hsm:ay.small (aj,ak,an,ao,ah,aq,ai,ar):=by rw [hb];exact⟨show 64<=1000000 by decide,show 64<=1000000 by decide,show 64<=1000000 by decide,ZA7 _,ZA7 _⟩
 have hw0:ay.wg (aj,ak,an,ao,ah,aq,ai,ar) 0:=by rw [hb];exact⟨(aeo b).acc.wf,ZB0 _,ZB0 _,show (1:Int)<=1000 by decide⟩
 have lf:ay.wg (aj,ak,an,ao,ah,aq,ai,ar) 1046000:=hw0.mono (ZA7 _)
 have aaB:(aP (aj,ak,an,ao,ah,aq,ai,ar) qZ 0 (aB nP)).2.2=true:=by rw [hb];exact Z4 b
 have xk:FS (aP (aj,ak,an,ao,ah,aq,ai,ar) qZ 0 (aB nP)).1 (aP (aj,ak,an,ao,ah,aq,ai,ar) qZ 0 (aB nP)).2.1:=by rw [hb];exact alc b
 have aoR:bf.ok qZ:=(zw b).ok
 have hw1:(aP (aj,ak,an,ao,ah,aq,ai,ar) qZ 0 (aB nP)).1.wg 10:=(lL hw0 aoR (ZC1 _) (by decide)).1.mono (by omega)
 refine⟨⟨⟨tv9,aa⟩,?_,?_⟩,λx1 w2=>⟨λw3=>?_,λw4=>⟨⟨⟨tv9,aa⟩,?_,?_,?_,?_,?_⟩,λx5 w6=>⟨⟨⟨tv9,tv8,aa,tv11,aa⟩,⟨?_,?_,?_,?_,?_⟩,?_,?_,?_,?_⟩,λx7 w8=>⟨λw9=>?_,λdB=>⟨[.s 5,.b 1005],Sq26,ζ,[.s 6,.b 1006],Sq27,ζ,[.s 2,.s 26,.b 1002],[.b 1002],ζ,[.s 3,.s 27,.b 1003],[.b 1003],ζ,[],Sq4,ζ,?_⟩⟩⟩⟩⟩⟩
 all_goals first|refine aw ?_|refine ax ?_|exact bb|(dsimp only [uW,sV,kq,rz,yP,vL,iE];omega)|exact ba|exact hsm.1|exact hsm.2.1|exact hsm.2.2.1|exact hsm.2.2.2.1|exact hsm.2.2.2.2|exact lf|exact aoR|skip
 ·exact absurd (xe.symm.trans (sW w3)) (by decide)
 ·exact absurd (aaB.symm.trans (sW w9)) (by decide)
 ·refine⟨[160000,160001,160002,1000190000,1000190001],[],_,_,_,ζ,bZ,((aP (aj,ak,an,ao,ah,aq,ai,ar) qZ 0 (aB nP)).1,(aP (aj,ak,an,ao,ah,aq,ai,ar) qZ 0 (aB nP)).2.1),⟨xk,hw1⟩,ζ,ζ,ζ⟩
end GL
namespace GL
def ajy:ByteArray:=⟨#[104,101,108,108,111,32,104,101,108,108,111,32,104,101,108,108,111]⟩
def r5:List Opr:=[(2,⟨#[47,97]⟩,⟨#[]⟩,0,⟨#[]⟩),(1,⟨#[47,98]⟩,⟨#[]⟩,0,⟨#[]⟩),(1,⟨#[47,97,47,98]⟩,⟨#[]⟩,0,⟨#[]⟩),(3,⟨#[47,98]⟩,⟨#[]⟩,0,ajy),(2,⟨#[47,97,47,99]⟩,⟨#[]⟩,0,⟨#[]⟩),(3,⟨#[47,97,47,98]⟩,⟨#[]⟩,30,ajy)]
def mZ:Prop:=True
def vm:AV:=.s (.xs 0 5 0 r5.length)
def ye:List AV:=[.rs JV r5]
def mb:cu where
 A:=[]
 B:=[]
 pre:=λx b=>mZ
 r:=λx b _=>vm
 o:=λx b _=>ye
 nf:=1
def B4:Has Tryz.prog 42 mb:=by
 refine Has.fP zT zF zF (l:=[]) trivial Tryz.func42 ?_
 rintro _ _ (hp:mZ)
 show vc _ _ _ _ (entry [] []) _
 refine⟨aa,?_⟩
 all_goals first|refine aw ?_|refine ax ?_|exact bb|exact ba|skip
 refine⟨[1007],[],_,_,_,ζ,aC,(),aa,?_,?_,ζ⟩
 ·(show _=vm);unfold vm;first|rfl
 ·(show _=ye);unfold ye;first|rfl
end GL
namespace GL
def FS.gk {s:ay}{t:bf}{n:Nat}(h:FS s t) (hw:s.wg n) (hn:n<=900000):s.gk where
 n:=h.fi.acc.wf.n
 len:=ZA9 hw.g (by omega)
 ok:=λp hp=>pI (h.fi.acc.ok p (by simp [hp])).1
 cz:=by have:=h.fi.acc.cz;omega
def FS.aiC {s:ay}{t:bf}{n:Nat}(h:FS s t) (hw:s.wg n) (hn:n<=900000):FS (jR s) t/\(jR s).wg (n+1):=
 ⟨h.next (by have:=hw.t;omega),Z2 h.fi.acc hw hn⟩
def M8 {o:Opr}(h:aeh o=true):0<=o.2.2.2.1/\o.2.2.2.1<=192/\o.2.2.2.2.size<=24:=by
 unfold aeh ZT at h
 cases h1: !(gC o.1 1 7)||(!(gW o.2.1)||((ZS o&& !(gW o.2.2.1))||(!(ZS o)&&decide (o.2.2.1≠⟨#[]⟩)))) with
 |true=>rw [h1] at h;cases h
 |false=>
  rw [h1,cond_false] at h
  cases h2:(decide (o.1≠3)&&decide (o.2.2.2.2≠⟨#[]⟩))||decide ((o.2.2.2.2.size:Int)>24) with
  |true=>rw [h2] at h;cases h
  |false=>
   rw [h2,cond_false] at h
   have h3:=aD (ZD5.1 h2).2
   rcases Bool.or_eq_true_iff.1 h with h |h
   ·have:=aF h;omega
   ·have:=cy.1 (ZE0.1 h).2;omega
def aaS:∀k:Nat,(nth JV r5 k).2.1.size<=1000/\(nth JV r5 k).2.2.1.size<=1000/\0<=(nth JV r5 k).2.2.2.1/\(nth JV r5 k).2.2.2.1<=192/\(nth JV r5 k).2.2.2.2.size<=1000
 |0 |1 |2 |3 |4 |5=>by decide
 |k+6=>by rw [oW (ek:=JV) (by show 6<=k+6;omega)];decide
def vG (r:List Int×Int):Prop:=Rdr r 900000
def UZ (r:List Int×Int) (z:ay×bf×Int):Prop:=FS z.1 z.2.1/\z.1.wg 10000/\r.2<=z.2.2/\z.2.2<=r.2+20000
def UN (r:List Int×Int) (z:ay×bf×Int):AV:=.t [.a (nH 1 2 3 4 5 z.1),trA z.2.1]
def ZD (r:List Int×Int) (z:ay×bf×Int):List AV:=[.a [.vw nJ r.1,.int z.2.2],.rs ab z.1.rows,.rs ag z.1.refs,.rs ag z.1.last,.rs ae z.1.gone,.rs ae z.1.dead]
def CO:cu where
 A:=[.b 0]
 B:=[.a [.vw nJ,.int]]
 pre:=λx b=>vG b
 α:=λ_ _=>ay×bf×Int
 φ:=λx b z=>UZ b z
 r:=λx b z=>UN b z
 o:=λx b z=>ZD b z
 nf:=5
def acK:Has Tryz.prog 21 CO:=by
 refine Has.fP zT zF zF (l:=[(22,bE),(41,mf),(40,mg),(42,mb),(43,wH),(44,wB),(45,C0),(46,sc)]) ⟨fk,B7,B8,B4,V6,VZ,acU,OA,aa⟩ Tryz.func21 ?_
 rintro _ ⟨(rb:List Int),(rp:Int)⟩ (hp:vG (rb,rp))
 show vc _ _ _ _ (entry [.s (.bp 0 0)] [.a [.vw nJ rb,.int rp]]) _
 have hr:Rdr (rb,rp) 900000:=hp
 have hp0:0<=rp:=hr.p0
 have hp1:rp<=900000:=hr.p1
 refine⟨⟨tv3,?_,?_⟩,λx1 w2=>⟨⟨tv2,aa⟩,λx3 w4=>⟨⟨⟨⟨⟨?_,?_⟩,⟨?_,?_⟩,⟨?_,?_⟩,aa,⟨?_,?_⟩,aa,⟨?_,?_⟩,tv2⟩,aa⟩,?_⟩,λx5 w6=>⟨tv2,λx7 w8=>⟨⟨?_,?_⟩,⟨tv3,?_,?_⟩,λx9 dB=>?_⟩⟩⟩⟩⟩
 all_goals first|refine aw ?_|refine ax ?_|exact bb|(dsimp only [bE,dv,mf,nc,mg,ng,mb,mZ,wH,uu,wB,uq,C0,yc,sc,rv,iE];omega)|exact ba|exact hr.at (show 0<=rp by omega) (show rp<=_ by omega)|exact⟨⟨_,rfl⟩⟩|(show ((6:Nat):Int)+1<=imax;decide)|(show ((6:Nat):Int)+1<=1000000;decide)|exact hr.at (show 0<=x1.2 by have e:x1.2=rp+1:=w2.2;omega) (show x1.2<=_ by have e:x1.2=rp+1:=w2.2;omega)|skip
 have e1:x1.2=rp+1:=w2.2
 have e5:x9.2=x1.2+1:=dB.2
 have hk:0<=x9.1/\x9.1<7:=pk (n:=7) (by decide) dB
 have hF0:FS x5.1 x5.2:=w6.1
 have hW0:x5.1.wg 10:=w6.2
 refine df (l:=[(22,bE),(41,mf),(40,mg),(42,mb),(43,wH),(44,wB),(45,C0),(46,sc)]) (ex:=zT) (wr:=zF) (pt:=zF) ⟨fk,B7,B8,B4,V6,VZ,acU,OA,trivial⟩ [.s 0,.b 0,.s 2,.s 3,.b 1002,.b 1003,.s 4,.s 5,.s 7,.b 210000] (λy:ay×bf×Int=>[(.s 8,.int y.2.2),(.b 1004,.a (nH 1000000001 1000000002 1000000003 1000000004 1000000005 y.1)),(.b 1005,.a [.int y.2.1.1,.int y.2.1.2.1,.int y.2.1.2.2.1,.int y.2.1.2.2.2.1,.int y.2.1.2.2.2.2.1,.int y.2.1.2.2.2.2.2.1,.int y.2.1.2.2.2.2.2.2]),(.b 1000000001,.rs ab y.1.rows),(.b 1000000002,.rs ag y.1.refs),(.b 1000000003,.rs ag y.1.last),(.b 1000000004,.rs ae y.1.gone),(.b 1000000005,.rs ae y.1.dead)]) (λy=>FS y.1 y.2.1/\y.1.wg (10+300*(6-y.2.2).toNat)/\0<=y.2.2/\y.2.2<=6) (λy=>y.2.2.toNat) (x5.1,x5.2,x9.1) [(1000000001,170000),(1000000002,170001),(1000000003,170002),(1000000004,170003),(1000000005,170004)] ⟨hF0,hW0.mono (by omega),hk.1,by have:=hk.2;show x9.1<=6;omega⟩ dP ?_
 rintro⟨u,tt,k⟩ ⟨(hF:FS u tt),(hW:u.wg (10+300*(6-k).toNat)),(hk0:0<=k),(hk6:k<=6)⟩
 have hop:=aaS (6-k).toNat
 refine⟨λw1=>⟨[.s 4,.b 1004],Sq31,ζ,[.s 5,.b 1005],Sq32,ζ,Sq7,Sq33,ζ,Sq7,Sq34,ζ,Sq34,Sq35,ζ,Sq8,Sq36,ζ,[.s 35,.s 36],Sq37,ζ,⟨?_,?_⟩,[.s 33,.s 37],Sq38,ζ,⟨?_,?_⟩,[.s 38,.b 210000],Sq39,ζ,?_,[.s 31,.s 32,.s 39,.b 1000000001,.b 1000000002,.b 1000000003,.b 1000000004,.b 1000000005,.b 1000410004,.b 1000410003,.b 1000410002,.b 1000410001,.b 1000410000],[.s 40,.b 1000000001,.b 1000000002,.b 1000000003,.b 1000000004,.b 1000000005,.b 1000410000,.b 1000410001,.b 1000410002,.b 1000410003,.b 1000410004],ζ,⟨⟨tv9,tv8,tv6,aa⟩,⟨?_,?_,?_,?_,?_⟩,?_,?_,?_,?_,?_,?_,?_⟩,?_,λx2 w3=>⟨Sq40,Sq30,ζ,Sq30,Sq41,ζ,Sq30,Sq42,ζ,Sq30,Sq43,ζ,[.s 4,.s 41,.b 1004],[.b 1004],ζ,[.s 5,.s 42,.b 1005],[.b 1005],ζ,⟨?_,?_⟩,?_⟩⟩,λw4=>⟨⟨tv3,?_,?_⟩,λx5 w6=>?_⟩⟩
 all_goals first|refine aw ?_|refine ax ?_|exact bb|(dsimp only [bE,dv,mf,nc,mg,ng,mb,mZ,wH,uu,wB,uq,C0,yc,sc,rv,iE];omega)|exact ba|exact hF|exact hW.mono (by omega)|exact hop.1|exact hop.2.1|exact hop.2.2.1|exact hop.2.2.2.1|exact hop.2.2.2.2|exact hr.at (show 0<=x9.2 by omega) (show x9.2<=_ by omega)|exact⟨(u,tt,0),hF,λn h=>h.mono (by omega)⟩|(show gz<=((6:Nat):Int)-k;unfold gz;omega)|(show ((6:Nat):Int)-k<=imax;unfold imax;omega)|(show 0<=((6:Nat):Int)-k;omega)|(show ((6:Nat):Int)-k<((6:Nat):Int);have h:=aF (p:=k>0) w1;omega)|(show (((6:Nat):Int)-k).toNat<6;have h:=aF (p:=k>0) w1;omega)|skip
 ·have hk1:0<k:=aF (p:=k>0) w1
  have hG:FS x2.1 x2.2.1:=w3.1
  have hV:x2.1.wg (10+300*(6-k).toNat+300):=w3.2 _ hW
  refine⟨(x2.1,x2.2.1,k-1),[(1000000001,1000410000),(1000000002,1000410001),(1000000003,1000410002),(1000000004,1000410003),(1000000005,1000410004)],?_,?_,?_⟩
  rotate_right
  ·exact bY
  ·exact⟨hG,hV.mono (by show 10+300*(6-k).toNat+300<=10+300*(6-(k-1)).toNat;omega),by show 0<=k-1;omega,by show k-1<=6;omega⟩
  ·show (k-1).toNat<k.toNat;omega
 ·have hk1:¬k>0:=aD (p:=k>0) w4
  have e9:x5.2=x9.2+1:=w6.2
  have hm:0<=x5.1/\x5.1<12:=pk (n:=12) (by decide) w6
  refine df (l:=[(22,bE),(41,mf),(40,mg),(42,mb),(43,wH),(44,wB),(45,C0),(46,sc)]) (ex:=zT) (wr:=zF) (pt:=zF) ⟨fk,B7,B8,B4,V6,VZ,acU,OA,trivial⟩ [.s 0,.s 2,.s 3,.b 1002,.b 1003,.s 4,.s 5] (λy:ay×bf×Int×Int=>[(.b 0,.a [.vw nJ rb,.int y.2.2.2]),(.s 9,.int y.2.2.1),(.b 1004,.a (nH 1000000001 1000000002 1000000003 1000000004 1000000005 y.1)),(.b 1005,.a [.int y.2.1.1,.int y.2.1.2.1,.int y.2.1.2.2.1,.int y.2.1.2.2.2.1,.int y.2.1.2.2.2.2.1,.int y.2.1.2.2.2.2.2.1,.int y.2.1.2.2.2.2.2.2]),(.b 1000000001,.rs ab y.1.rows),(.b 1000000002,.rs ag y.1.refs),(.b 1000000003,.rs ag y.1.last),(.b 1000000004,.rs ae y.1.gone),(.b 1000000005,.rs ae y.1.dead)]) (λy=>FS y.1 y.2.1/\y.1.wg (2000+301*(11-y.2.2.1).toNat)/\(0<=y.2.2.1/\y.2.2.1<=11)/\rp<=y.2.2.2/\y.2.2.2<=rp+3+1021*(11-y.2.2.1)) (λy=>y.2.2.1.toNat) (u,tt,x5.1,x5.2) [] ⟨hF,hW.mono (by omega),⟨hm.1,by have:=hm.2;show x5.1<=11;omega⟩,by show rp<=x5.2;omega,by have:=hm.2;show x5.2<=rp+3+1021*(11-x5.1);omega⟩ dP ?_
  rintro⟨u,tt,k,q⟩ ⟨(hF:FS u tt),(hW:u.wg (2000+301*(11-k).toNat)),⟨(hk0:0<=k),(hk3:k<=11)⟩,(hq0:rp<=q),(hq1:q<=rp+3+1021*(11-k))⟩
  refine⟨λw1=>⟨⟨tv2,?_⟩,λx2 w3=>⟨⟨⟨tv6,aa⟩,?_,?_⟩,λx4 w5=>⟨λw6=>⟨⟨⟨tv9,tv8,tv6,aa⟩,⟨?_,?_,?_,?_,?_⟩,?_,?_,?_,?_,?_,?_,?_⟩,λx7 w8=>⟨⟨tv3,?_,?_⟩,λx9 dB=>⟨λiP=>⟨⟨⟨tv9,aa⟩,⟨?_,?_,?_,?_,?_⟩,?_⟩,λve iL=>⟨⟨?_,?_⟩,?_⟩⟩,λgY=>⟨⟨?_,?_⟩,?_⟩⟩⟩⟩,λnG=>⟨⟨tv3,?_,?_⟩,λx16 xh=>⟨λqU=>⟨⟨⟨tv9,aa⟩,⟨?_,?_,?_,?_,?_⟩,?_⟩,λx19 tl=>⟨⟨?_,?_⟩,?_⟩⟩,λFW=>⟨⟨?_,?_⟩,?_⟩⟩⟩⟩⟩⟩,λDB=>⟨[.s 4,.b 1004],Sq67,ζ,[.s 5,.b 1005],Sq68,ζ,[.s 2,.s 67,.b 1002],[.b 1002],ζ,[.s 3,.s 68,.b 1003],[.b 1003],ζ,?_⟩⟩
  all_goals first|refine aw ?_|refine ax ?_|exact bb|(dsimp only [bE,dv,mf,nc,mg,ng,mb,mZ,wH,uu,wB,uq,C0,yc,sc,rv,iE];omega)|exact ba|exact hr.at (show 0<=q by omega) (show q<=_ by omega)|exact hF|exact hW.mono (by omega)|exact⟨(u,tt,0),hF,λn h=>h.mono (by omega)⟩|(show x2.1.2.1.size<=1000000;have h:x2.1.2.1.size<=30:=w3.1.1;omega)|(show x2.1.2.2.1.size<=1000000;have h:x2.1.2.2.1.size<=30:=w3.1.2.1;omega)|(show x2.1.2.1.size<=1000;have h:x2.1.2.1.size<=30:=w3.1.1;omega)|(show x2.1.2.2.1.size<=1000;have h:x2.1.2.2.1.size<=30:=w3.1.2.1;omega)|exact (M8 w6).1|exact (M8 w6).2.1|exact ZA9 (M8 w6).2.2 (by decide)|exact hr.at (show 0<=x2.2 by have e:q<=x2.2/\x2.2<=q+1020:=w3.2;omega) (show x2.2<=_ by have e:q<=x2.2/\x2.2<=q+1020:=w3.2;omega)|exact FS.gk (t:=x7.2.1) w8.1 (w8.2 _ hW) (by omega)|exact hF.gk hW (by omega)|skip
  ·have hk1:0<k:=aF (p:=k>0) w1
   have e2:q<=x2.2/\x2.2<=q+1020:=w3.2
   have e9:x9.2=x2.2+1:=dB.2
   have hV:=FS.aiC (s:=x7.1) (t:=x7.2.1) w8.1 (w8.2 _ hW) (by omega)
   refine⟨(jR x7.1,x7.2.1,k-1,x9.2),[(1000000001,1000590000),(1000000002,1000590001),(1000000003,1000590002),(1000000004,670000),(1000000005,1000590004)],?_,?_,?_⟩
   rotate_right
   ·exact bY
   ·exact⟨hV.1,hV.2.mono (by show 2000+301*(11-k).toNat+300+1<=2000+301*(11-(k-1)).toNat;omega),⟨by show 0<=k-1;omega,by show k-1<=11;omega⟩,by show rp<=x9.2;omega,by show x9.2<=rp+3+1021*(11-(k-1));omega⟩
   ·show (k-1).toNat<k.toNat;omega
  ·have hk1:0<k:=aF (p:=k>0) w1
   have e2:q<=x2.2/\x2.2<=q+1020:=w3.2
   have e9:x9.2=x2.2+1:=dB.2
   have hG:FS x7.1 x7.2.1:=w8.1
   have hV:x7.1.wg (2000+301*(11-k).toNat+300):=w8.2 _ hW
   refine⟨(x7.1,x7.2.1,k-1,x9.2),[(1000000001,1000590000),(1000000002,1000590001),(1000000003,1000590002),(1000000004,1000590003),(1000000005,1000590004)],?_,?_,?_⟩
   rotate_right
   ·exact bY
   ·exact⟨hG,hV.mono (by show 2000+301*(11-k).toNat+300<=2000+301*(11-(k-1)).toNat;omega),⟨by show 0<=k-1;omega,by show k-1<=11;omega⟩,by show rp<=x9.2;omega,by show x9.2<=rp+3+1021*(11-(k-1));omega⟩
   ·show (k-1).toNat<k.toNat;omega
  ·have hk1:0<k:=aF (p:=k>0) w1
   have e2:q<=x2.2/\x2.2<=q+1020:=w3.2
   have e9:x16.2=x2.2+1:=xh.2
   have hV:=hF.aiC hW (by omega)
   refine⟨(jR u,tt,k-1,x16.2),[(1000000004,670000)],?_,?_,?_⟩
   rotate_right
   ·exact bY
   ·exact⟨hV.1,hV.2.mono (by show 2000+301*(11-k).toNat+1<=2000+301*(11-(k-1)).toNat;omega),⟨by show 0<=k-1;omega,by show k-1<=11;omega⟩,by show rp<=x16.2;omega,by show x16.2<=rp+3+1021*(11-(k-1));omega⟩
   ·show (k-1).toNat<k.toNat;omega
  ·have hk1:0<k:=aF (p:=k>0) w1
   have e2:q<=x2.2/\x2.2<=q+1020:=w3.2
   have e9:x16.2=x2.2+1:=xh.2
   refine⟨(u,tt,k-1,x16.2),[],?_,?_,?_⟩
   rotate_right
   ·exact bY
   ·exact⟨hF,hW.mono (by show 2000+301*(11-k).toNat<=2000+301*(11-(k-1)).toNat;omega),⟨by show 0<=k-1;omega,by show k-1<=11;omega⟩,by show rp<=x16.2;omega,by show x16.2<=rp+3+1021*(11-(k-1));omega⟩
   ·show (k-1).toNat<k.toNat;omega
  ·refine⟨[1000000001,1000000002,1000000003,1000000004,1000000005],[],_,_,_,ζ,bZ,(u,tt,q),⟨hF,hW.mono (by omega),hq0,by show q<=rp+20000;omega⟩,ζ,ζ,ζ⟩
end GL
namespace GL
def acB {s:ay}{t:bf}(h:t.ok):(hZ s t).length=t.many.toNat:=by
 unfold hZ;rw [ZH3,eV h]
def TA.hur {s:ay}{t:bf}{n:Nat}(h:TA s t) (hw:s.wg n) (hn:n<=20000):Hur s:=by
 obtain⟨X,ha⟩:=h.acc
 exact⟨hw.mono hn,by have:=ha.cz;omega,λk=>⟨ZE9 (Int.natCast_nonneg _) (ha.sl k),ha.up k⟩⟩
end GL
end Go.Proofs.YtndmmmcglebllaaGreatDoor
namespace Go.Proofs.YtndmmmcglebllaaGreatDoor
open Go Go.RowKit
namespace GL
inductive Bys (W:World) (l:List Int):Value->Prop where
 |none (p:Option Addr) (cap:Nat) (h:l=[]):Bys W l (.slice p 0 cap)
 |some (b o cap:Nat) (cs:Array Value) (e:TypeId) (fr:Nat×Nat) (h1:W.heap[b]?=Option.some (.cells cs e fr)) (h2:l.length<=cap) (h3:win cs o (flat nJ l)):Bys W l (.slice (Option.some ⟨b,o,Option.none⟩) l.length cap)
def acH (W:World) (L:List Nat):a8:=λb=>if b∈L then (match W.heap[b]? with
 |some (.cells cs e fr)=>some (.ro cs e fr)
 |_=>none) else none
def aex {W:World}{L:List Nat}{b:Nat}{cs:Array Value}{e:TypeId}{fr:Nat×Nat}(h:W.heap[b]?=some (.cells cs e fr)) (hb:b∈L):acH W L b=some (.ro cs e fr):=by
 unfold acH
 rw [if_pos hb,h]
def VY {W:World}{L:List Nat}{b:Nat}{k:BK}(h:acH W L b=some k):∃cs e fr,k= .ro cs e fr/\W.heap[b]?=some (.cells cs e fr):=by
 unfold acH at h
 by_cases hb:b∈L
 ·rw [if_pos hb] at h
  split at h
  ·rename_i cs e fr he
   cases h
   exact⟨cs,e,fr,rfl,he⟩
  ·cases h
 ·rw [if_neg hb] at h;cases h
def agt {P:Program}{f:FuncId}{l:List Int}{v:Value}{W:World}{post:AV->List AV->Prop}(h:TC P f false [.s (.vw nJ l)] [] post) (hp:∀r os,post r os->r= .s (.q true)) (hv:Bys W l v)
  (hg:∀g∈uO,∃cs e fr,W.heap[g.1]?=some (.cells cs e fr)/\g.2 cs):Calls P f #[v] W λe w'=>e= .returned (.bool true)/\Below W.heap.size W w':=by
 have key:∀L:List Nat,(∀g∈uO,g.1∈L)->(SV.vw nJ l).rel (acH W L) (λ_=>0) v->Calls P f #[v] W λe w'=>e= .returned (.bool true)/\Below W.heap.size W w':=by
  intro L hL hr
  have h1:=h W (acH W L) (λ_=>0) [v] (λb k hk=>by
    obtain⟨cs,e,fr,rfl,he⟩:=VY hk
    exact he) ⟨λb ek n cs hk=>(by obtain⟨_,_,_,hx,_⟩:=VY hk;cases hx),λg hm=>(by
     obtain⟨cs,e,fr,h1,h2⟩:=hg g hm
     exact⟨cs,e,fr,aex h1 (hL g hm),h2⟩)⟩ ⟨hr,trivial⟩ (λav ha i hi=>(by
    rcases ZD0.1 ha with rfl
    cases hi)) ⟨ZA7 _,λi av hi=>(by simp at hi),λi j hi=>(by cases hi)⟩
  refine h1.mono λe w' ⟨v',r,os,T',β',he,hpo,cB,_,ha,_⟩=>?_
  have xj:=hp r os hpo
  subst xj
  have hv':v'= .bool true:=cB
  subst hv'
  refine⟨he,ha.os,ha.tape,ha.output,ha.gS,λb hb=>?_⟩
  cases hT:acH W L b with
  |none=>exact ha.frame b hb (λi hi=>by cases hi) (by rw [hT];trivial)
  |some k=>
   obtain⟨cs,e',fr,rfl,hh⟩:=VY hT
   have h2:=ha.typed b _ ((ha.new b hb).trans hT)
   rw [hh];exact h2
 cases hv with
 |none p cap h0=>exact key (uO.map (·.1)) (λg hm=>List.mem_map.2 ⟨g,hm,rfl⟩) (.inl ⟨h0,p,cap,rfl⟩)
 |some b o cap cs e fr h1 h2 h3=>
  exact key (b::uO.map (·.1)) (λg hm=>ZI0 _ (List.mem_map.2 ⟨g,hm,rfl⟩)) (.inr ⟨b,o,cap,cs,e,fr,rfl,h2,aex h1 (ZI4 ..),h3⟩)
end GL
namespace GL
noncomputable section
def D7 {s:ay}{many:Int}:∀{l:List Pt}{i:Int},iY s many i l=true->∀p∈l,au p=false->(bB s p).2=true/\p.2.2.2.2=0
 |q::l,i,h,p,hp,hh=>by
  unfold iY at h
  cases hq:au q with
  |true=>
   rw [hq,cond_true] at h
   rcases ZB7.1 hp with rfl |hp
   ·rw [hq] at hh;cases hh
   ·exact D7 h p hp hh
  |false=>
   rw [hq,cond_false] at h
   cases hb:nR s many i q with
   |true=>rw [hb] at h;cases h
   |false=>
    rw [hb,cond_false] at h
    rcases ZB7.1 hp with rfl |hp
    ·unfold nR at hb
     simp only [ZD5,decide_eq_false_iff_not,ZE6,Bool.not_eq_false'] at hb
     exact⟨hb.1,hb.2.1⟩
    ·exact D7 h p hp hh
theorem XQ {s:ay}{t:bf}(h:(dE s t).2=true):(iM s=true/\((dE s t).1.length:Int)=t.many)/\∀p∈(dE s t).1,(bc p=true/\p.2.2.2.2=0)/\(bB s p).2=true:=by
 rw [oQ] at h
 obtain⟨h1,h2⟩:=ZE0.1 h
 have hb:=zu h2
 have hl:(!(bh s t).2)=false:=by
  cases hl: !(bh s t).2 with
  |false=>rfl
  |true=>rw [R0 hb hl] at h2;cases h2
 have hf:=(RZ hb hl).symm.trans h2
 have hm:0<=t.many:=by
  have J6:=hb
  unfold ki at J6
  exact (cy.1 (cr (ZD5.1 J6).1)).1
 have hk:=D1 h2
 rw [qC h1 h2]
 refine⟨⟨h1,?_⟩,λp hp=>?_⟩
 ·show ((List.take _ _).length:Int)=_
  rw [ZB6];omega
 ·have hp':p∈(bh s t).1:=ZE5 hp
  have cn:bc p=true:=wb (HE h2) p hp'
  cases hh:au p with
  |false=>exact⟨⟨cn,(D7 hf p hp' hh).2⟩,(D7 hf p hp' hh).1⟩
  |true=>
   exact⟨⟨cn,O2 hh⟩,by rw [fw hh]⟩
def XP {s:ay}{t:bf}(h:(iM s&&iX s t)=false):dE s t=([],false):=by unfold dE;rw [h];rfl
def abm {s:ay}{t:bf}(h:(dE s t).2=true):(aH s t).take t.many.toNat=(dE s t).1:=by
 rw [oQ] at h
 obtain⟨h1,h2⟩:=ZE0.1 h
 rw [qC h1 h2]
 show (aH s t).take t.many.toNat=(bh s t).1.take t.many.toNat
 unfold aH
 rw [List.take_append_of_le_length (D1 h2)]
def pA (S:ay) (t:bf):Prop:=S.gone.length<=1000000/\S.dead.length<=1000000
def ZW {s:ay}{t:bf}(h:iX s t=true):(0<=t.many/\t.many<=16)/\t.many.toNat<=(bh s t).1.length:=by
 have hb:=zu h
 unfold ki at hb
 exact⟨cy.1 (cr (ZD5.1 hb).1),D1 h⟩
def AS {s:ay}{t:bf}(h:(dE s t).2=true):((dE s t).1.length:Int)=t.many/\(dE s t).1.length<=16:=by
 rw [oQ] at h
 obtain⟨h1,h2⟩:=ZE0.1 h
 have h3:=ZW h2
 rw [qC h1 h2]
 show ((List.take _ _).length:Int)=_/\(List.take _ _).length<=_
 rw [ZB6];omega
def afn {s:ay}{t:bf}(h:(dE s t).2=true):(dE s t).1.length<=16:=(AS h).2
def vE (a:List Pt) (b:List Pt):Prop:=a=b/\a.length<=1000000
def A5 (a:List Pt) (b:List Pt):AV:=.s (.q true)
def afQ (a:List Pt) (b:List Pt):List AV:=[]
def yN:cu where
 A:=[.s (.vz ae),.s (.vz ae)]
 B:=[]
 pre:=λx b=>vE (x.1) (x.2)
 r:=λx b _=>A5 (x.1) (x.2)
 o:=λx b _=>afQ (x.1) (x.2)
def aas:Has Tryz.prog 7 yN:=by
 refine Has.fP zT zF zF (l:=[]) trivial Tryz.func7 ?_
 rintro⟨(a:List Pt),(b:List Pt)⟩ _ (hp:vE a b)
 show vc _ _ _ _ (entry [.s (.vz ae a),.s (.vz ae b)] []) _
 obtain⟨(he:a=b),(hl:a.length<=1000000)⟩:=hp
 have hll:a.length=b.length:=congrArg List.length he
 refine⟨λw1=>?_,λw2=>?_⟩
 all_goals first|refine aw ?_|refine ax ?_|exact bb|exact ba|skip
 ·exact absurd (congrArg (Nat.cast:Nat->Int) hll) (aF w1)
 ·refine df (l:=[]) (ex:=zT) (wr:=zF) (pt:=zF) trivial [.s 0,.s 1] (λi:Nat=>[(.s 5,.int i)]) (λi=>i<=a.length) (λi=>a.length-i) 0 [] (ZA7 _) dP ?_
  rintro i (hi:i<=a.length)
  have cF:decide ((i:Int)<(a.length:Int))=true->i<a.length:=λh=>by have:=aF h;omega
  refine⟨λw1=>⟨Sq0,Sq17,ζ,Sq5,Sq18,ζ,[.s 17,.s 18],Sq19,ζ,⟨?_,?_⟩,Sq19,Sq20,ζ,Sq1,Sq21,ζ,Sq5,Sq22,ζ,[.s 21,.s 22],Sq23,ζ,⟨?_,?_⟩,Sq23,Sq24,ζ,[.s 20,.s 24],Sq25,ζ,λw2=>?_,λw3=>⟨⟨?_,?_⟩,?_⟩⟩,λw4=>?_⟩
  all_goals first|refine aw ?_|refine ax ?_|exact bb|exact ba|exact cF w1|(have h:=cF w1;show ((i:Int))<(b.length:Int);omega)|skip
  ·subst he;simp at w2
  ·refine⟨(i+1),[],?_,?_,?_⟩
   rotate_right
   ·exact bY
   ·show i+1<=a.length;have:=cF w1;omega
   ·show a.length-(i+1)<a.length-i;have:=cF w1;omega
  ·refine⟨[],[],_,_,_,ζ,aC,(),aa,?_,?_,ζ⟩
   ·(show _=A5 a b);unfold A5;first|rfl
   ·rfl
end
end GL
namespace GL
noncomputable section
def AN:Nat->Nat->List Pt->List Pt->List Int->List Int
 |0,_,_,_,out=>out
 |f+1,i,x,y,out=>AN f (i+1) x y (bif ptrEq (nth ae x i) (nth ae y i) then out else out++[(i:Int)])
def amH (x y:List Pt):List Int:=AN 16 0 x y []
def ae4 {f i:Nat}{x y:List Pt}{out:List Int}(h:ptrEq (nth ae x i) (nth ae y i)=true):AN (f+1) i x y out=AN f (i+1) x y out:=by rw [AN,h];rfl
def alO {f i:Nat}{x y:List Pt}{out:List Int}(h:ptrEq (nth ae x i) (nth ae y i)=false):AN (f+1) i x y out=AN f (i+1) x y (out++[(i:Int)]):=by rw [AN,h];rfl
theorem TP {x y:List Pt}:∀{f i:Nat}{out:List Int},x.length<=i->y.length<=i->AN f i x y out=out
 |0,_,_,_,_=>rfl
 |f+1,i,out,h1,h2=>by
  rw [ae4 (by rw [oW (ek:=ae) h1,oW (ek:=ae) h2];exact qD.2 rfl)]
  exact TP (by omega) (by omega)
structure DI (X Y:List Pt) (i:Nat) (out:List Int):Prop where
 le:i<=16
 len:out.length<=i
 f:AN (16-i) i X Y out=amH X Y
def DI.z (X Y:List Pt):DI X Y 0 []:=⟨ZA7 _,ZA7 _,rfl⟩
def DI.eq {X Y:List Pt}{i:Nat}{out:List Int}(h:DI X Y i out) (hi:i<16) (hq:(!(ptrEq (nth ae X i) (nth ae Y i)))=false):DI X Y (i+1) out:=by
 have h1:=h.f
 rw [show 16-i=(16-(i+1))+1 by omega,ae4 (cr hq)] at h1
 exact⟨hi,Nat.le_succ_of_le h.len,h1⟩
def DI.ne {X Y:List Pt}{i:Nat}{out:List Int}(h:DI X Y i out) (hi:i<16) (hq:(!(ptrEq (nth ae X i) (nth ae Y i)))=true):DI X Y (i+1) (out++[(i:Int)]):=by
 have h1:=h.f
 rw [show 16-i=(16-(i+1))+1 by omega,alO (pJ hq)] at h1
 exact⟨hi,by rw [ZA0,List.length_singleton];have:=h.len;omega,h1⟩
def DI.e {X Y:List Pt}{i:Nat}{out:List Int}(h:DI X Y i out) (h1:X.length<=i) (h2:Y.length<=i):out=amH X Y:=by
 rw [<-h.f,TP h1 h2]
def pe {P Q P' Q':Pt}{c:Bool}(h1:P=P') (h2:Q=Q') (h:(!(ptrEq P' Q'))=c):(!(ptrEq P Q))=c:=by subst h1 h2;exact h
def nz {l:List Pt}{i:Nat}(h:decide ((i:Int)<(l.length:Int))=false):nth ae l i=(0,0,0,0,0):=oW (ek:=ae) (by have:=aD h;omega)
end
end GL
namespace GL
def wO.wf {s:ay}(h:wO s):s.wf:=
 ⟨⟨h.len,(DK h.sp).1,(DK h.sp).2⟩,h.rd.2⟩
def wO.wg {s:ay}{n:Nat}(h:wO s) (hg:s.gone.length<=n) (hd:s.dead.length<=n):s.wg n:=
 ⟨h.wf,hg,hd,by have:=h.cz;omega⟩
def D0 {s:ay}{t:bf}(h:iX s t=true):t.ok:=by
 have hb:=zu h
 unfold ki at hb
 have h4:=cy.1 (cr (ZD5.1 hb).1)
 exact⟨HE h,h4.1,h4.2⟩
end GL
namespace GL
open Go.RowKit
def oF (T:a8):a8:=λb=>match T b with
 |some (.ro cs e fr)=>some (.ro cs e fr)
 |some (.ln cs e fr)=>some (.ln cs e fr)
 |_=>none
def WL {T:a8}{b:Nat}{cs:Array Value}{e:TypeId}{fr:Nat×Nat}(h:T b=some (.ro cs e fr)):oF T b=some (.ro cs e fr):=by unfold oF;rw [h]
def alG {T:a8}{b:Nat}{cs:Array Value}{e:TypeId}{fr:Nat×Nat}(h:T b=some (.ln cs e fr)):oF T b=some (.ln cs e fr):=by unfold oF;rw [h]
def ER {T:a8}{b:Nat}{k:BK}(h:oF T b=some k):T b=some k/\∃cs e fr,k= .ro cs e fr\/k= .ln cs e fr:=by
 unfold oF at h
 cases hT:T b with
 |none=>rw [hT] at h;cases h
 |some q=>
  rw [hT] at h
  cases q with
  |ro cs e fr=>cases h;exact⟨rfl,cs,e,fr,.inl rfl⟩
  |ln cs e fr=>cases h;exact⟨rfl,cs,e,fr,.inr rfl⟩
  |ty _ _=>cases h
  |fz _ _ _=>cases h
  |bx _=>cases h
def ES {T:a8}(hN:pY T) {b:Nat}{cs:Array Value}(h:rdT T b cs):rdT (oF T) b cs:=by
 rcases h with ⟨e,fr,h⟩ |⟨e,fr,h⟩ |⟨ek,n,h⟩
 ·exact .inl ⟨e,fr,WL h⟩
 ·exact .inr (.inl ⟨e,fr,alG h⟩)
 ·exact absurd h (hN.no b ek n cs)
def KU {T:a8}(hN:pY T):pY (oF T) where
 no:=λb ek n cs h=>hN.no b ek n cs (ER h).1
 pO:=λg hg=>by
  obtain⟨cs,e,fr,h1,h2⟩:=hN.pO g hg
  exact⟨cs,e,fr,WL h1,h2⟩
def WK {T:a8}{W w:World}(hT:WT T W) (hb:Below W.heap.size W w):WT (oF T) w:=λb k hk=>by
 have h:=hT b k (ER hk).1
 exact BK.rX h (hb.block b (BK.lt h))
def SV.AE:SV->Bool
 |.bp _ _=>false
 |.xp _ _ _ _=>false
 |.xs _ _ _ _=>false
 |.ep _ _=>false
 |.sl _ _=>false
 |_=>true
def VN:List SV->Bool
 |[]=>true
 |x::l=>x.AE&&VN l
def A0.AE:A0->Bool
 |.s x=>x.AE
 |.a l=>VN l
def AV.AE:AV->Bool
 |.o x=>x.AE
 |.fn _ []=>true
 |_=>false
def VO:List AV->Bool
 |[]=>true
 |x::l=>x.AE&&VO l
def CV.fix {T:a8}(hN:pY T) {x:CV}{y:Value}(h:x.rel T y):x.rel (oF T) y:=by
 cases x with
 |v _=>exact h
 |q _=>exact h
 |vz ek l=>
  rcases h with h |⟨b,o,cap,cs,h1,h2,h3,h4⟩
  ·exact .inl h
  ·exact .inr ⟨b,o,cap,cs,h1,h2,ES hN h3,h4⟩
def MJ {T:a8}(hN:pY T):∀{l:List CV}{r:List Value},uk T l r->uk (oF T) l r
 |[],[],h=>h
 |_::_,_::_,h=>⟨CV.fix hN h.1,MJ hN h.2⟩
def SV.fix {T:a8}{β:Nat->Nat}(hN:pY T) {x:SV}{y:Value}(hl:x.AE=true) (h:x.rel T β y):x.rel (oF T) β y:=by
 cases x with
 |v _=>exact h
 |q _=>exact h
 |er _=>exact h
 |e0=>exact h
 |vw ek l=>
  rcases h with h |⟨b,o,cap,cs,e,fr,h1,h2,h3,h4⟩
  ·exact .inl h
  ·exact .inr ⟨b,o,cap,cs,e,fr,h1,h2,WL h3,h4⟩
 |vz ek l=>
  rcases h with h |⟨b,o,cap,cs,h1,h2,h3,h4⟩
  ·exact .inl h
  ·exact .inr ⟨b,o,cap,cs,h1,h2,ES hN h3,h4⟩
 |vp ek x j=>
  obtain⟨b,o,cs,h1,h2,h3,h4⟩:=h
  exact⟨b,o,cs,h1,h2,ES hN h3,h4⟩
 |vs l j=>
  obtain⟨b,cs,h1,h2,h3⟩:=h
  exact⟨b,cs,h1,ES hN h2,MJ hN h3⟩
 |bp _ _=>cases hl
 |xp _ _ _ _=>cases hl
 |xs _ _ _ _=>cases hl
 |ep _ _=>cases hl
 |sl _ _=>cases hl
def YU {T:a8}{β:Nat->Nat}(hN:pY T):∀{l:List SV}{r:List Value},VN l=true->dY T β l r->dY (oF T) β l r
 |[],[],_,h=>h
 |_::_,_::_,hl,h=>⟨SV.fix hN (ZE0.1 hl).1 h.1,YU hN (ZE0.1 hl).2 h.2⟩
def AV.fix {T:a8}{β:Nat->Nat}(hN:pY T) {x:AV}{y:Value}(hl:x.AE=true) (h:x.rel T β y):x.rel (oF T) β y:=by
 cases x with
 |o x=>cases x with
  |s x=>exact SV.fix hN hl h
  |a l=>obtain⟨cs,h1,h2⟩:=h;exact⟨cs,h1,YU hN hl h2⟩
 |fn f l=>exact h
 |t l=>cases hl
 |rs ek l=>cases hl
 |zz=>cases hl
def YX {T:a8}{β:Nat->Nat}(hN:pY T):∀{l:List AV}{r:List Value},VO l=true->mW T β l r->mW (oF T) β l r
 |[],[],_,h=>h
 |_::_,_::_,hl,h=>⟨AV.fix hN (ZE0.1 hl).1 h.1,YX hN (ZE0.1 hl).2 h.2⟩
def SV.zA {x:SV}(h:x.AE=true):x.boxes=[]:=by
 cases x<;>first|rfl|cases h
theorem N1:∀{l:List SV},VN l=true->ct l=[]
 |[],_=>rfl
 |x::l,h=>by
  show x.boxes++ct l=[]
  rw [SV.zA (ZE0.1 h).1,N1 (ZE0.1 h).2];rfl
theorem AV.zA {x:AV}(h:x.AE=true):x.boxes=[]:=by
 cases x with
 |o x=>cases x with
  |s x=>exact SV.zA h
  |a l=>exact N1 h
 |fn f l=>cases l with
  |nil=>rfl
  |cons _ _=>cases h
 |t l=>cases h
 |rs ek l=>rfl
 |zz=>rfl
def N2:∀{l:List AV},VO l=true->∀av∈l,av.boxes=[]
 |x::l,h,av,hm=>by
  rcases ZB7.1 hm with rfl |hm
  ·exact AV.zA (ZE0.1 h).1
  ·exact N2 (ZE0.1 h).2 av hm
def TC.lib {P:Program}{f:FuncId}{mv:Bool}{args:List AV}{post:AV->List AV->Prop}(h:TC P f mv args [] post) (hl:VO args=true) {W w:World}{T:a8}{β:Nat->Nat}{vs:List Value}(hT:WT T W) (hN:pY T) (cB:mW T β args vs) (hb:Below W.heap.size W w):
  Calls P f vs.toArray w λe w'=>∃v r os T' β',e= .returned v/\post r os/\r.rel T' β' v/\Below w.heap.size w w'/\WT T' w'/\FN w 0 mv β T' β' w' os:=by
 have hT0:=WK hT hb
 refine (h w (oF T) β vs hT0 (KU hN) (YX hN hl cB) (λav ha i hi=>by rw [N2 hl av ha] at hi;cases hi) ⟨ZA7 _,λi av hi=>by simp at hi,λi j hi=>absurd hi (Nat.not_lt_zero _)⟩).mono ?_
 rintro e w' ⟨v,r,os,T',β',he,hp,hr,_,hA,hO⟩
 refine⟨v,r,os,T',β',he,hp,hr,⟨hA.os,hA.tape,hA.output,hA.gS,λk hk=>?_⟩,hA.typed,hO⟩
 cases hq:oF T k with
 |none=>exact hA.frame k hk (λi hi=>absurd hi (Nat.not_lt_zero _)) (by rw [hq];trivial)
 |some q=>
  have h1:=hT0 k q hq
  have h2:=hA.typed k q ((hA.new k hk).trans hq)
  obtain⟨_,cs,e1,fr,rfl |rfl⟩:=ER hq
  ·exact (show w'.heap[k]?=_ from h2).trans (show w.heap[k]?=_ from h1).symm
  ·exact (show w'.heap[k]?=_ from h2).trans (show w.heap[k]?=_ from h1).symm
def cY {T:a8}{β:Nat->Nat}{x:SV}{l:List SV}{ys:List Value}(h:dY T β (x::l) ys):∃y r,ys=y::r/\x.rel T β y/\dY T β l r:=by
 cases ys with
 |nil=>exact h.elim
 |cons y r=>exact⟨y,r,rfl,h.1,h.2⟩
theorem MI {T:a8}{β:Nat->Nat}{ys:List Value}(h:dY T β [] ys):ys=[]:=by
 cases ys with
 |nil=>rfl
 |cons y r=>exact h.elim
def GP {T:a8}{β:Nat->Nat}{x:AV}{l:List AV}{ys:List Value}(h:mW T β (x::l) ys):∃y r,ys=y::r/\x.rel T β y/\mW T β l r:=by
 cases ys with
 |nil=>exact h.elim
 |cons y r=>exact⟨y,r,rfl,h.1,h.2⟩
theorem xP {T:a8}{β:Nat->Nat}{ys:List Value}(h:mW T β [] ys):ys=[]:=by
 cases ys with
 |nil=>rfl
 |cons y r=>exact h.elim
theorem ans {T:a8}{W w:World}{b:Nat}{cs:Array Value}{e:TypeId}(hT:WT T W) (hN:pY T) (hb:Below W.heap.size W w) (wZ:W.heap.size<=b) (hc:w.heap[b]?=some (.cells cs e (0,0))):
  WT (qW (oF T) b (.ln cs e (0,0))) w/\pY (qW (oF T) b (.ln cs e (0,0)))/\sK (oF T) (qW (oF T) b (.ln cs e (0,0))):=by
 have hn:oF T b=none:=by
  cases hq:oF T b with
  |none=>rfl
  |some q=>have:=BK.lt (hT b q (ER hq).1);omega
 have hm:sK (oF T) (qW (oF T) b (.ln cs e (0,0))):=FY hn
 refine⟨λi k hi=>?_,⟨λi ek n c hi=>?_,(KU hN).pO.mono hm⟩,hm⟩
 ·unfold qW at hi
  split at hi
  ·rename_i he;cases hi;subst he;exact hc
  ·exact WK hT hb i k hi
 ·unfold qW at hi
  split at hi
  ·cases hi
  ·exact (KU hN).no i ek n c hi
end GL
namespace GL
open Go.RowKit
abbrev ptV (p:Pt):Value:=.agg #[.int .i64 p.1,.int .i64 p.2.1,.int .i64 p.2.2.1,.int .i64 p.2.2.2.1,.int .i64 p.2.2.2.2]
abbrev trV (t:bf):Value:=.agg #[.int .i64 t.1,.int .i64 t.2.1,.int .i64 t.2.2.1,.int .i64 t.2.2.2.1,.int .i64 t.2.2.2.2.1,.int .i64 t.2.2.2.2.2.1,.int .i64 t.2.2.2.2.2.2]
abbrev stC (S:ay):List CV:=[.vz ab S.rows,.vz ag S.refs,.vz ag S.last,.v (.int .i64 S.cz),.vz ae S.gone,.v (.int .i64 S.cm),.vz ae S.dead,.q S.same]
structure FL (T:a8) (W:World) (b:Nat) (S:ay):Prop where
 wt:WT T W
 no:pY T
 at_:∃cs,rdT T b cs/\uk T (stC S) cs.toList
def FL.later {T:a8}{W w:World}{b:Nat}{S:ay}(h:FL T W b S) (hb:Below W.heap.size W w):FL (oF T) w b S:=by
 obtain⟨cs,h1,h2⟩:=h.at_
 exact⟨WK h.wt hb,KU h.no,cs,ES h.no h1,MJ h.no h2⟩
def DQ {T T':a8}{β:Nat->Nat}(hm:sK (oF T) T') (hN:pY T):∀{l:List CV}{r:List Value},dY T β (cvs l) r->uk T' l r
 |[],[],_=>trivial
 |x::l,y::r,h=>by
  refine⟨?_,DQ hm hN h.2⟩
  have h1:=h.1
  cases x with
  |v _=>exact h1
  |q _=>exact h1
  |vz ek l=>
   have h3:(SV.vz ek l).rel T' β y:=SV.mV hm (SV.fix hN rfl h1)
   exact h3
 |[],_::_,h=>h.elim
 |_::_,[],h=>h.elim
def FL.boxed {T:a8}{W w:World}{b:Nat}{S:ay}{cs:Array Value}{β:Nat->Nat}{e:TypeId}(hT:WT T W) (hN:pY T) (cB:dY T β (cvs (stC S)) cs.toList) (hb:Below W.heap.size W w) (wZ:W.heap.size<=b) (hc:w.heap[b]?=some (.cells cs e (0,0))):
  ∃T',FL T' w b S:=by
 obtain⟨h1,h2,h3⟩:=ans hT hN hb wZ hc
 exact⟨_,h1,h2,cs,.inr (.inl ⟨e,(0,0),by unfold qW;rw [if_pos rfl]⟩),DQ h3 hN cB⟩
def akQ (w:World) (v:Value) (L:List Pt):Prop:=(L=[]/\∃p cap,v= .slice p 0 cap)\/∃b o cap,v= .slice (some ⟨b,o,none⟩) L.length cap/\b<w.heap.size/\∀k (h:k<L.length),w.cell? ⟨b,o+k*5,none⟩=some (.int .i64 L[k].1)/\w.cell? ⟨b,o+k*5+1,none⟩=some (.int .i64 L[k].2.1)
         /\w.cell? ⟨b,o+k*5+2,none⟩=some (.int .i64 L[k].2.2.1)/\w.cell? ⟨b,o+k*5+3,none⟩=some (.int .i64 L[k].2.2.2.1)/\w.cell? ⟨b,o+k*5+4,none⟩=some (.int .i64 L[k].2.2.2.2)
def aeb {w:World}{b o cap:Nat}{cs:Array Value}{e:TypeId}{fr:Nat×Nat}{L:List Pt}(hc:w.heap[b]?=some (.cells cs e fr)) (hw:win cs o (flat ae L)):akQ w (.slice (some ⟨b,o,none⟩) L.length cap) L:=by
 refine .inr ⟨b,o,cap,rfl,(ZE3.1 hc).1,λk hk=>?_⟩
 have hwr:=DA hw hk
 have hn:nth ae L k=L[k]:=by unfold nth;rw [ZB2 hk]
 rw [hn] at hwr
 refine⟨?_,?_,?_,?_,?_⟩
 ·rw [bO hc];exact hwr 0 _ rfl
 ·rw [bO hc];exact hwr 1 _ rfl
 ·rw [bO hc];exact hwr 2 _ rfl
 ·rw [bO hc];exact hwr 3 _ rfl
 ·rw [bO hc];exact hwr 4 _ rfl
section
variable {T:a8}{W w:World}{b:Nat}{S:ay}
def acX (h:FL T W b S) (p:Pt) (hp:kI S p) (hb:Below W.heap.size W w):
  Calls Tryz.prog 57 #[.pointer (some ⟨b,0,none⟩),ptV p] w λe w'=>e= .returned (.tuple #[.string (bB S p).1,.bool (bB S p).2])/\Below w.heap.size w w':=by
 obtain⟨cs,h1,h2⟩:=h.at_
 obtain⟨s0,s1,s2,s3,s4,s5,s6,s7⟩:=S
 obtain⟨p1,p2,p3,p4,p5⟩:=p
 refine ((zM.1 ((s0,s1,s2,s3,s4,s5,s6,s7),(p1,p2,p3,p4,p5)) () hp).lib (β:=λi=>i) (vs:=[.pointer (some ⟨b,0,none⟩),ptV (p1,p2,p3,p4,p5)]) rfl h.wt h.no ⟨⟨b,cs,rfl,h1,h2⟩,⟨_,rfl,rfl,rfl,rfl,rfl,rfl,aa⟩,aa⟩ hb).mono ?_
 rintro e w' ⟨v,r,os,T',β',rfl,⟨z,_,rfl,_⟩,hv,hB,hW,_⟩
 obtain⟨⟨vs⟩,rfl,hv2⟩:=(show AV.rel T' β' (.t [.s (.str (bB (s0,s1,s2,s3,s4,s5,s6,s7) (p1,p2,p3,p4,p5)).1),.s (.q (bB (s0,s1,s2,s3,s4,s5,s6,s7) (p1,p2,p3,p4,p5)).2)]) v from hv)
 match vs,(show uj T' β' [.s (.str (bB (s0,s1,s2,s3,s4,s5,s6,s7) (p1,p2,p3,p4,p5)).1),.s (.q (bB (s0,s1,s2,s3,s4,s5,s6,s7) (p1,p2,p3,p4,p5)).2)] vs from hv2) with
 |[y,q],⟨hy,hq,_⟩=>
  have hy:y= .string (bB (s0,s1,s2,s3,s4,s5,s6,s7) (p1,p2,p3,p4,p5)).1:=hy
  have hq:q= .bool (bB (s0,s1,s2,s3,s4,s5,s6,s7) (p1,p2,p3,p4,p5)).2:=hq
  subst hy hq
  exact⟨rfl,hB⟩
def EL (h:FL T W b S) (t:bf) (hp:pz S t) (hm:iX S t=true->t.many.toNat<=(bh S t).1.length) (hb:Below W.heap.size W w):
  Calls Tryz.prog 55 #[.pointer (some ⟨b,0,none⟩),trV t] w λe w'=>∃v,e= .returned (.tuple #[v,.bool (iX S t)])/\Below w.heap.size w w'/\(iX S t=true->akQ w' v ((bh S t).1.take t.many.toNat)):=by
 obtain⟨cs,h1,h2⟩:=h.at_
 obtain⟨s0,s1,s2,s3,s4,s5,s6,s7⟩:=S
 obtain⟨t1,t2,t3,t4,t5,t6,t7⟩:=t
 refine ((SN.1 ((s0,s1,s2,s3,s4,s5,s6,s7),(t1,t2,t3,t4,t5,t6,t7)) () hp).lib (β:=λi=>i) (vs:=[.pointer (some ⟨b,0,none⟩),trV (t1,t2,t3,t4,t5,t6,t7)]) rfl h.wt h.no ⟨⟨b,cs,rfl,h1,h2⟩,⟨_,rfl,rfl,rfl,rfl,rfl,rfl,rfl,rfl,aa⟩,aa⟩ hb).mono ?_
 generalize ((s0,s1,s2,s3,s4,s5,s6,s7):ay)=S at *
 generalize ((t1,t2,t3,t4,t5,t6,t7):bf)=t at *
 rintro e w' ⟨v,r,os,T',β',rfl,⟨z,hz,rfl,rfl,_⟩,hv,hB,hW,hO⟩
 have hz:z=iX S t:=hz
 obtain⟨⟨vs⟩,rfl,hv2⟩:=(show AV.rel T' β' (ca S t z) v from hv)
 have hm2:∃y,vs=[y,.bool z]:=by
  match vs,hv2 with
  |[y,q],⟨_,hq,_⟩=>
   have hq:q= .bool z:=hq
   exact⟨y,by rw [hq]⟩
 obtain⟨y,rfl⟩:=hm2
 refine⟨y,by rw [<-hz],hB,λcn=>?_⟩
 have hzt:z=true:=hz.trans cn
 subst hzt
 have hy:SV.rel T' β' (.xs 0 5 0 (bf.many t).toNat) y:=hv2.1
 have hmk:=hm cn
 have hl:(List.take (bf.many t).toNat (bh S t).1).length=(bf.many t).toNat:=by rw [ZB6];omega
 rcases hy with ⟨h0,p,rfl⟩ |⟨cap,n,rfl,xg,hT0,_⟩
 ·exact .inl ⟨ZF2 (by rw [hl];exact h0),p,0,rfl⟩
 ·obtain⟨_,_,⟨mD,e',hc',ac2⟩,_⟩:=hO.at_ 0 (.rs ae (bh S t).1) rfl (by intro h;cases h)
  obtain⟨_,z',ajv,_⟩:=ac2
  have hw:win mD (0*ae.length) (flat ae (((bh S t).1.drop 0).take (bf.many t).toNat)):=xo ajv 0 _
  have:=aeb (cap:=cap) hc' (o:=0) (L:=(bh S t).1.take (bf.many t).toNat) hw
  rw [hl] at this
  exact this
end
end GL
namespace GL
noncomputable section
def q6:List Pt->List Pt->Nat
 |p::x,q::y=>(bif ptrEq p q&& !(au p) then 1 else 0)+q6 x y
 |_,_=>0
def F5:∀x y:List Pt,q6 x y<=x.length/\q6 x y<=y.length
 |[],y=>⟨ZA7 _,ZA7 _⟩
 |_::_,[]=>⟨ZA7 _,ZA7 _⟩
 |p::x,q::y=>by
  have h:=F5 x y
  unfold q6
  rw [ZA1,ZA1]
  cases ptrEq p q&& !(au p)<;>simp<;>omega
theorem F4:∀x:List Pt,q6 x []=0
 |[]=>rfl
 |_::_=>rfl
def afs {x y:List Pt}{i:Nat}(hx:i<x.length) (hy:i<y.length):q6 (x.drop i) (y.drop i)=(bif ptrEq (nth ae x i) (nth ae y i)&& !(au (nth ae x i)) then 1 else 0)+q6 (x.drop (i+1)) (y.drop (i+1)):=by
 rw [bJ (ek:=ae) hx,bJ (ek:=ae) hy];rfl
def aby {x y:List Pt}{i:Nat}(h:¬(i<x.length/\i<y.length)):q6 (x.drop i) (y.drop i)=0:=by
 by_cases hx:i<x.length
 ·rw [show y.drop i=[] from ZB3 (by omega)];exact F4 _
 ·rw [show x.drop i=[] from ZB3 (by omega)];rfl
structure SI (X Y:List Pt) (i:Nat) (n:Int):Prop where
 n:n=(q6 X Y:Int)-q6 (X.drop i) (Y.drop i)
 x:i<=X.length
 y:i<=Y.length
def SI.z (X Y:List Pt):SI X Y 0 0:=⟨by simp,ZA7 _,ZA7 _⟩
def SI.st {X Y:List Pt}{i:Nat}{n:Int}(h:SI X Y i n) (h1:i<X.length) (h2:i<Y.length) (c:Bool) (hc:(ptrEq (nth ae X i) (nth ae Y i)&& !(au (nth ae X i)))=c):SI X Y (i+1) (n+bif c then 1 else 0):=by
 have e:=afs h1 h2
 rw [hc] at e
 refine⟨?_,h1,h2⟩
 have:=h.n
 cases c with
 |true=>simp only [cond_true] at e ⊢;omega
 |false=>simp only [cond_false] at e ⊢;omega
def SI.hit {X Y:List Pt}{i:Nat}{n:Int}(h:SI X Y i n) (h1:i<X.length) (h2:i<Y.length) (hq:ptrEq (nth ae X i) (nth ae Y i)=true) (hh:(!(au (nth ae X i)))=true):SI X Y (i+1) (n+1):=h.st h1 h2 true (by rw [hq,hh];rfl)
def SI.mi {X Y:List Pt}{i:Nat}{n:Int}(h:SI X Y i n) (h1:i<X.length) (h2:i<Y.length) (hq:ptrEq (nth ae X i) (nth ae Y i)=false\/(!(au (nth ae X i)))=false):SI X Y (i+1) n:=by
 have e:=h.st h1 h2 false (by rcases hq with hq |hq<;>rw [hq];exact Bool.false_and _;exact ZD7 _)
 rw [cond_false,Int.add_zero] at e;exact e
def SI.bd {X Y:List Pt}{i:Nat}{n:Int}(h:SI X Y i n) (hx:X.length<=16): -16<=n/\n<=16:=by
 have h1:=(F5 X Y).1
 have h2:=(F5 (X.drop i) (Y.drop i)).1
 rw [ZC8] at h2
 have:=h.n;omega
def SI.e {X Y:List Pt}{i:Nat}{n:Int}(h:SI X Y i n) (he:¬(i<X.length/\i<Y.length)):n=(q6 X Y:Int):=by
 have:=aby he;have:=h.n;omega
def v7 {i n:Nat}(h:decide ((i:Int)<(n:Int))=true):i<n:=by have:=aF h;omega
