/- Part 7 of the proof of a drawn law. -/
import Derived.Test.YtndmmmcglebllaaGreatDoorRae
import Derived.Test.YtndmmmcglebllaaGreatDoorRaf
set_option maxHeartbeats 20000000
set_option maxRecDepth 100000
set_option linter.all false
namespace Go.Proofs.YtndmmmcglebllaaGreatDoor
namespace GL
abbrev lb (s:ByteArray):List UInt8:=s.data.toList
def nq {s t:ByteArray}(h:lb s=lb t):s=t:=by
 cases s;cases t;simp only [lb] at h;congr 1;exact Array.toList_inj.1 h
def qH (s t:ByteArray):lb (s++t)=lb s++lb t:=by
 show (s++t).data.toList=_
 rw [ByteArray.data_append,ZI2]
def cT (s:ByteArray):s.size=(lb s).length:=by
 show s.data.size=s.data.toList.length
 rw [ZD6]
theorem acG:lb ⟨#[]⟩=[]:=rfl
def iJ (s:ByteArray) (a b:Nat):lb (s.extract a b)=((lb s).take b).drop a:=by
 simp only [lb,ByteArray.data_extract,Array.toList_extract]
 rw [List.extract_eq_take_drop,List.drop_take]
def oN (s:ByteArray) (k:Nat):bX s k=(match (lb s)[k]? with |some b=>(b.toNat:Int) |none=>0):=by
 unfold bX
 have e:s[k]?=(lb s)[k]?:=by
  by_cases h:k<s.size
  ·have h':k<(lb s).length:=by rw [<-cT];exact h
   rw [getElem?_pos s k h,ZB2 h']
   rfl
  ·have h':¬k<(lb s).length:=by rw [<-cT];exact h
   rw [getElem?_neg s k h,ZE1 (by omega)]
 rw [e]
 cases (lb s)[k]?<;>rfl
def aal:∀(l:List Int) (r:ByteArray),lb (l.foldl (λr n=>r.push (UInt8.ofNat n.toNat)) r)=lb r++l.map (λn=>UInt8.ofNat n.toNat)
 |[],r=>by simp
 |n::l,r=>by
  rw [List.foldl_cons,aal l]
  simp [lb,ByteArray.push]
def SE (l:List Int):lb (gp l)=l.map (λn=>UInt8.ofNat n.toNat):=by
 rw [gp,aal];rfl
def nL (c:UInt8):List UInt8->List (List UInt8)
 |[]=>[[]]
 |x::l=>if x=c then []::nL c l else
  match nL c l with
  |h::t=>(x::h)::t
  |[]=>[[x]]
theorem ue (c x:UInt8) (l:List UInt8):nL c (x::l)=if x=c then []::nL c l else
  match nL c l with
  |h::t=>(x::h)::t
  |[]=>[[x]]:=rfl
def DJ (c:UInt8) (l:List UInt8):nL c l≠[]:=by
 cases l with
 |nil=>simp [nL]
 |cons x l=>
  unfold nL;split
  ·simp
  ·split<;>simp
def zm (c x:UInt8):∀(l:List UInt8) (a:List (List UInt8)) (r:List UInt8),nL c l=a++[r]->nL c (l++[x])=if x=c then a++[r]++[[]] else a++[r++[x]]
 |[],a,r,h=>by
  have h:[[]]=a++[r]:=h
  cases a with
  |nil=>
   simp only [ZC9,ZI3,and_true] at h
   subst h
   by_cases hx:x=c
   ·simp [nL,hx]
   ·simp [nL,hx]
  |cons y a=>simp at h
 |y::l,a,r,h=>by
  rw [ZH4]
  rw [ue] at h ⊢
  by_cases hy:y=c
  ·rw [if_pos hy] at h ⊢
   cases a with
   |nil=>
    simp only [ZC9,ZI3] at h
    exact absurd h.2 (DJ c l)
   |cons z a=>
    simp only [ZH4,ZI3] at h
    obtain⟨hz,h⟩:=h
    rw [zm c x l a r h,<-hz]
    by_cases hx:x=c<;>simp [hx]
  ·rw [if_neg hy] at h ⊢
   cases e:nL c l with
   |nil=>exact absurd e (DJ c l)
   |cons w t=>
    rw [e] at h
    cases a with
    |nil=>
     simp only [ZC9,ZI3] at h
     obtain⟨hr,ht⟩:=h
     subst ht
     have:=zm c x l [] w (by simpa using e)
     rw [this,<-hr]
     by_cases hx:x=c<;>simp [hx]
    |cons z a=>
     simp only [ZH4,ZI3] at h
     obtain⟨hz,ht⟩:=h
     have:=zm c x l (w::a) r (by rw [e,ht];rfl)
     rw [this,<-hz]
     by_cases hx:x=c<;>simp [hx]
def DE {s:ByteArray}{k:Nat}(h:k<(lb s).length):(lb s).take (k+1)=(lb s).take k++[(lb s)[k]]:=by
 rw [List.take_add_one,ZB2 h];rfl
def TR (s:ByteArray) (c:UInt8):∀k,k<=(lb s).length->(jT s c.toNat k).2<=k/\nL c ((lb s).take k)=(jT s c.toNat k).1.map lb++[((lb s).take k).drop (jT s c.toNat k).2]
 |0,_=>⟨ZB0 _,by simp [jT,nL]⟩
 |k+1,hk=>by
  obtain⟨h1,h2⟩:=TR s c k (by omega)
  have bR:k<(lb s).length:=by omega
  have hb:bX s k=(((lb s)[k]).toNat:Int):=by rw [oN,ZB2 bR]
  have hs:=zm c ((lb s)[k]) _ _ _ h2
  rw [DE bR,hs]
  rw [show jT s ((c.toNat:Nat):Int) (k+1)=bif decide (bX s k=((c.toNat:Nat):Int)) then ((jT s c.toNat k).1++[s.extract (jT s c.toNat k).2 k],k+1) else jT s c.toNat k from rfl]
  have hd:decide (bX s k=((c.toNat:Nat):Int))=decide ((lb s)[k]=c):=by
   rw [hb]
   by_cases e:(lb s)[k]=c
   ·simp [e]
   ·have:¬(((lb s)[k]).toNat:Int)=(c.toNat:Int):=λh=>e (UInt8.toNat_inj.1 (by omega))
    rw [decide_eq_false this,decide_eq_false e]
  rw [hd]
  by_cases e:(lb s)[k]=c
  ·rw [decide_eq_true e,if_pos e]
   simp only [cond_true]
   refine⟨ZB0 _,?_⟩
   rw [List.map_append,ZF1,List.map_nil,iJ]
   congr 1
   have:((lb s).take k++[(lb s)[k]]).length=k+1:=by rw [ZA0,ZB6,List.length_singleton];omega
   rw [ZB3 (ZA8 this)]
  ·rw [decide_eq_false e,if_neg e]
   simp only [cond_false]
   refine⟨by omega,?_⟩
   congr 2
   rw [List.drop_append_of_le_length (by rw [ZB6];omega)]
def PM (s:ByteArray) (c:UInt8):(bz s c.toNat).map lb=nL c (lb s):=by
 have h:=TR s c (lb s).length (ZB0 _)
 rw [ZC4 (ZB0 _)] at h
 rw [h.2,bz,List.map_append,ZF1,List.map_nil,iJ,cT]
 rw [ZC4 (ZB0 _)]
theorem mN (c:UInt8):∀(a b:List UInt8),nL c (a++c::b)=nL c a++nL c b
 |[],b=>by simp [nL]
 |x::a,b=>by
  rw [ZH4]
  have ih:=mN c a b
  rw [ue,ue]
  by_cases hx:x=c
  ·rw [if_pos hx,if_pos hx,ih];rfl
  ·rw [if_neg hx,if_neg hx,ih]
   cases e:nL c a with
   |nil=>exact absurd e (DJ c a)
   |cons h t=>rfl
theorem ie (c:UInt8):∀(a:List UInt8),c∉a->nL c a=[a]
 |[],_=>rfl
 |x::a,h=>by
  have hx:¬x=c:=λe=>h (by simp [e])
  rw [ue,if_neg hx,ie c a (λhh=>h (by simp [hh]))]
def oy {k:Nat}(h:k<10):lb (dec k)=[UInt8.ofNat (48+k)]:=by
 rw [dec_lt h,SE]
 simp only [ZF1,List.map_nil]
 congr 2
def qG {k:Nat}(h:¬k<10):lb (dec k)=lb (dec (k / 10))++[UInt8.ofNat (48+k % 10)]:=by
 rw [adq h,qH,SE]
 simp only [ZF1,List.map_nil]
 congr 3
def uE {d:Nat}(h:d<10):(UInt8.ofNat (48+d)).toNat=48+d:=by
 rw [UInt8.toNat_ofNat'];omega
def wy:∀(k:Nat),∀b∈lb (dec k),48<=b.toNat/\b.toNat<=57:=by
 intro k
 induction k using Nat.strongRecOn with
 |_ k ih=>
  intro b hb
  by_cases h:k<10
  ·rw [oy h] at hb
   rw [ZD0.1 hb,uE h];omega
  ·rw [qG h] at hb
   rcases ZB5.1 hb with hb |hb
   ·exact ih (k / 10) (by omega) b hb
   ·rw [ZD0.1 hb,uE (by omega)];omega
def zY:∀(k:Nat),∃b l,lb (dec k)=b::l/\(b.toNat=48->l=[]):=by
 intro k
 induction k using Nat.strongRecOn with
 |_ k ih=>
  by_cases h:k<10
  ·exact⟨_,_,oy h,λ_=>rfl⟩
  ·obtain⟨b,l,e,hb⟩:=ih (k / 10) (by omega)
   refine⟨b,l++[UInt8.ofNat (48+k % 10)],by rw [qG h,e];rfl,λh48=>?_⟩
   exfalso
   have hl:=hb h48
   subst hl
   by_cases h2:k / 10<10
   ·rw [oy h2] at e
    simp only [ZI3,and_true] at e
    have:=uE h2
    rw [e] at this
    omega
   ·rw [qG h2] at e
    have:=congrArg List.length e
    have h3:1<=(lb (dec (k / 10 / 10))).length:=by
     obtain⟨b',l',e',_⟩:=ih (k / 10 / 10) (by omega)
     rw [e'];simp
    simp only [ZA0,ZA1,ZA4] at this
    omega
def sC (l:List UInt8):Int:=l.foldl (λn b=>10*n+((b.toNat:Int)-48)) 0
def zj (l:List UInt8) (b:UInt8):sC (l++[b])=10*sC l+((b.toNat:Int)-48):=by simp [sC]
def XL:∀(k:Nat),sC (lb (dec k))=k:=by
 intro k
 induction k using Nat.strongRecOn with
 |_ k ih=>
  by_cases h:k<10
  ·rw [oy h]
   have:=uE h
   simp only [sC,List.foldl_cons,List.foldl_nil];omega
  ·rw [qG h,zj,ih (k / 10) (by omega),uE (by omega)];omega
def HH (s:ByteArray):∀k,k<=(lb s).length->jH s k=sC ((lb s).take k)
 |0,_=>by simp [jH,sC]
 |k+1,h=>by
  have bR:k<(lb s).length:=by omega
  rw [DE bR,zj,jH,HH s k (by omega),oN,ZB2 bR]
def aes {s:ByteArray}:∀{j f k:Nat},j+k<=9->f+k=9->(∀i,k<=i->i<k+j->IE s i=true)->uI f s k=uI (f-j) s (k+j)
 |0,f,k,_,_,_=>by rw [Nat.sub_zero];rfl
 |j+1,f,k,h,hf,hd=>by
  obtain⟨g,rfl⟩:∃g,f=g+1:=⟨f-1,by omega⟩
  rw [uI,hd k (ZB0 _) (by omega),cond_true,aes (j:=j) (by omega) (by omega) (λi h1 h2=>hd i (by omega) (by omega))]
  rw [show g+1-(j+1)=g-j by omega,show k+1+j=k+(j+1) by omega]
def aey {s:ByteArray}{n:Nat}{rest:List UInt8}(hn:n<1000000000) (hs:lb s=lb (dec n)++rest) (hr:∀b,rest.head?=some b->¬(48<=b.toNat/\b.toNat<=57)):D9 s=((n:Int),((lb (dec n)).length:Int)):=by
 have hlen:(lb (dec n)).length<=9:=by rw [<-cT];exact PH 8 n (by show n<10 ^ 9;omega)
 have db:s.size=(lb (dec n)).length+rest.length:=by rw [cT,hs,ZA0]
 have AH:∀i,i<(lb (dec n)).length->bX s i=(match (lb (dec n))[i]? with |some b=>(b.toNat:Int) |none=>0):=λi hi=>by
  rw [oN,hs,ZC3 hi]
 have alD:∀i,i<(lb (dec n)).length->IE s i=true:=λi hi=>by
  have h1:=AH i hi
  rw [ZB2 hi] at h1
  have h2:=wy n _ (ZG4 hi)
  have h3:bX s i=(((lb (dec n))[i]).toNat:Int):=h1
  unfold IE
  rw [decide_eq_true (by omega),decide_eq_true (by omega),decide_eq_true (by omega),decide_eq_true (by omega)];rfl
 have aoT:IE s (lb (dec n)).length=false:=by
  cases ajg:rest with
  |nil=>
   rw [ajg] at db
   exact amG (decide_eq_false (by rw [db];simp))
  |cons b r=>
   have hb:=hr b (by rw [ajg];rfl)
   have h1:bX s (lb (dec n)).length=(b.toNat:Int):=by
    rw [oN,hs,ZD2 (ZB0 _),Nat.sub_self,ajg];rfl
   unfold IE
   by_cases h48:48<=b.toNat
   ·rw [decide_eq_false (p:=bX s (lb (dec n)).length<=57) (by omega),ZD7,ZD7,ZD7]
   ·rw [decide_eq_false (p:=bX s (lb (dec n)).length>=48) (by omega),Bool.false_and,ZD7,ZD7]
 have hnl:dC s=(lb (dec n)).length:=by
  refine aaj hlen aoT ?_
  have:=aes (s:=s) (j:=(lb (dec n)).length) (f:=9) (k:=0) (by omega) (by omega) (λi _ h2=>alD i (by omega))
  rw [ZA6] at this
  exact this.symm
 have acZ:jH s (lb (dec n)).length=n:=by
  rw [HH s _ (by rw [hs,ZA0];omega),hs,List.take_append_of_le_length (ZB0 _),ZC4 (ZB0 _),XL]
 by_cases h1:1<(lb (dec n)).length
 ·obtain⟨b,l,e,hb⟩:=zY n
  have h0:bX s 0=(b.toNat:Int):=by rw [AH 0 (by omega),e];rfl
  have h2:¬b.toNat=48:=λh=>by
   have:=hb h;rw [e,this] at h1;simp at h1
  rw [amp hnl (decide_eq_false (by omega)),acZ]
 ·rw [amq hnl (decide_eq_false (by omega)),acZ]
def Z1 {n:Nat}(hn:n<1000000000):aA (dec n)=((n:Int),true):=by
 have h:=aey (s:=dec n) (rest:=[]) hn (by simp) (by simp)
 have oC:1<=(lb (dec n)).length:=by obtain⟨b,l,e,_⟩:=zY n;rw [e];simp
 unfold aA
 rw [h]
 simp only
 rw [decide_eq_false (p:=((lb (dec n)).length:Int)=0) (by omega),decide_eq_false (p:=((lb (dec n)).length:Int)≠((dec n).size:Int)) (by rw [cT];simp)];rfl
def cI {n:Int}(h0:0<=n) (hn:n<1000000000):aA (bL n)=(n,true):=by
 unfold bL
 rw [Z1 (by omega),show ((n.toNat:Nat):Int)=n by omega]
def akd {n:Nat}{c:UInt8}(hc:¬(48<=c.toNat/\c.toNat<=57)):c∉lb (dec n):=λh=>hc (wy n c h)
end GL
namespace GL
theorem B2:∀{l m:List ByteArray},l.map lb=m.map lb->l=m
 |[],[],_=>rfl
 |[],_::_,h=>by cases h
 |_::_,[],h=>by cases h
 |x::l,y::m,h=>by
  simp only [ZF1,ZI3] at h
  rw [nq h.1,B2 h.2]
def ae8 {s:ByteArray}{l:List ByteArray}(c:UInt8) (h:nL c (lb s)=l.map lb):bz s c.toNat=l:=
 B2 ((PM s c).trans h)
def mC {n:Int}{c:UInt8}(hc:¬(48<=c.toNat/\c.toNat<=57)):c∉lb (bL n):=akd hc
def TQ (n:Int):∃b l,lb (bL n)=b::l/\48<=b.toNat/\b.toNat<=57:=by
 obtain⟨b,l,e,_⟩:=zY n.toNat
 exact⟨b,l,e,wy n.toNat b (by rw [e];simp)⟩
def zC {p:Pt}(h:bc p=true) (h2:au p=false):lb (bj p)=lb (bL p.1)++46::(lb (bL p.2.1)++46::(lb (bL p.2.2.1)++46::(lb (bL p.2.2.2.1)++46::lb (bL p.2.2.2.2)))):=by
 unfold bj
 rw [h,h2]
 simp only [cond_true,cond_false,qH]
 simp only [ZC5]
 rfl
def sN {p:Pt}(h2:au p=true):bj p=⟨#[45]⟩:=by
 have h:bc p=true:=by unfold bc;rw [h2];rfl
 unfold bj;rw [h,h2];rfl
def gH {p:Pt}(h:au p=true):p=ch:=by
 unfold au at h
 simp only [ZB1,decide_eq_true_eq] at h
 obtain⟨a,b,c,d,e⟩:=p
 obtain⟨h1,h2,h3,h4,h5⟩:=h
 simp only at h1 h2 h3 h4 h5
 subst h1 h2 h3 h4 h5;rfl
def Y1 {p:Pt}{c:UInt8}(h:bc p=true) (hc:¬(48<=c.toNat/\c.toNat<=57)) (h1:c≠46) (h2:c≠45):c∉lb (bj p):=by
 cases hh:au p with
 |true=>rw [sN hh];show c∉[45];simp [h2]
 |false=>
  rw [zC h hh]
  simp only [ZB5,ZB7,not_or]
  exact⟨mC hc,h1,mC hc,h1,mC hc,h1,mC hc,h1,mC hc⟩
def mm {p:Pt}(h:bc p=true):bC (bj p)=(p,true):=by
 cases hh:au p with
 |true=>rw [sN hh,zr (by decide),gH hh]
 |false=>
  have hl:=zC h hh
  obtain⟨b,l,e,hb1,hb2⟩:=TQ p.1
  have ft:¬bj p=⟨#[45]⟩:=λheq=>by
   rw [heq,e] at hl
   have:(45:UInt8)=b:=by
    have h1:=congrArg List.head? hl
    rw [show lb ⟨#[45]⟩=[45] from rfl,ZH4] at h1
    exact ZF4 h1
   rw [<-this] at hb1;exact absurd hb1 (by decide)
  have h46:∀n:Int,(46:UInt8)∉lb (bL n):=λn=>mC (by decide)
  have aaI:bz (bj p) 46=[bL p.1,bL p.2.1,bL p.2.2.1,bL p.2.2.2.1,bL p.2.2.2.2]:=by
   refine ae8 46 ?_
   rw [hl,mN,mN,mN,mN,ie _ _ (h46 _),ie _ _ (h46 _),ie _ _ (h46 _),ie _ _ (h46 _),ie _ _ (h46 _)]
   rfl
  have hbd:=px h
  rw [uo (decide_eq_false ft) (by rw [aaI];rfl),aaI]
  have e1:=cI (n:=p.1) (by omega) (by omega)
  have e2:=cI (n:=p.2.1) (by omega) (by omega)
  have e3:=cI (n:=p.2.2.1) (by omega) (by omega)
  have e4:=cI (n:=p.2.2.2.1) (by omega) (by omega)
  have e5:=cI (n:=p.2.2.2.2) (by omega) (by omega)
  have hn:mz [bL p.1,bL p.2.1,bL p.2.2.1,bL p.2.2.2.1,bL p.2.2.2.2] []=some [p.1,p.2.1,p.2.2.1,p.2.2.2.1,p.2.2.2.2]:=by
   simp [mz,e1,e2,e3,e4,e5]
  rw [GY hn]
  exact MR (n:=[p.1,p.2.1,p.2.2.1,p.2.2.2.1,p.2.2.2.2]) (by show (!(bc p))=false;rw [h];rfl) hh
def ny {l:List Pt}(h:(bN l).2=true):∃a b c d,l=[a,b,c,d]/\bc a=true/\bc b=true/\bc c=true/\bc d=true/\(false|| !(au a)|| !(au b)|| !(au c)|| !(au d))=true/\lb (bN l).1=lb (bj a)++44::(lb (bj b)++44::(lb (bj c)++44::lb (bj d))):=by
 cases h4:decide ((l.length:Int)≠4) with
 |true=>rw [zS h4] at h;cases h
 |false=>
  have hl:l.length=4:=by have:=aD h4;omega
  rw [zR h4] at h ⊢
  match l,hl with
  |[a,b,c,d],_=>
   refine⟨a,b,c,d,ζ,?_⟩
   cases ha:bc a with
   |false=>rw [qN (by simp [ja,ha])] at h;cases h
   |true=>cases hb:bc b with
    |false=>rw [qN (by simp [ja,ha,hb])] at h;cases h
    |true=>cases hc:bc c with
     |false=>rw [qN (by simp [ja,ha,hb,hc])] at h;cases h
     |true=>cases hd:bc d with
      |false=>rw [qN (by simp [ja,ha,hb,hc,hd])] at h;cases h
      |true=>
       have e:ja [a,b,c,d] 0 ⟨#[]⟩ false=some ((⟨#[]⟩++bj a)++⟨#[44]⟩++bj b++⟨#[44]⟩++bj c++⟨#[44]⟩++bj d,(false|| !(au a)|| !(au b)|| !(au c)|| !(au d))):=by
        simp [ja,ha,hb,hc,hd]
       rw [uP e] at h ⊢
       cases hs: !(false|| !(au a)|| !(au b)|| !(au c)|| !(au d)) with
       |true=>rw [IB hs] at h;cases h
       |false=>
        rw [zU hs]
        refine⟨ζ,ζ,ζ,ζ,qi hs,?_⟩
        simp only [qH,acG,ZC9,ZC5]
        rfl
def JL {l:List Pt}(h:(bN l).2=true):bw (bN l).1=(l,true):=by
 obtain⟨a,b,c,d,rfl,ha,hb,hc,hd,hs,hl⟩:=ny h
 have h44:∀p:Pt,bc p=true->(44:UInt8)∉lb (bj p):=λp hp=>Y1 hp (by decide) (by decide) (by decide)
 have aaI:bz (bN [a,b,c,d]).1 44=[bj a,bj b,bj c,bj d]:=by
  refine ae8 44 ?_
  rw [hl,mN,mN,mN,ie _ _ (h44 a ha),ie _ _ (h44 b hb),ie _ _ (h44 c hc),ie _ _ (h44 d hd)]
  rfl
 have e:pS (bz (bN [a,b,c,d]).1 44) [] false=some ([a,b,c,d],false|| !(au a)|| !(au b)|| !(au c)|| !(au d)):=by
  rw [aaI]
  simp [pS,mm ha,mm hb,mm hc,mm hd]
 rw [kQ e]
 exact yH rfl (by rw [hs];rfl)
def yE {l:List Pt}(h4:l.length=4) (cn:∀p∈l,bc p=true) (hn:(!(l.any λp=> !(au p)))=false):(bN l).2=true:=by
 match l,h4 with
 |[a,b,c,d],_=>
  have ha:=cn a (by simp);have hb:=cn b (by simp);have hc:=cn c (by simp);have hd:=cn d (by simp)
  have e:ja [a,b,c,d] 0 ⟨#[]⟩ false=some ((⟨#[]⟩++bj a)++⟨#[44]⟩++bj b++⟨#[44]⟩++bj c++⟨#[44]⟩++bj d,(false|| !(au a)|| !(au b)|| !(au c)|| !(au d))):=by
   simp [ja,ha,hb,hc,hd]
  rw [zR rfl,uP e,zU]
  simp only [List.any_cons,List.any_nil,Bool.not_eq_false'] at hn
  rw [Bool.or_false] at hn
  simp only [Bool.false_or,Bool.or_assoc];rw [hn];rfl
def ma:List ByteArray->List UInt8
 |[]=>[]
 |x::l=>lb (bL x.size)++58::(lb x++ma l)
def s9:∀{l:List ByteArray}{out:ByteArray},(dk l out).2=true->lb (dk l out).1=lb out++ma l/\(∀x∈l,x.size<=2048)/\((dk l out).1.size<=2048\/l=[])
 |[],out,_=>⟨by simp [dk,ma],by simp,.inr rfl⟩
 |x::l,out,h=>by
  unfold dk at h ⊢
  cases h1:decide ((x.size:Int)>2048) with
  |true=>rw [h1] at h;cases h
  |false=>
   rw [h1] at h
   simp only [cond_false] at h ⊢
   cases h2:decide (((out++bL x.size++⟨#[58]⟩++x).size:Int)>2048) with
   |true=>rw [h2] at h;cases h
   |false=>
    rw [h2] at h
    simp only [cond_false] at h ⊢
    obtain⟨e1,e2,e3⟩:=s9 h
    refine⟨?_,?_,.inl ?_⟩
    ·rw [e1]
     simp only [qH,ma,ZC5]
     rfl
    ·intro y hy
     rcases ZB7.1 hy with rfl |hy
     ·have:=aD h1;omega
     ·exact e2 y hy
    ·rcases e3 with e3 |rfl
     ·exact e3
     ·have:=aD h2
      show (dk [] _).1.size<=2048
      simp only [dk];omega
theorem yC:∀{l:List ByteArray}{out:ByteArray},out.size+(l.map λx=>x.size+13).sum<=2048->(dk l out).2=true
 |[],_,_=>rfl
 |x::l,out,h=>by
  simp only [ZF1,List.sum_cons] at h
  have hd:=cM (n:=(x.size:Int)) (by omega)
  have db:(out++bL x.size++⟨#[58]⟩++x).size=out.size+(bL x.size).size+1+x.size:=by
   simp only [ZB4];rfl
  unfold dk
  rw [decide_eq_false (by omega),cond_false,decide_eq_false (by rw [db];omega),cond_false]
  exact yC (by rw [db];omega)
def aln {s:ByteArray}{x:ByteArray}{tail:List UInt8}(hx:x.size<=2048) (hs:lb s=lb (bL x.size)++58::tail):D9 s=((x.size:Int),((lb (bL x.size)).length:Int)):=by
 have:=aey (s:=s) (n:=x.size) (rest:=58::tail) (by omega) hs (λb hb=>by
  simp only [List.head?_cons,Option.some.injEq] at hb
  rw [<-hb];decide)
 exact this
def aeO {s:ByteArray}:∀{l:List ByteArray}{f:Nat}{pre:List UInt8}{out:List ByteArray},lb s=pre++ma l->(∀x∈l,x.size<=2048)->l.length<f->J8 f s pre.length out=some (out++l)
 |[],f,pre,out,hs,_,hf=>by
  obtain⟨g,rfl⟩:∃g,f=g+1:=⟨f-1,by simp at hf;omega⟩
  have db:s.size=pre.length:=by rw [cT,hs];simp [ma]
  rw [ajQ (decide_eq_false (by rw [db];omega)),ZD4]
 |x::l,f,pre,out,hs,hx,hf=>by
  obtain⟨g,rfl⟩:∃g,f=g+1:=⟨f-1,by simp at hf;omega⟩
  have hx1:=hx x (by simp)
  have hs2:lb s=pre++(lb (bL x.size)++58::(lb x++ma l)):=hs
  have db:s.size=pre.length+((lb (bL x.size)).length+(1+(x.size+(ma l).length))):=by
   rw [cT,hs2];simp only [ZA0,ZA1,<-cT];omega
  obtain⟨b0,l0,e0,_⟩:=TQ (x.size:Int)
  have hd1:1<=(lb (bL x.size)).length:=by rw [e0];simp
  have hex:lb (s.extract (pre.length:Int).toNat s.size)=lb (bL x.size)++58::(lb x++ma l):=by
   rw [iJ,cT,ZC4 (ZB0 _),hs2,ZA5,List.drop_left]
  have hr:wq s (pre.length:Int)=((x.size:Int),((lb (bL x.size)).length:Int)):=aln hx1 hex
  have AH:bX s ((pre.length:Int)+((lb (bL x.size)).length:Int)).toNat=58:=by
   rw [oN,hs2,show ((pre.length:Int)+((lb (bL x.size)).length:Int)).toNat=pre.length+(lb (bL x.size)).length by omega]
   rw [ZD2 (by omega),ZG8,ZD2 (ZB0 _),Nat.sub_self]
   rfl
  have jt:r7 s (pre.length:Int) (wq s (pre.length:Int))=false:=by
   rw [hr]
   exact aeT (decide_eq_false (by simp only;omega)) (decide_eq_false (by simp only;omega)) (decide_eq_false (by simp only;rw [AH];simp)) (decide_eq_false (by simp only;omega))
  rw [amF (decide_eq_true (by omega)) jt,hr]
  have anD:s.extract ((pre.length:Int)+((lb (bL x.size)).length:Int)+1).toNat ((pre.length:Int)+((lb (bL x.size)).length:Int)+1+(x.size:Int)).toNat=x:=by
   refine nq ?_
   rw [iJ,hs2]
   rw [show ((pre.length:Int)+((lb (bL x.size)).length:Int)+1+(x.size:Int)).toNat=pre.length+((lb (bL x.size)).length+(1+x.size)) by omega,show ((pre.length:Int)+((lb (bL x.size)).length:Int)+1).toNat=pre.length+((lb (bL x.size)).length+1) by omega]
   rw [List.take_length_add_append,ZG2,List.take_length_add_append,ZG2]
   rw [show 1+x.size=x.size+1 by omega,List.take_succ_cons,List.drop_succ_cons,ZD8,cT,List.take_left]
  show J8 g s ((pre.length:Int)+((lb (bL x.size)).length:Int)+1+(x.size:Int)) _=_
  simp only
  rw [anD]
  have:=aeO (s:=s) (l:=l) (f:=g) (pre:=pre++(lb (bL x.size)++58::lb x)) (out:=out++[x]) (by rw [hs2];simp [ZC5]) (λy hy=>hx y (by simp [hy])) (by simp at hf;omega)
  rw [show ((pre++(lb (bL x.size)++58::lb x)).length:Int)=(pre.length:Int)+((lb (bL x.size)).length:Int)+1+(x.size:Int) by simp only [ZA0,ZA1,<-cT];omega] at this
  rw [this,ZC5];rfl
def aa7:∀(l:List ByteArray),l.length<=(ma l).length
 |[]=>ZB0 _
 |x::l=>by
  have:=aa7 l
  simp only [ma,ZA0,ZA1];omega
def r6 {l:List ByteArray}(h:(bK l).2=true):az (bK l).1=(l,true):=by
 cases h60:decide ((l.length:Int)<=60) with
 |false=>rw [qx h60] at h;cases h
 |true=>
  have h0:=h
  rw [eF h60] at h
  obtain⟨e1,e2,e3⟩:=s9 h
  rw [eF h60]
  generalize hs:(dk l ⟨#[]⟩).1=s at e1 e3 ⊢
  have e1:lb s=ma l:=by simpa [acG] using e1
  have db:s.size<=2048:=by
   rcases e3 with e3 |rfl
   ·exact e3
   ·rw [cT,e1];simp [ma]
  have hlen:=aa7 l
  have hg:=aeO (s:=s) (l:=l) (f:=s.size+1) (pre:=[]) (out:=[]) (by simpa using e1) e2 (by rw [cT,e1];omega)
  unfold az
  rw [decide_eq_true (by omega),cond_true]
  rw [show ((([]:List UInt8).length:Nat):Int)=0 from rfl] at hg
  rw [hg]
  show yD s ([]++l)=(l,true)
  rw [ZC9]
  unfold yD
  rw [h0,eF h60,hs]
  simp
def vU {n:dN}(h:cx n=true):aG (aB n)=(n,true):=by
 have hb:=il h
 have hp:aB n=(bK [bL n.1,bL n.2.1,bL n.2.2.1,bj n.root,bL n.2.2.2.2.2.2.2.2.1,bL n.2.2.2.2.2.2.2.2.2,⟨#[101,110,100]⟩]).1:=by unfold aB;rw [h];rfl
 have hf:(bK [bL n.1,bL n.2.1,bL n.2.2.1,bj n.root,bL n.2.2.2.2.2.2.2.2.1,bL n.2.2.2.2.2.2.2.2.2,⟨#[101,110,100]⟩]).2=true:=by
  rw [eF rfl]
  refine yC ?_
  have d1:=cM (n:=n.1) (by omega)
  have d2:=cM (n:=n.2.1) (by omega)
  have d3:=cM (n:=n.2.2.1) (by omega)
  have d4:=fH n.root
  have d5:=cM (n:=n.2.2.2.2.2.2.2.2.1) (by omega)
  have d6:=cM (n:=n.2.2.2.2.2.2.2.2.2) (by omega)
  simp only [ZF1,List.map_nil,List.sum_cons,List.sum_nil]
  rw [show (⟨#[101,110,100]⟩:ByteArray).size=3 from rfl,show (⟨#[]⟩:ByteArray).size=0 from rfl]
  omega
 have hg:=r6 hf
 rw [<-hp] at hg
 have e1:=cI (n:=n.1) (by omega) (by omega)
 have e2:=cI (n:=n.2.1) (by omega) (by omega)
 have e3:=cI (n:=n.2.2.1) (by omega) (by omega)
 have e4:=mm hb.2.2.2.2.2.1
 have e5:=cI (n:=n.2.2.2.2.2.2.2.2.1) (by omega) (by omega)
 have e6:=cI (n:=n.2.2.2.2.2.2.2.2.2) (by omega) (by omega)
 have tV:ia [bL n.1,bL n.2.1,bL n.2.2.1,bj n.root,bL n.2.2.2.2.2.2.2.2.1,bL n.2.2.2.2.2.2.2.2.2,⟨#[101,110,100]⟩]=n:=by
  show ((aA (bL n.1)).1,(aA (bL n.2.1)).1,(aA (bL n.2.2.1)).1,(bC (bj n.root)).1.1,(bC (bj n.root)).1.2.1,(bC (bj n.root)).1.2.2.1,(bC (bj n.root)).1.2.2.2.1,(bC (bj n.root)).1.2.2.2.2,(aA (bL n.2.2.2.2.2.2.2.2.1)).1,(aA (bL n.2.2.2.2.2.2.2.2.2)).1)=n
  rw [e1,e2,e3,e4,e5,e6]
 unfold aG
 rw [hg,tV,h]
 simp
end GL
namespace GL
abbrev at' (p:Pt):Nat:=p.1.toNat
def Q5 (r:Nat) (p:Pt):Bool:= !(au p)&&decide (at' p=r)
def bF (l:List Pt) (r:Nat):Nat:=l.countP (Q5 r)
theorem ti (r:Nat):bF [] r=0:=rfl
def bT (l m:List Pt) (r:Nat):bF (l++m) r=bF l r+bF m r:=List.countP_append
def eA (p:Pt) (l:List Pt) (r:Nat):bF (p::l) r=bF [p] r+bF l r:=bT [p] l r
def WW {l m:List Pt}(h:l.Sublist m) (r:Nat):bF l r<=bF m r:=h.countP_le
def nB {p:Pt}(h:au p=true) (r:Nat):bF [p] r=0:=by
 simp [bF,Q5,h]
def tM {p:Pt}(h:au p=false):bF [p] (at' p)=1:=by
 simp [bF,Q5,h]
def CM {p:Pt}{r:Nat}(h:at' p≠r):bF [p] r=0:=by
 simp [bF,Q5,h]
def wA {l:List Pt}{p:Pt}(hp:p∈l) (h:au p=false):0<bF l (at' p):=by
 unfold bF
 rw [List.countP_pos_iff]
 exact⟨p,hp,by simp [Q5,h]⟩
def adt (f:Pt->Bool) (l:List Pt) (r:Nat):bF (l.filter f) r<=bF l r:=WW List.filter_sublist r
def sB (s:ay) (r:Nat):Int:=nth ag s.refs r
structure Acc (s:ay) (O:Nat->Nat):Prop where
 wf:s.wf
 up:∀r,sB s r<=1000000
 cz:1<=s.cz/\s.cz<=1000000
 sl:∀r,((bF s.gone r+bF s.dead r+O r:Nat):Int)<=sB s r
 ok:∀p∈s.gone++s.dead,bc p=true/\au p=false
def Acc.mono {s:ay}{O O':Nat->Nat}(h:Acc s O) (hO:∀r,O' r<=O r):Acc s O':=
 ⟨h.wf,h.up,h.cz,λr=>by have:=h.sl r;have:=hO r;omega,h.ok⟩
def Kp (O:Nat->Nat) (s u:ay):Prop:=∀r,0<O r->nth ab u.rows r=nth ab s.rows r
theorem Kp.refl (O:Nat->Nat) (s:ay):Kp O s s:=λ_ _=>rfl
def Kp.trans {O:Nat->Nat}{a b c:ay}(h:Kp O a b) (h2:Kp O b c):Kp O a c:=λr hr=>(h2 r hr).trans (h r hr)
def Kp.mono {O O':Nat->Nat}{a b:ay}(h:Kp O a b) (hO:∀r,O' r<=O r):Kp O' a b:=λr hr=>h r (ZF8 hr (hO r))
structure eB (s u:ay):Prop where
 cz:u.cz=s.cz
 cm:u.cm=s.cm
 same:u.same=s.same
def eB.refl (s:ay):eB s s:=⟨rfl,rfl,rfl⟩
def eB.trans {a b c:ay}(h:eB a b) (h2:eB b c):eB a c:=⟨h2.cz.trans h.cz,h2.cm.trans h.cm,h2.same.trans h.same⟩
def jm {ek:EK}{l:List (EK.Ty ek)}{k r:Nat}{x:EK.Ty ek}(h:k≠r):nth ek (l.set k x) r=nth ek l r:=by
 unfold nth;rw [List.getElem?_set_ne h]
def oW {ek:EK}{l:List (EK.Ty ek)}{k:Nat}(h:l.length<=k):nth ek l k=EK.zero ek:=by
 unfold nth;rw [ZE1 h]
def LA {n:Int}(h0: -1000000000<=n) (h1:n<=1000000000):z8 n=n:=qo (by simp only [gz];omega) (by simp only [imax];omega)
def uD {p:Pt}(h:bc p=true):at' p<64:=by have:=px h;unfold at';omega
theorem H6 {s:ay}{O O':Nat->Nat}{p:Pt}(h:Acc s O) (hp:bc p=true) (hO:∀r,O' r+bF [p] r<=O r):Acc (dh s p) O'/\Kp O' s (dh s p)/\eB s (dh s p):=by
 have sG:=r4 (p:=p) h.wf
 cases hh:au p with
 |true=>
  rw [CG hh]
  exact⟨h.mono λr=>by have:=hO r;omega,Kp.refl _ _,eB.refl _⟩
 |false=>
  cases h1:decide (p.2.1<=s.cm) with
  |true=>
   rw [CJ hh h1] at sG ⊢
   refine⟨⟨sG,h.up,h.cz,λr=>?_,λq hq=>?_⟩,Kp.refl _ _,⟨ζ,ζ,ζ⟩⟩
   ·show ((bF s.gone r+bF (s.dead++[p]) r+O' r:Nat):Int)<=sB s r
    rw [bT];have:=h.sl r;have:=hO r;omega
   ·have hq:q∈s.gone++(s.dead++[p]):=hq
    rw [<-ZC5] at hq
    rcases ZB5.1 hq with hq |hq
    ·exact h.ok q hq
    ·rw [ZD0.1 hq];exact⟨hp,hh⟩
  |false=>
   cases h2:decide (p.2.1<s.cz) with
   |true=>
    rw [CH hh h1 h2] at sG ⊢
    refine⟨⟨sG,h.up,h.cz,λr=>?_,λq hq=>?_⟩,Kp.refl _ _,⟨ζ,ζ,ζ⟩⟩
    ·show ((bF (s.gone++[p]) r+bF s.dead r+O' r:Nat):Int)<=sB s r
     rw [bT];have:=h.sl r;have:=hO r;omega
    ·have hq:q∈(s.gone++[p])++s.dead:=hq
     simp only [ZB5,ZD0] at hq
     rcases hq with (hq |hq) |hq
     ·exact h.ok q (by simp [hq])
     ·rw [hq];exact⟨hp,hh⟩
     ·exact h.ok q (by simp [hq])
   |false=>
    rw [CI hh h1 h2] at sG ⊢
    have AH:=uD hp
    have hlen:at' p<s.refs.length:=by rw [h.wf.n.2.1];exact AH
    have hsl:=h.sl (at' p)
    have hOa:=hO (at' p)
    rw [tM hh] at hOa
    have hup:=h.up (at' p)
    have hw:z8 (sB s (at' p)-1)=sB s (at' p)-1:=LA (by omega) (by omega)
    have hrf:(gZ s p.1.toNat).refs=s.refs.set (at' p) (sB s (at' p)-1):=by
     show s.refs.set (at' p) (z8 (sB s (at' p)-1))=_
     rw [hw]
    have tJ:∀r,sB (gZ s p.1.toNat) r=sB s r-bF [p] r:=λr=>by
     show nth ag (gZ s p.1.toNat).refs r=nth ag s.refs r-_
     rw [hrf]
     by_cases e:at' p=r
     ·subst e;rw [oV (ek:=ag) hlen,tM hh];rfl
     ·rw [jm (ek:=ag) e,CM e];simp
    refine⟨⟨sG,λr=>?_,h.cz,λr=>?_,h.ok⟩,λr hr=>?_,⟨ζ,ζ,ζ⟩⟩
    ·rw [tJ];have:=h.up r;omega
    ·rw [tJ]
     show ((bF s.gone r+bF s.dead r+O' r:Nat):Int)<=_
     have:=h.sl r;have:=hO r;omega
    ·show nth ab (bif xc s p.1.toNat then s.rows.set p.1.toNat ByteArray.empty else s.rows) r=_
     cases hb:xc s p.1.toNat with
     |false=>rfl
     |true=>
      have hz:sB (gZ s p.1.toNat) (at' p)=0:=aF hb
      rw [tJ,tM hh] at hz
      by_cases e:at' p=r
      ·subst e;omega
      ·exact jm (ek:=ab) e
def CE:∀{l:List Pt}{s:ay}{O O':Nat->Nat},Acc s O->(∀p∈l,bc p=true)->(∀r,O' r+bF l r<=O r)->Acc (l.foldl dh s) O'/\Kp O' s (l.foldl dh s)/\eB s (l.foldl dh s)
 |[],s,O,O',h,_,hO=>⟨h.mono λr=>by have:=hO r;rw [ti] at this;omega,Kp.refl _ _,eB.refl _⟩
 |p::l,s,O,O',h,hl,hO=>by
  have h1:=H6 (O':=λr=>O' r+bF l r) h (hl p (by simp)) (λr=>by have:=hO r;rw [eA] at this;show O' r+bF l r+_<=_;omega)
  have h2:=CE (l:=l) (O':=O') h1.1 (λq hq=>hl q (by simp [hq])) (λr=>ZB0 _)
  exact⟨h2.1,(h1.2.1.mono λr=>ZD9 _ _).trans h2.2.1,h1.2.2.trans h2.2.2⟩
def O7:∀(f i:Nat) (rf:List Int),findF f i rf= -1\/nth ag rf (findF f i rf).toNat=0
 |0,_,_=>.inl rfl
 |f+1,i,rf=>by
  unfold findF
  cases hd:decide (nth ag rf i=0) with
  |true=>right;simp only [cond_true,ZA5];exact aF hd
  |false=>exact O7 f (i+1) rf
def N0:∀(f i:Nat) (s:ay) (text:ByteArray),uH f i s text= -1\/yl s text (uH f i s text).toNat=true
 |0,_,_,_=>.inl rfl
 |f+1,i,s,text=>by
  unfold uH
  cases hd:yl s text i with
  |true=>right;simp only [cond_true,ZA5];exact hd
  |false=>exact N0 f (i+1) s text
def T4 (s:ay) (text:ByteArray) (lv:Int):dK s text lv<0\/(8<=dK s text lv/\dK s text lv<64)/\(nth ag s.refs (dK s text lv).toNat=0\/nth ab s.rows (dK s text lv).toNat=text/\nth ag s.refs (dK s text lv).toNat<s.cz):=by
 have hf:pR s.refs<0\/(8<=pR s.refs/\pR s.refs<64)/\nth ag s.refs (pR s.refs).toNat=0:=by
  rcases aaT s.refs with h |h
  ·left;omega
  ·right
   refine⟨h,?_⟩
   rcases O7 56 8 s.refs with h2 |h2
   ·have:pR s.refs= -1:=h2
    omega
   ·exact h2
 have key:∀a,a=pR s.refs->a<0\/(8<=a/\a<64)/\(nth ag s.refs a.toNat=0\/nth ab s.rows a.toNat=text/\nth ag s.refs a.toNat<s.cz):=λa e=>by
  rw [e]
  rcases hf with h |h
  ·exact .inl h
  ·exact .inr ⟨h.1,.inl h.2⟩
 cases h1:s.same with
 |false=>exact key _ (ze h1)
 |true=>
  cases h2:decide (lv=0) with
  |false=>exact key _ (zf h2)
  |true=>
   cases h3:decide (sY s text<0) with
   |true=>exact key _ (zg h1 h2 h3)
   |false=>
    rw [FT h1 h2 h3]
    have h3:=aD h3
    right
    rcases aae s text with h |h
    ·omega
    ·refine⟨h,.inr ?_⟩
     rcases N0 56 8 s text with h4 |h4
     ·have:sY s text= -1:=h4
      omega
     ·have h4:yl s text (sY s text).toNat=true:=h4
      unfold yl at h4
      simp only [ZB1,decide_eq_true_eq] at h4
      exact⟨h4.1,h4.2.2⟩
structure apZ (s u:ay) (p:Pt) (text:ByteArray) (lv:Int):Prop where
 ok:bc p=true
 nh:au p=false
 lv:p.2.2.2.2=lv
 AO:p.2.1=s.cz
 row:nth ab u.rows (at' p)=text
 fits:iN p text=true
def K9 {s:ay}{O:Nat->Nat}{text:ByteArray}{lv:Int}(h:Acc s O) (hz:(bm s text lv).2.2=true):
  Acc (bm s text lv).1 (λr=>O r+bF [(bm s text lv).2.1] r)/\Kp O s (bm s text lv).1/\eB s (bm s text lv).1/\(bm s text lv).1.gone=s.gone/\(bm s text lv).1.dead=s.dead/\apZ s (bm s text lv).1 (bm s text lv).2.1 text lv:=by
 have sG:=FR (text:=text) (lv:=lv) h.wf
 cases hd:decide (dK s text lv<0) with
 |true=>rw [o8 rfl hd] at hz;cases hz
 |false=>
  cases h2: !(jQ (dK s text lv) s.cz lv text).2 with
  |true=>rw [nU rfl hd h2] at hz;cases hz
  |false=>
   rw [qB rfl hd h2] at sG ⊢
   have hd:=aD hd
   have h2:=qi h2
   have hw:=T4 s text lv
   generalize ha:dK s text lv=a at *
   have hpo:gC text.size 1 128=true/\bc (a,s.cz,(text.size:Int),vi text,lv)=true:=by
    cases hi:gC text.size 1 128 with
    |false=>rw [GX hi] at h2;cases h2
    |true=>cases hj:bc (a,s.cz,(text.size:Int),vi text,lv) with
     |false=>rw [GW hj] at h2;cases h2
     |true=>exact⟨rfl,rfl⟩
   rw [GV hpo.1 hpo.2] at *
   obtain⟨⟨h8,h64⟩,uN⟩:=hw.resolve_left hd
   have hnh:au (a,s.cz,(text.size:Int),vi text,lv)=false:=by
    unfold au;rw [decide_eq_false (by show¬a=0;omega)];rfl
   have hlr:a.toNat<s.refs.length:=by rw [h.wf.n.2.1];omega
   have bR:a.toNat<s.rows.length:=by rw [h.wf.n.1];omega
   have hup:=h.up a.toNat
   have hsl:=h.sl a.toNat
   have hw2:z8 (sB s a.toNat+1)=sB s a.toNat+1:=LA (by omega) (by omega)
   have uN:sB s a.toNat=0\/nth ab s.rows a.toNat=text/\sB s a.toNat<s.cz:=uN
   have tJ:∀r,sB (xn s text a.toNat) r=sB s r+bF [((a,s.cz,(text.size:Int),vi text,lv):Pt)] r:=λr=>by
    show nth ag (s.refs.set a.toNat (z8 (sB s a.toNat+1))) r=nth ag s.refs r+_
    rw [hw2]
    by_cases e:a.toNat=r
    ·subst e
     rw [oV (ek:=ag) hlr]
     rw [show bF [((a,s.cz,(text.size:Int),vi text,lv):Pt)] a.toNat=1 from tM hnh];rfl
    ·rw [jm (ek:=ag) e,CM (p:=(a,s.cz,(text.size:Int),vi text,lv)) e];simp
   refine⟨⟨sG,λr=>?_,h.cz,λr=>?_,h.ok⟩,λr hr=>?_,⟨ζ,ζ,ζ⟩,ζ,ζ,⟨hpo.2,hnh,ζ,ζ,?_,?_⟩⟩
   ·rw [tJ]
    by_cases e:a.toNat=r
    ·subst e
     rw [show bF [((a,s.cz,(text.size:Int),vi text,lv):Pt)] a.toNat=1 from tM hnh]
     have:=h.cz
     rcases uN with hc |hc<;>omega
    ·rw [CM (p:=(a,s.cz,(text.size:Int),vi text,lv)) e];have:=h.up r;omega
   ·rw [tJ]
    show ((bF s.gone r+bF s.dead r+(O r+bF [((a,s.cz,(text.size:Int),vi text,lv):Pt)] r):Nat):Int)<=_
    have:=h.sl r;omega
   ·show nth ab (s.rows.set a.toNat text) r=_
    by_cases e:a.toNat=r
    ·subst e
     rw [oV (ek:=ab) bR]
     rcases uN with hc |hc
     ·omega
     ·exact hc.1.symm
    ·exact jm (ek:=ab) e
   ·exact oV (ek:=ab) bR
   ·unfold iN
    rw [hpo.2,hnh]
    simp
end GL
namespace GL
abbrev lS (s:ay) (n:Nat) (p:Pt):List Pt:=(bl s p ((((n+1):Nat):Int))).1
def qQ (s:ay):Nat->Pt->Prop
 |0,p=>bc p=true/\(au p=false->p.2.2.2.2=0/\p.2.1<=s.cz/\(bB s p).2=true)
 |n+1,p=>bc p=true/\(au p=false->(bl s p ((((n+1):Nat):Int))).2=true)/\∀q∈lS s n p,qQ s n q
def iF (s:ay):Nat->Pt->List Pt
 |0,p=>[p]
 |n+1,p=>p::(lS s n p).flatMap (iF s n)
def AY (s:ay):Nat->Pt->List Pt
 |0,p=>[p]
 |n+1,p=>(lS s n p).flatMap (AY s n)
def xi (s:ay):Nat->Pt->List Pt
 |0,_=>[]
 |n+1,p=>p::(lS s n p).flatMap (xi s n)
theorem yM {f g h:Pt->List Pt}{r:Nat}:∀{l:List Pt},(∀q∈l,bF (f q) r=bF (g q) r+bF (h q) r)->bF (l.flatMap f) r=bF (l.flatMap g) r+bF (l.flatMap h) r
 |[],_=>rfl
 |q::l,hq=>by
  simp only [ZD1,bT]
  have h1:=hq q (by simp)
  have h2:=yM (l:=l) (λq h=>hq q (by simp [h]))
  omega
def gT {f:Pt->List Pt}{r:Nat}{q:Pt}:∀{l:List Pt},q∈l->bF (f q) r<=bF (l.flatMap f) r
 |p::l,hq=>by
  simp only [ZD1,bT]
  rcases ZB7.1 hq with rfl |hq
  ·omega
  ·have:=gT (f:=f) (r:=r) hq;omega
theorem ju {f g:Pt->List Pt}:∀{l:List Pt},(∀q∈l,f q=g q)->l.flatMap f=l.flatMap g
 |[],_=>rfl
 |q::l,h=>by
  simp only [ZD1]
  rw [h q (by simp),ju (l:=l) λq hq=>h q (by simp [hq])]
def nY (s:ay) (r:Nat):∀(n:Nat) (p:Pt),bF (iF s n p) r=bF (xi s n p) r+bF (AY s n p) r
 |0,p=>by show bF [p] r=bF [] r+bF [p] r;rw [ti];omega
 |n+1,p=>by
  show bF (p::(lS s n p).flatMap (iF s n)) r=bF (p::(lS s n p).flatMap (xi s n)) r+bF ((lS s n p).flatMap (AY s n)) r
  rw [eA,eA p ((lS s n p).flatMap (xi s n))]
  have:=yM (f:=iF s n) (g:=xi s n) (h:=AY s n) (r:=r) (l:=lS s n p) λq _=>nY s r n q
  omega
def su {s:ay}{n:Nat}{p:Pt}(h:au p=true):lS s n p=cL 4:=by show (bl s p _).1=_;rw [lG h]
def pW {s:ay}{p:Pt}{lv:Int}(h:au p=false) (h2:(bl s p lv).2=true):bc p=true/\p.2.2.2.2=lv/\p.2.1<=s.cz/\(bB s p).2=true/\bl s p lv=bw (bB s p).1/\(bw (bB s p).1).2=true/\(bw (bB s p).1).1.any (late p)=false:=by
 cases h1: !(bc p) with
 |true=>rw [P9 h h1] at h2;cases h2
 |false=>
  cases h3:decide (p.2.2.2.2≠lv) with
  |true=>rw [y0 h h3] at h2;cases h2
  |false=>
   cases h4:decide (p.2.1>s.cz) with
   |true=>rw [FA h h4] at h2;cases h2
   |false=>
    cases h5: !(bB s p).2 with
    |true=>rw [yZ h h1 h3 h4 h5] at h2;cases h2
    |false=>
     have e:=yY h h1 h3 h4 h5
     rw [e] at h2
     cases h6:(bw (bB s p).1).1.any (late p) with
     |true=>rw [y5 h6] at h2;cases h2
     |false=>
      rw [uY h6] at h2 e
      have h3:=aD h3
      have h4:=aD h4
      exact⟨qi h1,by omega,by omega,qi h5,e,h2,rfl⟩
def T2 {s:ay}{p:Pt}{lv:Int}(h:au p=false) (h1:bc p=true) (h2:p.2.2.2.2=lv) (h3:p.2.1<=s.cz) (h4:(bB s p).2=true) (h5:(bw (bB s p).1).1.any (late p)=false):bl s p lv=bw (bB s p).1:=by
 rw [yY h (by rw [h1];rfl) (decide_eq_false (by omega)) (decide_eq_false (by omega)) (by rw [h4];rfl),uY h5]
def qQ.pok {s:ay}{n:Nat}{p:Pt}(h:qQ s n p):bc p=true:=by cases n<;>exact h.1
def lH (s:ay):∀(n:Nat),qQ s n ch
 |0=>⟨by decide,λh=>by cases h⟩
 |n+1=>⟨by decide,(λh=>by cases h),λq hq=>by
   rw [su (by decide)] at hq
   rw [show q=ch from (ZE4.1 hq).2]
   exact lH s n⟩
def qQ.AO {s:ay}{n:Nat}{p:Pt}(h:qQ s n p) (ht:1<=s.cz):p.2.1<=s.cz:=by
 cases hh:au p with
 |true=>rw [gH hh];show (0:Int)<=_;omega
 |false=>
  cases n with
  |zero=>exact (h.2 hh).2.1
  |succ n=>exact (pW hh (h.2.1 hh)).2.2.1
def oe {s u:ay}{p:Pt}(h:au p=false->nth ab u.rows (at' p)=nth ab s.rows (at' p)):bB u p=bB s p:=by
 cases hh:au p with
 |true=>rw [fw hh,fw hh]
 |false=>
  have e:=h hh
  unfold bB
  rw [show nth ab u.rows p.1.toNat=nth ab s.rows p.1.toNat from e]
def JR {s u:ay}{p:Pt}{lv:Int}(ht:s.cz<=u.cz) (h:au p=false->nth ab u.rows (at' p)=nth ab s.rows (at' p)) (h2:au p=false->(bl s p lv).2=true):bl u p lv=bl s p lv:=by
 cases hh:au p with
 |true=>rw [lG hh,lG hh]
 |false=>
  obtain⟨h3,h4,h5,h6,h7,h8,h9⟩:=pW hh (h2 hh)
  have e:=oe h
  rw [h7,<-e]
  exact T2 hh h3 h4 (by omega) (by rw [e];exact h6) (by rw [e];exact h9)
def QJ {s u:ay}(ht:s.cz<=u.cz):∀{n:Nat}{p:Pt},qQ s n p->(∀q∈iF s n p,au q=false->nth ab u.rows (at' q)=nth ab s.rows (at' q))->qQ u n p/\iF u n p=iF s n p/\AY u n p=AY s n p/\xi u n p=xi s n p
 |0,p,h,hk=>by
  refine⟨⟨h.1,λhh=>?_⟩,ζ,ζ,ζ⟩
  have h2:=h.2 hh
  exact⟨h2.1,by omega,by rw [oe (s:=s) (u:=u) (p:=p) (λhh=>hk p (by simp [iF]) hh)];exact h2.2.2⟩
 |n+1,p,h,hk=>by
  have e:bl u p ((((n+1):Nat):Int))=bl s p ((((n+1):Nat):Int)):=JR ht (λhh=>hk p (by simp [iF]) hh) h.2.1
  have eb:lS u n p=lS s n p:=congrArg Prod.fst e
  have hq:∀q∈lS s n p,qQ u n q/\iF u n q=iF s n q/\AY u n q=AY s n q/\xi u n q=xi s n q:=λq hq=>
   QJ ht (h.2.2 q hq) λx hx hh=>hk x (by
    show x∈p::(lS s n p).flatMap (iF s n)
    exact ZI0 _ (List.mem_flatMap.2 ⟨q,hq,hx⟩)) hh
  refine⟨⟨h.1,λhh=>by rw [e];exact h.2.1 hh,λq hx=>?_⟩,?_,?_,?_⟩
  ·rw [eb] at hx;exact (hq q hx).1
  ·show p::(lS u n p).flatMap (iF u n)=p::(lS s n p).flatMap (iF s n)
   rw [eb,ju λq hx=>(hq q hx).2.1]
  ·show (lS u n p).flatMap (AY u n)=(lS s n p).flatMap (AY s n)
   rw [eb,ju λq hx=>(hq q hx).2.2.1]
  ·show p::(lS u n p).flatMap (xi u n)=p::(lS s n p).flatMap (xi s n)
   rw [eb,ju λq hx=>(hq q hx).2.2.2]
def wP {s u:ay}{O:Nat->Nat}{n:Nat}{p:Pt}(h:qQ s n p) (ht:s.cz<=u.cz) (hk:Kp O s u) (hO:∀r,bF (iF s n p) r<=O r):qQ u n p/\iF u n p=iF s n p/\AY u n p=AY s n p/\xi u n p=xi s n p:=
 QJ ht h λq hq hh=>hk _ (ZF8 (wA hq hh) (hO _))
def zq {u:ay}{p:Pt}{text:ByteArray}(hn:au p=false) (hr:nth ab u.rows (at' p)=text) (hf:iN p text=true):bB u p=(text,true):=by
 have hr:nth ab u.rows p.1.toNat=text:=hr
 rw [vD hn (by rw [hr];exact hf),hr]
def anE:∀{l:List Pt},l.length=4->ql l=true->l=cL 4
 |[a,b,c,d],_,h=>by
  unfold ql at h
  simp only [List.any_cons,List.any_nil,ZG6,ZD5,Bool.not_eq_false'] at h
  rw [gH h.1,gH h.2.1,gH h.2.2.1,gH h.2.2.2.1];rfl
structure arx (s:ay) (O:Nat->Nat) (n:Nat) (l:List Pt) (old:Pt) (u:ay) (p:Pt) (fr:List Pt):Prop where
 acc:Acc u (λr=>O r+bF fr r)
 kp:Kp O s u
 same:eB s u
 sub:qQ u (n+1) p
 lS:lS u n p=l
 num:∀r,bF [p] r<=bF fr r+bF (bif ptrEq p old then [p] else []) r
def agW {s:ay}{O:Nat->Nat}{n:Nat}{l:List Pt}{old:Pt}(h:Acc s O) (hl:l.length=4) (hs:∀q∈l,qQ s n q) (hc:∀r,bF (l.flatMap (iF s n)) r<=O r) (ho:qQ s (n+1) old) (hz:(eU s l ((((n+1):Nat):Int)) old).2.2=true):
  ∃fr,arx s O n l old (eU s l ((((n+1):Nat):Int)) old).1 (eU s l ((((n+1):Nat):Int)) old).2.1 fr:=by
 cases hn:ql l with
 |true=>
  rw [WR hn]
  refine⟨[],h.mono λr=>ZB0 _,Kp.refl _ _,eB.refl _,lH s (n+1),?_,λr=>?_⟩
  ·rw [su rfl,anE hl hn]
  ·rw [nB rfl];exact ZA7 _
 |false=>
  have aaB:(bN l).2=true:=yE hl (λp hp=>(hs p hp).pok) (by exact hn)
  have wk:=JL aaB
  cases hk:gX s l old with
  |true=>
   rw [WQ hn hk]
   have hk2:=hk
   unfold gX at hk2
   simp only [ZB1,ZG6,decide_eq_true_eq] at hk2
   obtain⟨hh,hf,agI⟩:=hk2
   have hb:=pW hh (ho.2.1 hh)
   have dM:bB s old=((bN l).1,true):=zq hh agI hf
   rw [dM] at hb
   refine⟨[],h.mono λr=>ZB0 _,Kp.refl _ _,eB.refl _,ho,?_,λr=>?_⟩
   ·show (bl s old _).1=l
    rw [hb.2.2.2.2.1,wk]
   ·rw [qD.2 rfl];show bF [old] r<=bF [] r+bF [old] r;omega
  |false=>
   rw [yF hn hk] at hz ⊢
   obtain⟨agP,hkp,OX,hg,hd,jV⟩:=K9 h hz
   generalize (bm s (bN l).1 ((((n+1):Nat):Int))).1=u at *
   generalize (bm s (bN l).1 ((((n+1):Nat):Int))).2.1=p at *
   have dM:bB u p=((bN l).1,true):=zq jV.nh jV.row jV.fits
   have apd:l.any (late p)=false:=by
    rw [List.any_eq_false]
    intro q hq
    have:=(hs q hq).AO h.cz.1
    have hb:=jV.AO
    simp only [late,decide_eq_true_eq];omega
   have hb:bl u p ((((n+1):Nat):Int))=(l,true):=by
    rw [T2 jV.nh jV.ok jV.lv (by rw [jV.AO,OX.cz];exact ZC1 _) (by rw [dM]) (by rw [dM,wk];exact apd),dM,wk]
   refine⟨[p],⟨agP,hkp,OX,⟨jV.ok,λ_=>by rw [hb],λq hq=>?_⟩,?_,λr=>ZD9 _ _⟩⟩
   ·have hq:q∈l:=by
     have hq:q∈(bl u p ((((n+1):Nat):Int))).1:=hq
     rw [hb] at hq;exact hq
    exact (wP (hs q hq) (by rw [OX.cz];exact ZC1 _) hkp λr=>ZA9 (gT hq) (hc r)).1
   ·show (bl u p ((((n+1):Nat):Int))).1=l
    rw [hb]
def tX (ks ws:List Pt):Prop:=∀f:Pt->Bool,ks.countP (λp=> !(au p)&&f p)<=ws.countP (λp=> !(au p)&&f p)
def tX.nil (ws:List Pt):tX [] ws:=λ_=>ZA7 _
def tX.append {a b c d:List Pt}(h:tX a b) (h2:tX c d):tX (a++c) (b++d):=λf=>by
 rw [List.countP_append,List.countP_append];have:=h f;have:=h2 f;omega
structure ap0 (s:ay) (O:Nat->Nat) (n:Nat) (l mj:List Pt) (u:ay) (ps ks fr:List Pt):Prop where
 acc:Acc u (λr=>O r+bF fr r)
 kp:Kp O s u
 same:eB s u
 sub:∀p∈ps,qQ u (n+1) p
 lS:ps.flatMap (lS u n)=l
 num:∀r,bF ps r<=bF fr r+bF ks r
 dom:tX ks mj
def apA {l:List Pt}{i m:Nat}(hl:l.length=4*m) (hi:i<m):tz l i++l.drop (4*(i+1))=l.drop (4*i)/\(tz l i).length=4:=by
 have e:tz l i=(l.drop (4*i)).take 4:=by
  unfold tz
  rw [show 0+((i:Int)*4).toNat=4*i by omega,show (((i:Int)+1)*4).toNat-((i:Int)*4).toNat=4 by omega]
 rw [e]
 refine⟨?_,by rw [ZB6,ZC8];omega⟩
 rw [show 4*(i+1)=4*i+4 by omega,<-ZH0,ZF3]
def wu {n:Nat}{mj l:List Pt}{m:Nat}(hl:l.length=4*m):∀{f:Nat}{s u:ay}{i:Nat}{nx sy nn y:List Pt}{O:Nat->Nat},iC f s ((((n+1):Nat):Int)) mj l i nx sy=(u,some (nn,y))->Acc s O->m<=i+f->i<=m->(∀q∈l.drop (4*i),qQ s n q)->(∀r,bF ((l.drop (4*i)).flatMap (iF s n)) r<=O r)->(∀j,qQ s (n+1) (nth ae mj j))->(∀j r,bF (iF s (n+1) (nth ae mj j)) r<=O r)->
  ∃ps ks fr,nn=nx++ps/\y=sy++ks/\ps.length=m-i/\ap0 s O n (l.drop (4*i)) (mj.drop i) u ps ks fr
 |0,s,u,i,nx,sy,nn,y,O,h,ha,hm,hi,hs,hc,hw,hwc=>by
  cases h
  have e:l.drop (4*i)=[]:=ZB3 (by omega)
  refine⟨[],[],[],by simp,by simp,by simp;omega,⟨ha.mono λr=>ZB0 _,Kp.refl _ _,eB.refl _,(λp hp=>by cases hp),by rw [e];rfl,λr=>ZA7 _,tX.nil _⟩⟩
 |f+1,s,u,i,nx,sy,nn,y,O,h,ha,hm,hi,hs,hc,hw,hwc=>by
  cases hcd:decide ((i:Int)*4<l.length) with
  |false=>
   have wZ:=aD hcd
   rw [iC,hcd] at h
   cases h
   have e:l.drop (4*i)=[]:=ZB3 (by omega)
   refine⟨[],[],[],by simp,by simp,by simp;omega,⟨ha.mono λr=>ZB0 _,Kp.refl _ _,eB.refl _,(λp hp=>by cases hp),by rw [e];rfl,λr=>ZA7 _,tX.nil _⟩⟩
  |true=>
   have bR:=aF hcd
   have him:i<m:=by omega
   rw [iC,hcd,cond_true] at h
   cases hz: !(eU s (tz l i) ((((n+1):Nat):Int)) (nth ae mj i)).2.2 with
   |true=>rw [hz] at h;cases h
   |false=>
    rw [hz,cond_false] at h
    obtain⟨hd1,hd2⟩:=apA hl him
    rw [<-hd1] at hs hc
    have hc1:∀r,bF ((tz l i).flatMap (iF s n)) r<=O r:=λr=>by
     have:=hc r;rw [ZG3,bT] at this;omega
    have hc2:∀r,bF ((l.drop (4*(i+1))).flatMap (iF s n)) r<=O r:=λr=>by
     have:=hc r;rw [ZG3,bT] at this;omega
    obtain⟨fr1,hF⟩:=agW ha hd2 (λq hq=>hs q (by simp [hq])) hc1 (hw i) (qi hz)
    generalize (eU s (tz l i) ((((n+1):Nat):Int)) (nth ae mj i)).1=s1 at *
    generalize (eU s (tz l i) ((((n+1):Nat):Int)) (nth ae mj i)).2.1=p at *
    have htx:s.cz<=s1.cz:=by rw [hF.same.cz];exact ZC1 _
    have hk2:∀q∈l.drop (4*(i+1)),qQ s1 n q/\iF s1 n q=iF s n q/\AY s1 n q=AY s n q/\xi s1 n q=xi s n q:=λq hq=>
     wP (hs q (by simp [hq])) htx hF.kp λr=>ZA9 (gT hq) (hc2 r)
    have hwk:∀j,qQ s1 (n+1) (nth ae mj j)/\iF s1 (n+1) (nth ae mj j)=iF s (n+1) (nth ae mj j)/\AY s1 (n+1) (nth ae mj j)=AY s (n+1) (nth ae mj j)/\xi s1 (n+1) (nth ae mj j)=xi s (n+1) (nth ae mj j):=λj=>
     wP (hw j) htx hF.kp (hwc j)
    have nv:=wu hl h hF.acc (by omega) (by omega) (λq hq=>(hk2 q hq).1) (λr=>by
     rw [ju λq hq=>(hk2 q hq).2.1]
     exact ZA9 (hc2 r) (ZD9 _ _)) (λj=>(hwk j).1) (λj r=>by rw [(hwk j).2.1];exact ZA9 (hwc j r) (ZD9 _ _))
    obtain⟨ps,ks,fr,e1,e2,e3,hR⟩:=nv
    have oC:∀q∈iF s1 (n+1) p,au q=false->0<O (at' q)+bF fr1 (at' q):=λq hq hh=>by
     have hq:q∈p::(lS s1 n p).flatMap (iF s1 n):=hq
     rcases ZB7.1 hq with rfl |hq
     ·have h1:=hF.num (at' q)
      rw [tM hh] at h1
      cases he:ptrEq q (nth ae mj i) with
      |false=>rw [he,cond_false,ti] at h1;omega
      |true=>
       rw [qD.1 he] at hh ⊢
       have h2:0<bF (iF s (n+1) (nth ae mj i)) (at' (nth ae mj i)):=wA (by simp [iF]) hh
       have:=hwc i (at' (nth ae mj i));omega
     ·rw [hF.lS] at hq
      obtain⟨x,hx,hxq⟩:=List.mem_flatMap.1 hq
      have e:=(wP (hs x (by simp [hx])) htx hF.kp λr=>ZA9 (gT hx) (hc1 r)).2.1
      rw [e] at hxq
      have h2:0<bF (iF s n x) (at' q):=wA hxq hh
      have h3:=gT (f:=iF s n) (r:=at' q) hx
      have:=hc1 (at' q);omega
    have htu:s1.cz<=u.cz:=by rw [hR.same.cz];exact ZC1 _
    have wX:=QJ htu hF.sub λq hq hh=>hR.kp _ (oC q hq hh)
    have agO:lS u n p=tz l i:=by
     have e:bl u p ((((n+1):Nat):Int))=bl s1 p ((((n+1):Nat):Int)):=JR htu (λhh=>hR.kp _ (oC p (by simp [iF]) hh)) hF.sub.2.1
     rw [<-hF.lS];exact congrArg Prod.fst e
    refine⟨p::ps,(bif ptrEq p (nth ae mj i) then [p] else [])++ks,fr1++fr,?_,?_,by rw [ZA1,e3];omega,⟨?_,?_,hF.same.trans hR.same,?_,?_,λr=>?_,?_⟩⟩
    ·rw [e1,ZC5];rfl
    ·rw [e2]
     cases ptrEq p (nth ae mj i) with
     |true=>simp only [cond_true,ZC5]
     |false=>simp only [cond_false,ZC9]
    ·exact hR.acc.mono λr=>by show O r+bF (fr1++fr) r<=O r+bF fr1 r+bF fr r;rw [bT];omega
    ·exact hF.kp.trans (hR.kp.mono λr=>ZD9 _ _)
    ·intro q hq
     rcases ZB7.1 hq with rfl |hq
     ·exact wX.1
     ·exact hR.sub q hq
    ·rw [ZD1,agO,hR.lS,hd1]
    ·have h1:=hF.num r
     have h2:=hR.num r
     rw [eA,bT,bT];omega
    ·have hd:tX (bif ptrEq p (nth ae mj i) then [p] else []) [nth ae mj i]:=by
      cases he:ptrEq p (nth ae mj i) with
      |false=>exact tX.nil _
      |true=>rw [qD.1 he];exact λf=>ZB0 _
     by_cases hiw:i<mj.length
     ·rw [bJ (ek:=ae) hiw]
      exact tX.append hd hR.dom
     ·have e0:mj.drop i=[]:=ZB3 (by omega)
      have e1:mj.drop (i+1)=[]:=ZB3 (by omega)
      have hz:nth ae mj i=ch:=oW (ek:=ae) (by omega)
      rw [e0]
      intro f
      have h1:=hd f
      have h2:=hR.dom f
      rw [e1] at h2
      rw [hz] at h1
      rw [List.countP_append]
      have h3:List.countP (λp=> !(au p)&&f p) [ch]=0:=by simp [show au ch=true by decide]
      rw [hz]
      omega
end GL
namespace GL
theorem s8:∀(l:List Pt),l.flatMap (λq=>[q])=l
 |[]=>rfl
 |q::l=>by rw [ZD1,s8 l];rfl
def ahx (s:ay) (l:List Pt):l.flatMap (iF s 0)=l:=s8 l
def aoq (s:ay) (l:List Pt):l.flatMap (AY s 0)=l:=s8 l
theorem adW (s:ay):∀(l:List Pt),l.flatMap (xi s 0)=[]
 |[]=>rfl
 |q::l=>by rw [ZD1,adW s l];rfl
theorem ahw (s:ay):∀(l:List Pt),l.flatMap (xi s 1)=l
 |[]=>rfl
 |q::l=>by
  rw [ZD1,ahw s l]
  show (q::(lS s 0 q).flatMap (xi s 0))++l=q::l
  rw [adW];rfl
def adV (s:ay) (q:Pt):AY s 1 q=lS s 0 q:=aoq s _
def B9 {f:Pt->List Pt}{m:Nat}(h:f ch=cL m):∀(n:Nat),(cL n).flatMap f=cL (n*m)
 |0=>by rw [ZH6];rfl
 |n+1=>by
  rw [show cL (n+1)=ch::cL n from rfl,ZD1,h,B9 h n]
  show List.replicate m ch++List.replicate (n*m) ch=List.replicate ((n+1)*m) ch
  rw [List.replicate_append_replicate];congr 1;rw [Nat.succ_mul];omega
def gA (n r:Nat):bF (cL n) r=0:=by
 unfold bF
 rw [List.countP_eq_zero]
 intro p hp
 rw [show p=ch from (ZE4.1 hp).2]
 simp [Q5,show au ch=true by rfl]
def LW (s:ay) (r:Nat):∀(n:Nat),bF (iF s n ch) r=0
 |0=>nB rfl r
 |n+1=>by
  show bF (ch::(lS s n ch).flatMap (iF s n)) r=0
  rw [eA,nB rfl,su rfl]
  have h:=LW s r n
  simp only [cL,List.replicate,ZD1,ZH5,bT,ti];omega
def ZA:∀(f:Nat) (l:List Pt),∃j,G8 f l=l++cL j
 |0,l=>⟨0,by simp [G8,cL]⟩
 |f+1,l=>by
  cases hc:decide ((l.length:Int) % 4≠0) with
  |false=>exact⟨0,by rw [ah1 hc];simp [cL]⟩
  |true=>
   obtain⟨j,hj⟩:=ZA f (l++[ch])
   exact⟨j+1,by rw [ah0 hc,hj,ZC5];rfl⟩
def Y8 (l:List Pt):∃j,fI l=l++cL j:=ZA 4 l
structure pX (s:ay) (t:bf) (d:Nat):Prop where
 dep:t.depth=((d:Nat):Int)
 le:d<=2
 snd:qQ s d t.root
def tX.trans {a b c:List Pt}(h:tX a b) (h2:tX b c):tX a c:=λf=>ZA9 (h f) (h2 f)
def tX.aaE (n:Nat) (w:List Pt):tX (cL n) w:=λf=>by
 rw [List.countP_eq_zero.2]
 ·exact ZA7 _
 ·intro p hp
  rw [show p=ch from (ZE4.1 hp).2]
  simp [show au ch=true by rfl]
def tX.bF {a b:List Pt}(h:tX a b) (r:Nat):bF a r<=bF b r:=by
 have:=h (λp=>decide (at' p=r))
 exact this
def ail {s:ay}{t:bf}{d dt lv:Nat}(ht:pX s t dt) (KS:lv+1=d\/lv+2=d) (hd:d<=2):∀q∈eE s t (((d:Nat):Int)) ((((lv+1):Nat):Int)),q=ch\/(qQ s (lv+1) q/\∀r,bF (iF s (lv+1) q) r<=bF (iF s dt t.root) r):=by
 intro q hq
 cases h1:decide (t.depth≠((d:Nat):Int)) with
 |true=>rw [HD h1] at hq;exact .inl (ZE4.1 hq).2
 |false=>
  have he:dt=d:=by have:=aD h1;have:=ht.dep;omega
  subst he
  cases h2:decide ((((lv+1):Nat):Int)=((dt:Nat):Int)) with
  |true=>
   rw [NA h1 h2] at hq
   have h2:=aF h2
   have e:dt=lv+1:=by omega
   subst e
   rw [ZD0.1 hq]
   exact .inr ⟨ht.snd,λr=>ZB0 _⟩
  |false=>
   have h2':=aD h2
   have e:dt=lv+1+1:=by omega
   subst e
   cases h3: !(bl s t.root ((((lv+1+1):Nat):Int))).2 with
   |true=>rw [VE h1 h2 h3] at hq;exact .inl (ZE4.1 hq).2
   |false=>
    rw [M9 h1 h2 h3] at hq
    refine .inr ⟨ht.snd.2.2 q hq,λr=>?_⟩
    show _<=bF (t.root::(lS s (lv+1) t.root).flatMap (iF s (lv+1))) r
    rw [eA]
    have:=gT (f:=iF s (lv+1)) (r:=r) (l:=lS s (lv+1) t.root) hq
    omega
def uB {s:ay}{t:bf}{d dt lv:Nat}(ht:pX s t dt) (KS:lv+1=d\/lv+2=d) (hd:d<=2) (j:Nat):qQ s (lv+1) (nth ae (eE s t (((d:Nat):Int)) ((((lv+1):Nat):Int))) j)/\∀r,bF (iF s (lv+1) (nth ae (eE s t (((d:Nat):Int)) ((((lv+1):Nat):Int))) j)) r<=bF (iF s dt t.root) r:=by
 by_cases hj:j<(eE s t (((d:Nat):Int)) ((((lv+1):Nat):Int))).length
 ·rcases ail ht KS hd _ (bS (ek:=ae) hj) with e |h
  ·rw [e];exact⟨lH _ _,λr=>by rw [LW];exact ZA7 _⟩
  ·exact h
 ·rw [show nth ae (eE s t (((d:Nat):Int)) ((((lv+1):Nat):Int))) j=ch from oW (ek:=ae) (by omega)]
  exact⟨lH _ _,λr=>by rw [LW];exact ZA7 _⟩
def tX.filter (l:List Pt):tX l (l.filter λp=> !(au p)):=λf=>by
 rw [List.countP_filter]
 refine ZA8 ?_
 congr 1
 funext p
 cases au p<;>cases f p<;>rfl
def tX.nh {p:Pt}(h:au p=true) (w:List Pt):tX [p] w:=λf=>by
 rw [show List.countP (λp=> !(au p)&&f p) [p]=0 by simp [h]];exact ZA7 _
def ain {s:ay}{t:bf}{dt:Nat}(ht:pX s t dt):tX (eE s t (((1:Nat):Int)) (((1:Nat):Int))) (bD s t):=by
 cases h1:decide (t.depth≠((1:Nat):Int)) with
 |true=>rw [HD h1];exact tX.aaE _ _
 |false=>
  have hd:=aD h1
  rw [NA h1 (decide_eq_true rfl)]
  cases hh:au t.root with
  |true=>exact tX.nh hh _
  |false=>
   rw [EI (decide_eq_false (by omega)) hh (decide_eq_false (by omega))]
   exact λf=>ZB0 _
def ZU {s s1:ay}{t:bf}{dt:Nat}(ht:pX s t dt):tX (eE s t (((2:Nat):Int)) (((1:Nat):Int))++eE s1 t (((2:Nat):Int)) (((2:Nat):Int))) (bD s t):=by
 cases h1:decide (t.depth≠((2:Nat):Int)) with
 |true=>rw [HD h1,HD h1];exact (tX.append (tX.aaE 4 []) (tX.aaE 4 (bD s t)))
 |false=>
  have hd:=aD h1
  rw [NA (s:=s1) h1 (decide_eq_true rfl)]
  cases hh:au t.root with
  |true=>
   refine tX.append (b:=[]) (d:=bD s t) ?_ (tX.nh hh _)
   rw [M9 h1 (by decide) (by rw [lG hh];rfl),lG hh]
   exact tX.aaE _ _
  |false=>
   rw [OS (decide_eq_false (by omega)) hh (decide_eq_true (by omega))]
   have hb:tX (eE s t (((2:Nat):Int)) (((1:Nat):Int))) ((bl s t.root 2).1.filter λp=> !(au p)):=by
    cases h3: !(bl s t.root (((2:Nat):Int))).2 with
    |true=>rw [VE h1 (by decide) h3];exact tX.aaE _ _
    |false=>rw [M9 h1 (by decide) h3];exact tX.filter _
   intro f
   have h:=hb f
   rw [List.countP_append,List.countP_cons,List.countP_cons,List.countP_nil]
   omega
def HW {s:ay}{t:bf}{dt:Nat}(ht:pX s t dt) (r:Nat):bF (xi s dt t.root) r=bF (bD s t) r:=by
 have hd:=ht.dep
 have hl:=ht.le
 match dt,hl with
 |0,_=>rw [OT (decide_eq_true hd)];rfl
 |1,_=>
  rw [show xi s 1 t.root=[t.root] by show t.root::_=_;rw [adW]]
  cases hh:au t.root with
  |true=>rw [EJ hh,nB hh];rfl
  |false=>rw [EI (decide_eq_false (by omega)) hh (decide_eq_false (by omega))]
 |2,_=>
  rw [show xi s 2 t.root=t.root::lS s 1 t.root by show t.root::(lS s 1 t.root).flatMap (xi s 1)=_;rw [ahw]]
  cases hh:au t.root with
  |true=>rw [EJ hh,eA,nB hh,su hh,gA];rfl
  |false=>
   rw [OS (decide_eq_false (by omega)) hh (decide_eq_true hd),eA,eA t.root (List.filter _ _)]
   congr 1
   show bF (bl s t.root 2).1 r=_
   unfold bF
   rw [List.countP_filter]
   congr 1
   funext p
   unfold Q5
   cases au p<;>simp
def akc {n:Int}(h:n<=1):bo n=((0:Nat):Int):=by unfold bo;rw [decide_eq_true h];rfl
def adp {n:Int}(h0:1<n) (h:n<=4):bo n=((1:Nat):Int):=by unfold bo;rw [decide_eq_false (by omega),decide_eq_true h];rfl
def ado {n:Int}(h0:4<n):bo n=((2:Nat):Int):=by unfold bo;rw [decide_eq_false (by omega),decide_eq_false (by omega)];rfl
structure arw (s:ay) (t:bf) (O:Nat->Nat) (l:List Pt) (d:Nat) (u:ay) (root:Pt) (st fr:List Pt):Prop where
 acc:Acc u (λr=>O r+bF fr r)
 kp:Kp O s u
 same:eB s u
 snd:qQ u d root
 lv:∃k,AY u d root=l++cL k
 num:∀r,bF (xi u d root) r<=bF fr r+bF st r
 dom:tX st (bD s t)
theorem vl (p:Pt):rootOf [p]=p:=rfl
def ags {s u:ay}{t:bf}{O:Nat->Nat}{l nn st:List Pt}{many:Int}{dt:Nat}(h:qf 3 s t (bo many) 1 l []=(u,some (nn,st))) (ha:Acc s O) (ht:pX s t dt) (wW:0<=many) (hm:many<=16) (hlen:l.length=many.toNat) (hs:∀q∈l,qQ s 0 q) (hc:∀r,bF (bD s t) r+bF l r<=O r) (ho:∀r,bF (iF s dt t.root) r<=O r):
  ∃d fr,bo many=((d:Nat):Int)/\d<=2/\arw s t O l d u (rootOf nn) st fr:=by
 have KR:∀j,∀q∈l++cL j,qQ s 0 q:=λj q hq=>by
  rcases ZB5.1 hq with hq |hq
  ·exact hs q hq
  ·rw [show q=ch from (ZE4.1 hq).2];exact lH s 0
 have hcl:∀r,bF l r<=O r:=λr=>by have:=hc r;omega
 have tU:=MY l
 obtain⟨j,hj⟩:=Y8 l
 by_cases h1:many<=1
 ·rw [akc h1] at h ⊢
  rw [VX (decide_eq_false (by decide))] at h
  cases h
  refine⟨0,[],ζ,by omega,⟨ha.mono λr=>ZB0 _,Kp.refl _ _,eB.refl _,?_,?_,λr=>ZA7 _,tX.nil _⟩⟩
  ·match l,hlen,hs with
   |[],_,_=>exact lH s 0
   |[p],_,hs=>exact hs p (by simp)
   |_::_::_,hl,_=>simp at hl;omega
  ·match l,hlen with
   |[],_=>exact⟨1,rfl⟩
   |[p],_=>exact⟨0,rfl⟩
   |_::_::_,hl=>simp at hl;omega
 ·by_cases h4:many<=4
  ·rw [adp (by omega) h4] at h ⊢
   cases hf:iC 5 s 1 (eE s t (((1:Nat):Int)) 1) (fI l) 0 [] [] with
   |mk s1 r1=>
    cases r1 with
    |none=>rw [VW (decide_eq_true (by decide)) hf] at h;cases h
    |some q=>
     obtain⟨n1,st1⟩:=q
     rw [VV (decide_eq_true (by decide)) hf,VX (decide_eq_false (by decide))] at h
     cases h
     have hl4:(fI l).length=4*1:=by rw [tU];omega
     have hR:=wu (n:=0) hl4 hf ha (by omega) (by omega) (by rw [Nat.mul_zero,ZD8,hj];exact KR j) (λr=>by
      rw [Nat.mul_zero,ZD8,hj,ahx,bT,gA];have:=hcl r;omega) (λi=>(uB (d:=1) (lv:=0) ht (.inl rfl) (by omega) i).1) (λi r=>ZA9 ((uB (d:=1) (lv:=0) ht (.inl rfl) (by omega) i).2 r) (ho r))
     obtain⟨ps,ks,fr,e1,e2,e3,hR⟩:=hR
     rw [Nat.mul_zero,ZD8,ZD8] at hR
     match ps,e3 with
     |[p],_=>
      rw [e1,e2]
      simp only [ZC9]
      have hb:=hR.lS
      rw [ZD1,ZH5,ZD4] at hb
      refine⟨1,fr,ζ,by omega,⟨hR.acc,hR.kp,hR.same,hR.sub p (by simp),⟨j,?_⟩,λr=>?_,hR.dom.trans (ain ht)⟩⟩
      ·rw [vl,adV,hb,hj]
      ·rw [vl,show xi u 1 p=[p] by show p::(lS u 0 p).flatMap (xi u 0)=[p];rw [adW]]
       exact hR.num r
  ·rw [ado (by omega)] at h ⊢
   cases hf:iC 5 s 1 (eE s t (((2:Nat):Int)) 1) (fI l) 0 [] [] with
   |mk s1 r1=>
    cases r1 with
    |none=>rw [VW (decide_eq_true (by decide)) hf] at h;cases h
    |some q=>
     obtain⟨n1,st1⟩:=q
     rw [VV (decide_eq_true (by decide)) hf,show (1:Int)+1=2 from rfl] at h
     obtain⟨m1,CB,hm2,hl4⟩:∃m,2<=m/\m<=4/\(fI l).length=4*m:=⟨(l.length+3) / 4,by omega,by omega,by rw [tU];omega⟩
     have hR:=wu (n:=0) hl4 hf ha (by omega) (by omega) (by rw [Nat.mul_zero,ZD8,hj];exact KR j) (λr=>by
      rw [Nat.mul_zero,ZD8,hj,ahx,bT,gA];have:=hcl r;omega) (λi=>(uB (d:=2) (lv:=0) ht (.inr rfl) (by omega) i).1) (λi r=>ZA9 ((uB (d:=2) (lv:=0) ht (.inr rfl) (by omega) i).2 r) (ho r))
     obtain⟨ps,ks,fr,e1,e2,e3,hR⟩:=hR
     rw [Nat.mul_zero,ZD8,ZD8] at hR
     simp only [ZC9] at e1 e2
     subst e1 e2
     have aqS:=MY n1
     obtain⟨j2,CC⟩:=Y8 n1
     have aq5:(fI n1).length=4*1:=by rw [aqS];omega
     cases hf2:iC 5 s1 2 (eE s1 t (((2:Nat):Int)) 2) (fI n1) 0 [] st1 with
     |mk s2 r2=>
      cases r2 with
      |none=>rw [VW (decide_eq_true (by decide)) hf2] at h;cases h
      |some q2=>
       obtain⟨n2,st2⟩:=q2
       rw [VV (decide_eq_true (by decide)) hf2,VX (decide_eq_false (by decide))] at h
       cases h
       have htx:s.cz<=s1.cz:=by rw [hR.same.cz];exact ZC1 _
       have aeG:=wP ht.snd htx hR.kp ho
       have ht1:pX s1 t dt:=⟨ht.dep,ht.le,aeG.1⟩
       have amw:∀q∈fI n1,qQ s1 1 q:=λq hq=>by
        rw [CC] at hq
        rcases ZB5.1 hq with hq |hq
        ·exact hR.sub q hq
        ·rw [show q=ch from (ZE4.1 hq).2];exact lH s1 1
       have hA1:∀(x:ay) (m:List Pt) (r:Nat),bF (m.flatMap (iF x 1)) r=bF m r+bF (m.flatMap (lS x 0)) r:=λx m r=>by
        have:=yM (f:=iF x 1) (g:=λq=>[q]) (h:=lS x 0) (r:=r) (l:=m) λq _=>by
         show bF (q::(lS x 0 q).flatMap (iF x 0)) r=_
         rw [ahx,eA]
        rw [this,s8]
       have apk:∀r,bF ((fI n1).flatMap (iF s1 1)) r<=O r+bF fr r:=λr=>by
        rw [hA1,CC,ZG3,bT,bT,hR.lS,gA,hj,bT,gA]
        rw [B9 (f:=lS s1 0) (m:=4) (su rfl),gA]
        have h1:=hR.num r
        have h2:=(hR.dom.trans (tX.trans (b:=eE s t (((2:Nat):Int)) (((1:Nat):Int))++eE s t (((2:Nat):Int)) (((2:Nat):Int))) (λf=>by rw [List.countP_append];exact ZD9 _ _) (ZU ht))).bF r
        have h3:=hc r
        omega
       have hR2:=wu (n:=1) aq5 hf2 hR.acc (by omega) (by omega) (by rw [Nat.mul_zero,ZD8];exact amw) (λr=>by
        rw [Nat.mul_zero,ZD8];exact apk r) (λi=>(uB (d:=2) (lv:=1) ht1 (.inl rfl) (by omega) i).1) (λi r=>by
        have h1:=(uB (d:=2) (lv:=1) ht1 (.inl rfl) (by omega) i).2 r
        rw [aeG.2.1] at h1
        have:=ho r
        exact ZA9 h1 (by omega))
       obtain⟨ps2,ks2,fr2,e21,e22,e23,hR2⟩:=hR2
       rw [Nat.mul_zero,ZD8,ZD8] at hR2
       match ps2,e23 with
       |[p2],_=>
        rw [e21,e22]
        simp only [ZC9]
        have hb:=hR2.lS
        rw [ZD1,ZH5,ZD4] at hb
        have aqJ:s1.cz<=u.cz:=by rw [hR2.same.cz];exact ZC1 _
        have hk1:∀q∈fI n1,AY u 1 q=AY s1 1 q:=λq hq=>
         (wP (amw q hq) aqJ hR2.kp λr=>ZA9 (gT hq) (apk r)).2.2.1
        refine⟨2,fr++fr2,ζ,by omega,⟨?_,?_,hR.same.trans hR2.same,hR2.sub p2 (by simp),⟨j+j2*4,?_⟩,λr=>?_,?_⟩⟩
        ·exact hR2.acc.mono λr=>by show O r+bF (fr++fr2) r<=O r+bF fr r+bF fr2 r;rw [bT];omega
        ·exact hR.kp.trans (hR2.kp.mono λr=>ZD9 _ _)
        ·rw [vl]
         show (lS u 1 p2).flatMap (AY u 1)=_
         rw [hb,ju hk1,ju λq _=>adV s1 q,CC,ZG3,hR.lS,hj,B9 (f:=lS s1 0) (m:=4) (su rfl),ZC5]
         congr 1
         show List.replicate j ch++List.replicate (j2*4) ch=_
         rw [List.replicate_append_replicate];rfl
        ·rw [vl,show xi u 2 p2=p2::fI n1 by show p2::(lS u 1 p2).flatMap (xi u 1)=_;rw [ahw,hb]]
         rw [eA,CC,bT,gA,bT,bT]
         have h1:=hR.num r
         have h2:=hR2.num r
         omega
        ·exact (tX.append hR.dom hR2.dom).trans (ZU ht)
end GL
namespace GL
def qQ.bt {s:ay}{n:Nat}{p:Pt}(h:qQ s (n+1) p):(bl s p ((((n+1):Nat):Int))).2=true:=by
 cases hh:au p with
 |true=>rw [lG hh]
 |false=>exact h.2.1 hh
def zk {s:ay}{n:Nat}:∀{l acc:List Pt},(∀q∈l,qQ s (n+1) q)->fj s ((((n+1):Nat):Int)) l acc=some (acc++l.flatMap (lS s n))
 |[],acc,_=>by rw [ZH5,ZD4];rfl
 |p::l,acc,h=>by
  rw [KD (by rw [(h p (by simp)).bt];rfl),zk λq hq=>h q (by simp [hq]),ZD1,ZC5]
def K5 {s:ay}{n:Nat}{p:Pt}(h:qQ s (n+1) p):(lS s n p).length=4:=(gU s p ((((n+1):Nat):Int))).2 h.bt
theorem aaQ {s:ay}{n:Nat}:∀{l:List Pt},(∀q∈l,qQ s (n+1) q)->(l.flatMap (lS s n)).length=4*l.length
 |[],_=>rfl
 |p::l,h=>by
  rw [ZD1,ZA0,K5 (h p (by simp)),aaQ λq hq=>h q (by simp [hq]),ZA1];omega
def aop (s:ay) (p:Pt):AY s 2 p=(lS s 1 p).flatMap (lS s 0):=by
 show (lS s 1 p).flatMap (AY s 1)=_
 rw [ju λq _=>adV s q]
def I8 {s:ay}{t:bf}{d:Nat}(h:pX s t d):bh s t=(AY s d t.root,true)/\(AY s d t.root).length=4 ^ d:=by
 have hd:=h.dep
 have hl:=h.le
 have hs:=h.snd
 unfold bh
 rw [hd]
 match d,hl with
 |0,_=>exact⟨rV (by decide),rfl⟩
 |1,_=>
  have h1:=zk (s:=s) (n:=0) (l:=[t.root]) (acc:=[]) (λq hq=>by rw [ZD0.1 hq];exact hs)
  rw [tH (by decide) h1,rV (by decide),adV]
  rw [ZC9,ZD1,ZH5,ZD4]
  exact⟨rfl,K5 hs⟩
 |2,_=>
  have h1:=zk (s:=s) (n:=1) (l:=[t.root]) (acc:=[]) (λq hq=>by rw [ZD0.1 hq];exact hs)
  rw [ZC9,ZD1,ZH5,ZD4] at h1
  have h2:=zk (s:=s) (n:=0) (l:=lS s 1 t.root) (acc:=[]) hs.2.2
  rw [tH (by decide) h1,show (((2:Nat):Int)-1)=(((0+1):Nat):Int) from rfl,tH (by decide) h2,rV (by decide),aop,ZC9]
  refine⟨ζ,?_⟩
  rw [aaQ hs.2.2,K5 hs]
def nV {s:ay}{t:bf}{d:Nat}(h:pX s t d):aH s t=AY s d t.root++cL (16-4 ^ d):=by
 have ⟨h1,h2⟩:=I8 h
 unfold aH
 rw [h1]
 simp only
 rw [h2];congr 2;omega
def pX.trd {s:ay}{t:bf}{d:Nat}(h:pX s t d):t.rd:=⟨by have:=h.dep;have:=h.le;omega,h.snd.pok⟩
def CF {st:List Pt}:∀{l:List Pt}{s:ay}{O X:Nat->Nat},Acc s O->(∀p∈l,bc p=true)->(∀r,X r+bF (l.filter λo=> !(iZ st o)) r<=O r)->Acc (eL l st s) X/\Kp X s (eL l st s)/\eB s (eL l st s)
 |[],s,O,X,h,_,hO=>⟨h.mono λr=>by have:=hO r;omega,Kp.refl _ _,eB.refl _⟩
 |o::l,s,O,X,h,hl,hO=>by
  cases hk:iZ st o with
  |true=>
   rw [aaK hk]
   exact CF h (λp hp=>hl p (by simp [hp])) λr=>by
    have:=hO r
    rw [List.filter_cons_of_neg (by rw [hk];decide)] at this
    exact this
  |false=>
   rw [aaL hk]
   have h1:=H6 (O':=λr=>X r+bF (l.filter λo=> !(iZ st o)) r) h (hl o (by simp)) (λr=>by
    have:=hO r
    rw [List.filter_cons_of_pos (by rw [hk];rfl),eA] at this
    show X r+_+_<=_;omega)
   have h2:=CF (X:=X) h1.1 (λp hp=>hl p (by simp [hp])) λr=>ZB0 _
   exact⟨h2.1,(h1.2.1.mono λr=>ZD9 _ _).trans h2.2.1,h1.2.2.trans h2.2.2⟩
theorem TT (f:Pt->Bool) (r:Nat):∀(l:List Pt),bF l r=bF (l.filter f) r+bF (l.filter λo=> !(f o)) r
 |[]=>rfl
 |o::l=>by
  have ih:=TT f r l
  rw [eA]
  cases h:f o with
  |true=>rw [List.filter_cons_of_pos h,List.filter_cons_of_neg (by rw [h];decide),eA o (l.filter f)];omega
  |false=>rw [List.filter_cons_of_neg (by rw [h];decide),List.filter_cons_of_pos (by rw [h];rfl),eA o (l.filter _)];omega
def aiU {st:List Pt}{p:Pt}(h:p∈st):iZ st p=true:=by
 unfold iZ
 rw [List.any_eq_true]
 exact⟨p,h,qD.2 rfl⟩
def akT {st inner:List Pt}(h:tX st inner) (r:Nat):bF st r<=bF (inner.filter (iZ st)) r:=by
 have h1:=h (λp=>decide (at' p=r)&&iZ st p)
 have e1:st.countP (λp=> !(au p)&&(decide (at' p=r)&&iZ st p))=bF st r:=by
  unfold bF
  refine List.countP_congr λp hp=>?_
  unfold Q5
  rw [aiU hp,Bool.and_true]
 have e2:inner.countP (λp=> !(au p)&&(decide (at' p=r)&&iZ st p))=bF (inner.filter (iZ st)) r:=by
  unfold bF
  rw [List.countP_filter]
  congr 1
  funext p
  unfold Q5
  rw [Bool.and_assoc]
 omega
structure Laid (s:ay) (Y:Nat->Nat) (l:List Pt) (many:Int) (u:ay) (t':bf) (d:Nat):Prop where
 tm:pX u t' d
 dm:bo many=((d:Nat):Int)
 many:t'.many=many
 lv:∃k,AY u d t'.root=l++cL k
 acc:Acc u (λr=>Y r+bF (xi u d t'.root) r)
 kp:Kp Y s u
 same:eB s u
def SF {s:ay}{t:bf}{L:List Pt}{many:Int}{O Y:Nat->Nat}{dt:Nat}(ha:Acc s O) (ht:pX s t dt) (wW:0<=many) (hm:many<=16) (hL:many.toNat<=L.length) (hs:∀q∈L.take many.toNat,qQ s 0 q) (hY:∀r,Y r+bF (bD s t) r<=O r) (hYl:∀r,bF (L.take many.toNat) r<=Y r) (ho:∀r,bF (iF s dt t.root) r<=O r) (hz:(ck s t L many).2.2=true):
  ∃d,Laid s Y (L.take many.toNat) many (ck s t L many).1 (ck s t L many).2.1 d:=by
 unfold ck at hz ⊢
 cases hf:qf 3 s t (bo many) 1 (L.take many.toNat) [] with
 |mk u r=>
  rw [hf] at hz
  cases r with
  |none=>cases hz
  |some q=>
   obtain⟨nn,st⟩:=q
   obtain⟨d,fr,hd,hd2,hR⟩:=ags hf ha ht wW hm (by rw [ZB6];omega) hs (λr=>by have:=hY r;have:=hYl r;omega) ho
   show∃d,Laid s Y (L.take many.toNat) many (eL (bD s t) st u) (R5 (rootOf nn) (bo many) many) d
   obtain⟨k,hk⟩:=hR.lv
   have hX:=CF (st:=st) (l:=bD s t) (X:=λr=>Y r+bF ((bD s t).filter (iZ st)) r+bF fr r) hR.acc (SU ht.trd) λr=>by
    have:=hY r
    have:=TT (iZ st) r (bD s t)
    show Y r+_+_+_<=O r+bF fr r
    omega
   have alx:∀r,bF (xi u d (rootOf nn)) r<=bF fr r+bF ((bD s t).filter (iZ st)) r:=λr=>by
    have:=hR.num r
    have:=akT hR.dom r
    omega
   have wX:=wP hR.snd (by rw [hX.2.2.cz];exact ZC1 _) hX.2.1 λr=>by
    rw [nY,hk,bT,gA]
    have:=alx r
    have:=hYl r
    show _<=Y r+_+_
    omega
   refine⟨d,⟨⟨hd,hd2,wX.1⟩,hd,ζ,⟨k,?_⟩,?_,?_,hR.same.trans hX.2.2⟩⟩
   ·show AY (eL (bD s t) st u) d (rootOf nn)=_
    rw [wX.2.2.1,hk]
   ·refine hX.1.mono λr=>?_
    show Y r+bF (xi (eL (bD s t) st u) d (rootOf nn)) r<=_
    rw [wX.2.2.2]
    have:=alx r
    show _<=Y r+_+_
    omega
   ·exact (hR.kp.mono λr=>by have:=hY r;omega).trans (hX.2.1.mono λr=>by show _<=Y r+_+_;omega)
end GL
namespace GL
structure Tree (s:ay) (t:bf) (d:Nat):Prop where
 tm:pX s t d
 m0:0<=t.many
 m1:t.many<=16
 dm:bo t.many=((d:Nat):Int)
 tail:∀i,t.many.toNat<=i->au (nth ae (aH s t) i)=true
def Tree.ok {s:ay}{t:bf}{d:Nat}(h:Tree s t d):t.ok:=⟨h.tm.trd,h.m0,h.m1⟩
def aem {l m:List Pt}{i:Nat}(h:l.length<=i):nth ae (l++m) i=nth ae m (i-l.length):=by
 unfold nth;rw [ZD2 h]
def HJ (n i:Nat):nth ae (cL n) i=ch:=by
 by_cases h:i<(cL n).length
 ·exact (ZE4.1 (bS (ek:=ae) h)).2
 ·exact oW (ek:=ae) (by omega)
def SX (a b:Nat):cL a++cL b=cL (a+b):=by
 unfold cL;rw [List.replicate_append_replicate]
def agJ (n:Nat):(cL n).length=n:=ZF9
def Laid.wide {s:ay}{Y:Nat->Nat}{l:List Pt}{many:Int}{u:ay}{t':bf}{d:Nat}(h:Laid s Y l many u t' d):aH u t'=l++cL (16-l.length)/\l.length<=16:=by
 obtain⟨k,hk⟩:=h.lv
 have hw:=nV h.tm
 have hl:=ic (s:=u) h.tm.trd
 rw [hw,hk,ZC5,SX] at hl
 rw [ZA0,agJ] at hl
 refine⟨?_,by omega⟩
 rw [hw,hk,ZC5,SX]
 congr 2;omega
def Laid.tree {s:ay}{Y:Nat->Nat}{l:List Pt}{many:Int}{u:ay}{t':bf}{d:Nat}(h:Laid s Y l many u t' d) (h0:0<=many) (h1:many<=16) (hl:l.length=many.toNat):Tree u t' d:=by
 refine⟨h.tm,by rw [h.many];exact h0,by rw [h.many];exact h1,by rw [h.many];exact h.dm,λi hi=>?_⟩
 rw [h.many] at hi
 rw [h.wide.1,aem (by omega),HJ];rfl
def QI {s:ay}:∀{n:Nat}{p q:Pt},qQ s n p->q∈AY s n p->qQ s 0 q
 |0,p,q,h,hq=>by rw [ZD0.1 (show q∈[p] from hq)];exact h
 |n+1,p,q,h,hq=>by
  obtain⟨x,hx,hxq⟩:=List.mem_flatMap.1 (show q∈(lS s n p).flatMap (AY s n) from hq)
  exact QI (h.2.2 x hx) hxq
def xq {s:ay}{t:bf}{d:Nat}(h:pX s t d):∀q∈aH s t,qQ s 0 q:=λq hq=>by
 rw [nV h] at hq
 rcases ZB5.1 hq with hq |hq
 ·exact QI h.snd hq
 ·rw [show q=ch from (ZE4.1 hq).2];exact lH s 0
def LD {s:ay}{t:bf}{d:Nat}(h:pX s t d) (r:Nat):bF (iF s d t.root) r=bF (bD s t) r+bF (aH s t) r:=by
 rw [nY,HW h,nV h,bT,gA];omega
def XB {s u:ay}{t:bf}{d:Nat}{O:Nat->Nat}(h:pX s t d) (ht:s.cz<=u.cz) (hk:Kp O s u) (hO:∀r,bF (iF s d t.root) r<=O r):pX u t d/\iF u d t.root=iF s d t.root/\aH u t=aH s t/\∀r,bF (bD u t) r=bF (bD s t) r:=by
 have hs:=wP h.snd ht hk hO
 have h':pX u t d:=⟨h.dep,h.le,hs.1⟩
 refine⟨h',hs.2.1,by rw [nV h',nV h,hs.2.2.1],λr=>?_⟩
 rw [<-HW h',<-HW h,hs.2.2.2]
def FK {s u:ay}{t:bf}{d:Nat}{O:Nat->Nat}(h:Tree s t d) (ht:s.cz<=u.cz) (hk:Kp O s u) (hO:∀r,bF (iF s d t.root) r<=O r):Tree u t d/\iF u d t.root=iF s d t.root/\aH u t=aH s t:=by
 have h':=XB h.tm ht hk hO
 exact⟨⟨h'.1,h.m0,h.m1,h.dm,by rw [h'.2.2.1];exact h.tail⟩,h'.2.1,h'.2.2.1⟩
def ae9 {p:Pt}{r:Nat}:∀{l:List Pt}{k:Nat},k<l.length->bF (l.set k p) r+bF [nth ae l k] r=bF l r+bF [p] r
 |q::l,0,_=>by
  show bF (p::l) r+bF [q] r=_
  rw [eA p l,eA q l];omega
 |q::l,k+1,h=>by
  have ih:=ae9 (p:=p) (r:=r) (l:=l) (k:=k) (by simp at h;omega)
  show bF (q::l.set k p) r+bF [nth ae l k] r=_
  rw [eA q (l.set k p),eA q l];omega
def akm (l:List Pt) (n r:Nat):bF (l.take n) r<=bF l r:=WW (List.take_sublist n l) r
def vZ {l:List Pt}{k n:Nat}{p q:Pt}(h:q∈(l.set k p).take n):q=p\/q∈l:=by
 rcases List.mem_or_eq_of_mem_set (ZE5 h) with h |h
 ·exact .inr h
 ·exact .inl h
def GU {s:ay}{t:bf}{L:List Pt}{k:Nat}{p old:Pt}{many:Int}{O X:Nat->Nat}{dt:Nat}(ha:Acc s O) (ht:pX s t dt) (wW:0<=many) (hm:many<=16) (hL:L.length=16) (hold:bc old=true) (hs:∀q∈(L.set k p).take many.toNat,qQ s 0 q)
  (hX:∀r,X r+bF ((L.set k p).take many.toNat) r+bF (bif ptrEq p old then [] else [old]) r+bF (bD s t) r<=O r) (ho:∀r,bF (iF s dt t.root) r<=O r) (hz:(um s t L k p many old).2.2=true):
  ∃d,Laid s (λr=>X r+bF ((L.set k p).take many.toNat) r) ((L.set k p).take many.toNat) many (um s t L k p many old).1 (um s t L k p many old).2.1 d:=by
 unfold um at hz ⊢
 cases hl: !(ck s t (L.set k p) many).2.2 with
 |true=>rw [hl] at hz;cases hz
 |false=>
  have aq4:=SF (L:=L.set k p) (Y:=λr=>X r+bF ((L.set k p).take many.toNat) r+bF (bif ptrEq p old then [] else [old]) r) ha ht wW hm (by rw [ZC6];omega) hs hX (λr=>by show _<=X r+_+_;omega) ho (qi hl)
  obtain⟨d,hd⟩:=aq4
  refine⟨d,?_⟩
  simp only [cond_false]
  generalize (ck s t (L.set k p) many).1=u at *
  generalize (ck s t (L.set k p) many).2.1=t' at *
  cases he:ptrEq p old with
  |true=>
   rw [he] at hd
   show Laid s _ _ many u t' d
   exact⟨hd.tm,hd.dm,hd.many,hd.lv,hd.acc.mono λr=>by show X r+_+_<=X r+_+bF [] r+_;rw [ti];omega,hd.kp.mono λr=>ZD9 _ _,hd.same⟩
  |false=>
   rw [he] at hd
   show Laid s _ _ many (dh u old) t' d
   have hf:=H6 (p:=old) (O':=λr=>X r+bF ((L.set k p).take many.toNat) r+bF (xi u d t'.root) r) hd.acc hold (λr=>by
    show X r+_+_+_<=X r+_+bF [old] r+_;omega)
   obtain⟨j,hj⟩:=hd.lv
   have hk:=XB hd.tm (Int.le_of_eq hf.2.2.cz.symm) hf.2.1 λr=>by
    rw [nY,hj,bT,gA]
    show _<=X r+_+_;omega
   have hks:=wP hd.tm.snd (by rw [hf.2.2.cz];exact ZC1 _) hf.2.1 λr=>by
    rw [nY,hj,bT,gA]
    show _<=X r+_+_;omega
   exact⟨hk.1,hd.dm,hd.many,⟨j,by rw [hks.2.2.1,hj]⟩,by rw [hks.2.2.2];exact hf.1,(hd.kp.mono λr=>ZD9 _ _).trans (hf.2.1.mono λr=>ZD9 _ _),hd.same.trans hf.2.2⟩
structure aoj (s:ay) (t:bf) (X:Nat->Nat) (k:Nat) (text:ByteArray) (many:Int) (u:ay) (t':bf) (d:Nat):Prop where
 tree:Tree u t' d
 acc:Acc u (λr=>X r+bF (iF u d t'.root) r)
 kp:Kp X s u
 same:eB s u
 many:t'.many=many
 get:∀j,j<16->getM u t' j=if j=k then text else getM s t j
def D4 {l:List Pt}{n i:Nat}(h:i<n):nth ae (l.take n) i=nth ae l i:=by
 unfold nth;rw [ZH7 h]
def BX {l m:List Pt}{i:Nat}(h:i<l.length):nth ae (l++m) i=nth ae l i:=by
 unfold nth;rw [ZC3 h]
def Laid.put {s0 s:ay}{t:bf}{X:Nat->Nat}{k:Nat}{p:Pt}{many:Int}{u:ay}{t':bf}{d dt:Nat}{text:ByteArray}(h:Laid s (λr=>X r+bF (((aH s0 t).set k p).take many.toNat) r) (((aH s0 t).set k p).take many.toNat) many u t' d) (ht:pX s0 t dt) (wW:0<=many) (hm:many<=16) (hk:k<16) (hkm:(k:Int)<many) (htl:∀i,many.toNat<=i->au (nth ae (aH s0 t) i)=true) (hX:Kp X s0 s) (hS:eB s0 s) (hr:(bB s p).1=text) (hq:∀j,j≠k->au (nth ae (aH s0 t) j)=false->bB s (nth ae (aH s0 t) j)=bB s0 (nth ae (aH s0 t) j)):aoj s0 t X k text many u t' d:=by
 have hlen:=ic (s:=s0) ht.trd
 have hl:(((aH s0 t).set k p).take many.toNat).length=many.toNat:=by rw [ZB6,ZC6];omega
 have hT:=h.tree wW hm hl
 have hw:=h.wide.1
 have AH:∀j,j<many.toNat->nth ae (aH u t') j=nth ae ((aH s0 t).set k p) j:=λj hj=>by
  rw [hw,BX (by omega),D4 hj]
 have wX:∀q∈((aH s0 t).set k p).take many.toNat,bB u q=bB s q:=λq hq=>oe λhh=>h.kp _ (by
  have:=wA hq hh
  show 0<X _+_;omega)
 refine⟨hT,?_,hX.trans (h.kp.mono λr=>ZD9 _ _),hS.trans h.same,h.many,λj hj=>?_⟩
 ·refine h.acc.mono λr=>?_
  obtain⟨i,hi⟩:=h.lv
  rw [nY,hi,bT,gA]
  show _<=X r+_+_;omega
 ·unfold getM
  by_cases hjm:j<many.toNat
  ·rw [AH j hjm]
   have CA:nth ae ((aH s0 t).set k p) j∈((aH s0 t).set k p).take many.toNat:=by
    rw [<-D4 hjm];exact bS (ek:=ae) (by omega)
   rw [wX _ CA]
   by_cases e:j=k
   ·subst e
    rw [if_pos rfl,oV (ek:=ae) (by omega)];exact hr
   ·rw [if_neg e,jm (ek:=ae) (λh=>e h.symm)]
    cases hh:au (nth ae (aH s0 t) j) with
    |true=>rw [fw hh,fw hh]
    |false=>rw [hq j e hh]
  ·have e:j≠k:=by omega
   rw [if_neg e]
   have h1:au (nth ae (aH u t') j)=true:=hT.tail j (by rw [h.many];omega)
   rw [fw h1,fw (htl j (by omega))]
def GS {s:ay}{t:bf}{X:Nat->Nat}{k:Int}{text:ByteArray}{dt:Nat}(ha:Acc s (λr=>X r+bF (iF s dt t.root) r)) (ht:Tree s t dt) (hk0:0<=k) (hk:k<=15) (hz:(aP s t k text).2.2=true):
  ∃d,aoj s t X k.toNat text (cf t k) (aP s t k text).1 (aP s t k text).2.1 d:=by
 have wW:0<=cf t k:=by unfold cf;have:=ht.m0;omega
 have CB:cf t k<=16:=by unfold cf;have:=ht.m1;omega
 have hkm:(k.toNat:Int)<cf t k:=by unfold cf;omega
 have htm:t.many.toNat<=(cf t k).toNat:=by unfold cf;omega
 have hlen:=ic (s:=s) ht.tm.trd
 have hold:bc (eJ s t k)=true:=qd (mL ht.tm.trd) _
 have htl:∀i,(cf t k).toNat<=i->au (nth ae (aH s t) i)=true:=λi hi=>ht.tail i (by omega)
 have cF:∀r,bF (iF s dt t.root) r=bF (bD s t) r+bF (aH s t) r:=LD ht.tm
 have WH:∀(p:Pt) (r:Nat),bF ((aH s t).set k.toNat p) r+bF [eJ s t k] r=bF (aH s t) r+bF [p] r:=λp r=>ae9 (by omega)
 have htk:=λ(p:Pt) (r:Nat)=>akm ((aH s t).set k.toNat p) (cf t k).toNat r
 have OX:∀{P:Prop},decide (jO s t k=text)=true->decide (jO s t k≠text)=true->P:=λh1 h2=>absurd (aF h1) (aF h2)
 unfold aP at hz ⊢
 cases h1:decide (jO s t k=text) with
 |true=>
  have aoQ:(bB s (eJ s t k)).1=text:=aF h1
  rw [decide_eq_false (p:=jO s t k≠text) (λh=>h (aF h1))] at hz ⊢
  cases h2:decide (cf t k=t.many) with
  |true=>
   have h2:=aF h2
   refine⟨dt,⟨ht,ha,Kp.refl _ _,eB.refl _,h2.symm,λj hj=>?_⟩⟩
   show getM s t j=_
   by_cases e:j=k.toNat
   ·rw [if_pos e,e];exact aoQ
   ·rw [if_neg e]
  |false=>
   rw [h1,h2] at hz
   obtain⟨d,hd⟩:=GU (X:=X) ha ht.tm wW CB hlen hold (λq hq=>by
    rcases vZ hq with rfl |hq
    ·exact xq ht.tm _ (bS (ek:=ae) (by omega))
    ·exact xq ht.tm q hq) (λr=>by
    have a1:=cF r
    have a2:=WH (eJ s t k) r
    have a3:=htk (eJ s t k) r
    rw [qD.2 rfl]
    show X r+_+bF [] r+_<=X r+_
    rw [ti];omega) (λr=>by show _<=X r+_;omega) hz
   exact⟨d,hd.put ht.tm wW CB (by omega) hkm htl (Kp.refl _ _) (eB.refl _) aoQ λj _ _=>rfl⟩
 |false=>
  rw [decide_eq_true (p:=jO s t k≠text) (aD h1)] at hz ⊢
  rw [h1] at hz
  cases h3:decide (text≠⟨#[]⟩) with
  |false=>
   have aoS:text=⟨#[]⟩:=Classical.byContradiction (aD h3)
   rw [h3] at hz
   obtain⟨d,hd⟩:=GU (X:=X) ha ht.tm wW CB hlen hold (λq hq=>by
    rcases vZ hq with rfl |hq
    ·exact lH s 0
    ·exact xq ht.tm q hq) (λr=>by
    have a1:=cF r
    have a2:=WH ch r
    have a3:=htk ch r
    rw [nB (p:=ch) rfl] at a2
    have a4:bF (bif ptrEq ch (eJ s t k) then [] else [eJ s t k]) r<=bF [eJ s t k] r:=by
     cases ptrEq ch (eJ s t k) with
     |true=>exact ZA7 _
     |false=>exact ZB0 _
    show X r+_+_+_<=X r+_
    omega) (λr=>by show _<=X r+_;omega) hz
   exact⟨d,hd.put ht.tm wW CB (by omega) hkm htl (Kp.refl _ _) (eB.refl _) (by rw [fw rfl,aoS]) λj _ _=>rfl⟩
  |true=>
   rw [h3] at hz
   cases hw: !(bm s text 0).2.2 with
   |true=>rw [hw] at hz;cases hz
   |false=>
    rw [hw] at hz
    obtain⟨aqi,wkp,ahe,_,_,wfr⟩:=K9 ha (qi hw)
    simp only [Bool.false_and,cond_false,cond_true] at hz ⊢
    generalize (bm s text 0).1=s1 at *
    generalize (bm s text 0).2.1=p at *
    have hT:=XB ht.tm (Int.le_of_eq ahe.cz.symm) wkp λr=>Nat.le_add_left _ _
    have hq1:∀q∈aH s t,qQ s1 0 q:=by rw [<-hT.2.2.1];exact xq hT.1
    obtain⟨d,hd⟩:=GU (X:=X) aqi hT.1 wW CB hlen hold (λq hq=>by
     rcases vZ hq with rfl |hq
     ·exact⟨wfr.ok,λhh=>⟨wfr.lv,by rw [wfr.AO,ahe.cz];exact ZC1 _,by rw [zq hh wfr.row wfr.fits]⟩⟩
     ·exact hq1 q hq) (λr=>by
     have a1:=cF r
     have a2:=WH p r
     have a3:=htk p r
     have a4:bF (bif ptrEq p (eJ s t k) then [] else [eJ s t k]) r<=bF [eJ s t k] r:=by
      cases ptrEq p (eJ s t k) with
      |true=>exact ZA7 _
      |false=>exact ZB0 _
     rw [hT.2.2.2 r]
     show X r+_+_+_<=X r+_+_
     omega) (λr=>by rw [hT.2.1];show _<=X r+_+_;omega) hz
    refine⟨d,hd.put ht.tm wW CB (by omega) hkm htl (wkp.mono λr=>ZD9 _ _) ahe (by rw [zq wfr.nh wfr.row wfr.fits]) λj _ hh=>?_⟩
    refine oe λ_=>wkp _ ?_
    have hj:j<(aH s t).length:=by
     rw [hlen]
     refine Classical.byContradiction λwZ=>?_
     rw [show nth ae (aH s t) j=ch from oW (ek:=ae) (by omega)] at hh
     cases hh
    have c1:=wA (bS (ek:=ae) hj) hh
    have c2:=cF (at' (nth ae (aH s t) j))
    have c3:bF (aH s t) (at' (nth ae (aH s t) j))<=X (at' (nth ae (aH s t) j))+bF (iF s dt t.root) (at' (nth ae (aH s t) j)):=by omega
    exact ZF8 c1 c3
end GL
namespace GL
theorem yz:∀(l:List Pt) (s:ay),dV l s=l.foldl dh s
 |[],_=>rfl
 |p::l,s=>yz l (dh s p)
structure ap2 (s:ay) (t:bf) (X:Nat->Nat) (mn:Int) (u:ay) (t':bf) (d:Nat):Prop where
 tree:Tree u t' d
 acc:Acc u (λr=>X r+bF (iF u d t'.root) r)
 kp:Kp X s u
 same:eB s u
 many:t'.many=mn
 get:∀j,j<16->getM u t' j=if (j:Int)<mn then getM s t j else ⟨#[]⟩
def oD {s:ay}{t:bf}{d:Nat}(h:Tree s t d) {j:Nat}(hj:t.many<=(j:Int)):getM s t j=⟨#[]⟩:=by
 unfold getM
 rw [fw (h.tail j (by have:=h.m0;omega))]
def TS {s:ay}{t:bf}{X:Nat->Nat}{many:Int}{dt:Nat}(ha:Acc s (λr=>X r+bF (iF s dt t.root) r)) (ht:Tree s t dt) (h0:0<=many) (h1:many<=16) (hz:(cX s t many).2.2=true):
  ∃d,ap2 s t X many (cX s t many).1 (cX s t many).2.1 d:=by
 cases h2:decide (many=t.many) with
 |true=>
  rw [akg h2]
  have h2:=aF h2
  refine⟨dt,⟨ht,ha,Kp.refl _ _,eB.refl _,h2.symm,λj hj=>?_⟩⟩
  show getM s t j=_
  by_cases e:(j:Int)<many
  ·rw [if_pos e]
  ·rw [if_neg e];exact oD ht (by omega)
 |false=>
  cases h3: !(ck s t (aH s t) many).2.2 with
  |true=>rw [akf h2 h3] at hz;cases hz
  |false=>
   rw [ake h2 h3]
   have hlen:=ic (s:=s) ht.tm.trd
   have cF:=LD ht.tm
   have KR:∀r,bF (aH s t) r=bF ((aH s t).take many.toNat) r+bF ((aH s t).drop many.toNat) r:=λr=>by
    rw [<-bT,ZF3]
   obtain⟨d,hd⟩:=SF (L:=aH s t) (Y:=λr=>X r+bF ((aH s t).take many.toNat) r+bF ((aH s t).drop many.toNat) r) ha ht.tm h0 h1 (by omega) (λq hq=>xq ht.tm q (ZE5 hq)) (λr=>by
    have a1:=cF r
    have a2:=KR r
    show X r+_+_+_<=X r+_;omega) (λr=>by show _<=X r+_+_;omega) (λr=>Nat.le_add_left _ _) (qi h3)
   simp only
   generalize (ck s t (aH s t) many).1=u at *
   generalize (ck s t (aH s t) many).2.1=t' at *
   rw [yz]
   have hl:((aH s t).take many.toNat).length=many.toNat:=by rw [ZB6];omega
   have hf:=CE (l:=(aH s t).drop many.toNat) (O':=λr=>X r+bF ((aH s t).take many.toNat) r+bF (xi u d t'.root) r) hd.acc (λp hp=>mL ht.tm.trd p (ZF5 hp)) (λr=>by
    show X r+_+_+_<=X r+_+_+_;omega)
   obtain⟨k,hk⟩:=hd.lv
   have hT:=hd.tree h0 h1 hl
   have qw:∀r,bF (iF u d t'.root) r=bF (xi u d t'.root) r+bF ((aH s t).take many.toNat) r:=λr=>by
    rw [nY,hk,bT,gA];omega
   have wX:=FK hT (Int.le_of_eq hf.2.2.cz.symm) hf.2.1 λr=>by rw [qw];show _<=X r+_+_;omega
   refine⟨d,⟨wX.1,?_,(hd.kp.mono λr=>by show X r<=X r+_+_;omega).trans (hf.2.1.mono λr=>by show X r<=X r+_+_;omega),hd.same.trans hf.2.2,hd.many,λj hj=>?_⟩⟩
   ·refine hf.1.mono λr=>?_
    rw [wX.2.1,qw]
    show X r+_<=X r+_+_;omega
   ·by_cases e:(j:Int)<many
    ·rw [if_pos e]
     unfold getM
     rw [wX.2.2,hd.wide.1,BX (by omega),D4 (by omega)]
     rw [oe (s:=s)]
     intro hh
     have CC:j<(aH s t).length:=by omega
     have CA:nth ae (aH s t) j∈(aH s t).take many.toNat:=by
      have h5:nth ae ((aH s t).take many.toNat) j=nth ae (aH s t) j:=D4 (by omega)
      rw [<-h5];exact bS (ek:=ae) (by omega)
     have hc:=wA CA hh
     have k1:=hd.kp (at' (nth ae (aH s t) j)) (show 0<X (at' (nth ae (aH s t) j))+bF ((aH s t).take many.toNat) (at' (nth ae (aH s t) j))+bF ((aH s t).drop many.toNat) (at' (nth ae (aH s t) j)) by omega)
     have k2:=hf.2.1 (at' (nth ae (aH s t) j)) (show 0<X (at' (nth ae (aH s t) j))+bF ((aH s t).take many.toNat) (at' (nth ae (aH s t) j))+bF (xi u d t'.root) (at' (nth ae (aH s t) j)) by omega)
     exact k2.trans k1
    ·rw [if_neg e]
     exact oD wX.1 (by rw [hd.many];omega)
theorem adm {s:ay}{a:Nat}(sG:s.wf) (ha:a<64) (h1:1<=sB s a) (hup:sB s a<=1000000):(gZ s a).wf/\(∀r,sB (gZ s a) r=if a=r then sB s r-1 else sB s r)/\(∀r,sB (gZ s a) r≠0\/a≠r->nth ab (gZ s a).rows r=nth ab s.rows r):=by
 have hlen:a<s.refs.length:=by rw [sG.n.2.1];exact ha
 have hw:z8 (sB s a-1)=sB s a-1:=LA (by omega) (by omega)
 have hrf:(gZ s a).refs=s.refs.set a (sB s a-1):=by
  show s.refs.set a (z8 (sB s a-1))=_
  rw [hw]
 have tJ:∀r,sB (gZ s a) r=if a=r then sB s r-1 else sB s r:=λr=>by
  show nth ag (gZ s a).refs r=_
  rw [hrf]
  by_cases e:a=r
  ·subst e;rw [oV (ek:=ag) hlen,if_pos rfl]
  ·rw [jm (ek:=ag) e,if_neg e];rfl
 have hl:=zX s a
 refine⟨⟨⟨hl.1.trans sG.n.1,hl.2.1.trans sG.n.2.1,hl.2.2.trans sG.n.2.2⟩,?_⟩,tJ,λr hr=>?_⟩
 ·show∀x∈(bif xc s a then s.rows.set a ByteArray.empty else s.rows),_
  cases xc s a with
  |true=>exact abz sG.sz (ZA7 _)
  |false=>exact sG.sz
 ·show nth ab (bif xc s a then s.rows.set a ByteArray.empty else s.rows) r=_
  cases hb:xc s a with
  |false=>rfl
  |true=>
   have hz:sB (gZ s a) a=0:=aF hb
   have e:a≠r:=λe=>by
    rcases hr with hr |hr
    ·rw [<-e] at hr;exact hr hz
    ·exact hr e
   exact jm (ek:=ab) e
def R3 {O:Nat->Nat}:∀{l:List Pt}{s:ay},s.wf->(∀r,sB s r<=1000000)->(∀p∈l,bc p=true/\au p=false)->(∀r,((bF l r+bF s.dead r+O r:Nat):Int)<=sB s r)->
  (ld l s).wf/\(∀r,sB (ld l s) r<=1000000)/\(∀r,((bF s.dead r+O r:Nat):Int)<=sB (ld l s) r)/\Kp O s (ld l s)/\(ld l s).dead=s.dead/\(ld l s).gone=s.gone/\eB s (ld l s)
 |[],s,sG,hup,_,hsl=>⟨sG,hup,λr=>by have:=hsl r;rw [ti] at this;show ((bF s.dead r+O r:Nat):Int)<=sB s r;omega,Kp.refl _ _,rfl,rfl,eB.refl _⟩
 |p::l,s,sG,hup,cn,hsl=>by
  have hp:=cn p (by simp)
  have AH:=uD hp.1
  have h1:=hsl (at' p)
  rw [eA,tM hp.2] at h1
  obtain⟨d1,d2,d3⟩:=adm sG AH (by omega) (hup _)
  have aoY:∀r,((bF l r+bF (gZ s (at' p)).dead r+O r:Nat):Int)<=sB (gZ s (at' p)) r:=λr=>by
   show ((bF l r+bF s.dead r+O r:Nat):Int)<=_
   have:=hsl r
   rw [eA] at this
   rw [d2]
   by_cases e:at' p=r
   ·subst e;rw [tM hp.2] at this;rw [if_pos rfl];omega
   ·rw [if_neg e];rw [CM e] at this;omega
  obtain⟨e1,e2,e3,e4,e5,e6,e7⟩:=R3 (l:=l) (s:=gZ s (at' p)) d1 (λr=>by
   rw [d2];have:=hup r;by_cases e:at' p=r
   ·rw [if_pos e];omega
   ·rw [if_neg e];exact this) (λq hq=>cn q (by simp [hq])) aoY
  refine⟨e1,e2,e3,?_,e5,e6,⟨e7.cz,e7.cm,e7.same⟩⟩
  refine Kp.trans (λr hr=>d3 r ?_) e4
  have:=aoY r
  left;omega
def BZ {s:ay}{O:Nat->Nat}(h:Acc s O) (ht:s.cz<1000000):Acc (jR s) O/\Kp O s (jR s)/\(jR s).cz=s.cz+1/\(jR s).cm=s.cm/\(jR s).same=s.same:=by
 obtain⟨e1,e2,e3,e4,e5,e6,e7⟩:=R3 (O:=O) h.wf h.up (λp hp=>h.ok p (by simp [hp])) h.sl
 refine⟨⟨⟨e1.n,e1.sz⟩,e2,?_,λr=>?_,λp hp=>?_⟩,e4,?_,e7.cm,e7.same⟩
 ·show 1<=(ld s.gone s).cz+1/\(ld s.gone s).cz+1<=1000000
  rw [e7.cz];have:=h.cz;omega
 ·show ((bF [] r+bF (ld s.gone s).dead r+O r:Nat):Int)<=_
  rw [e5,ti];have:=e3 r
  show _<=sB (ld s.gone s) r
  omega
 ·have hp:p∈[]++(ld s.gone s).dead:=hp
  rw [e5] at hp
  exact h.ok p (by simp at hp;simp [hp])
 ·show (ld s.gone s).cz+1=_
  rw [e7.cz]
abbrev nhB (p:Pt):Bool:= !(au p)
theorem lK (s:ay):∀(n:Nat),(iF s n ch).filter nhB=[]
 |0=>rfl
 |n+1=>by
  show (ch::(lS s n ch).flatMap (iF s n)).filter nhB=[]
  rw [su rfl]
  have h:=lK s n
  simp only [cL,List.replicate,ZD1,ZH5,List.filter_append,h,List.filter_cons_of_neg (show¬nhB ch=true by decide),ZD4,List.filter_nil]
def afC:Nat->Nat
 |0=>1
 |n+1=>1+4*afC n
def T3 {s:ay}{n:Nat}(one:∀{p:Pt},qQ s n p->∃k,k<=afC n/\∀(f:Nat) (rest out:List Pt),kZ (f+k) s (p::rest) out=kZ f s rest (out++(iF s n p).filter nhB)):∀{l:List Pt},(∀q∈l,qQ s n q)->∃k,k<=l.length*afC n/\∀(f:Nat) (rest out:List Pt),kZ (f+k) s (l++rest) out=kZ f s rest (out++(l.flatMap (iF s n)).filter nhB)
 |[],_=>⟨0,ZA7 _,λf rest out=>by simp⟩
 |q::l,h=>by
  obtain⟨k1,h1,e1⟩:=one (h q (by simp))
  obtain⟨k2,h2,e2⟩:=T3 one (l:=l) λx hx=>h x (by simp [hx])
  refine⟨k2+k1,by rw [ZA1,Nat.succ_mul];omega,λf rest out=>?_⟩
  rw [<-ZG5,ZH4,e1,e2,ZD1,List.filter_append,ZC5]
def abh {s:ay}:∀{n:Nat}{p:Pt},qQ s n p->∃k,k<=afC n/\∀(f:Nat) (rest out:List Pt),kZ (f+k) s (p::rest) out=kZ f s rest (out++(iF s n p).filter nhB)
 |0,p,h=>by
  refine⟨1,ZB0 _,λf rest out=>?_⟩
  cases hh:au p with
  |true=>
   rw [kZ,hh,show (iF s 0 p).filter nhB=[] by show [p].filter nhB=[];simp [nhB,hh]]
   simp
  |false=>
   have h0:=(h.2 hh).1
   rw [kZ,hh,decide_eq_false (p:=p.2.2.2.2>0) (by omega),show (iF s 0 p).filter nhB=[p] by show [p].filter nhB=[p];simp [nhB,hh]]
   rfl
 |n+1,p,h=>by
  cases hh:au p with
  |true=>
   refine⟨1,by show 1<=1+_;omega,λf rest out=>?_⟩
   rw [kZ,hh,gH hh,lK,ZD4];rfl
  |false=>
   have hb:=pW hh (h.2.1 hh)
   have KS:p.2.2.2.2=(((n+1):Nat):Int):=hb.2.1
   obtain⟨k,hk,e⟩:=T3 (s:=s) (n:=n) (λh=>abh h) (l:=lS s n p) h.2.2
   have h4:=K5 h
   refine⟨k+1,by rw [h4] at hk;show _<=1+4*afC n;omega,λf rest out=>?_⟩
   rw [<-ZG5,kZ,hh,KS,decide_eq_true (p:=(((n+1):Nat):Int)>0) (by omega)]
   show kZ (f+k) s (lS s n p++rest) (out++[p])=_
   rw [e]
   show kZ f s rest (out++[p]++_)=kZ f s rest (out++(p::(lS s n p).flatMap (iF s n)).filter nhB)
   rw [List.filter_cons_of_pos (by simp [nhB,hh]),ZC5];rfl
def QF {s:ay}{t:bf}{d:Nat}(h:pX s t d):PF s t=true/\allM s t=(iF s d t.root).filter nhB:=by
 obtain⟨k,hk,e⟩:=abh h.snd
 have hp:afC d<=21:=by
  have:=h.le
  match d,this with
  |0,_=>decide
  |1,_=>decide
  |2,_=>decide
 obtain⟨g,hg⟩:∃g,40=g+1+k:=⟨39-k,by omega⟩
 have he:kZ 40 s [t.root] []=some ((iF s d t.root).filter nhB):=by
  rw [hg,e (g+1) [] []];rfl
 unfold PF allM
 rw [he];exact⟨rfl,rfl⟩
theorem SD {s:ay}{many:Int}:∀{l:List Pt}{i:Int},(∀j,j<l.length->au (nth ae l j)=false->qQ s 0 (nth ae l j)/\i+j<many)->iY s many i l=true
 |[],i,_=>rfl
 |p::l,i,h=>by
  have nv:iY s many (i+1) l=true:=SD λj hj hh=>by
   have:=h (j+1) (by simp;omega) hh
   exact⟨this.1,by have:=this.2;omega⟩
  cases hh:au p with
  |true=>rw [KL hh];exact nv
  |false=>
   obtain⟨h1,h2⟩:=h 0 (by simp) hh
   have h3:=h1.2 hh
   have h2:i+((0:Nat):Int)<many:=h2
   rw [VQ hh (VR (by rw [show (bB s p).2=true from h3.2.2];rfl) (decide_eq_false (λft=>ft h3.1)) (decide_eq_false (by have:p.2.1<=s.cz:=h3.2.1;omega)) (decide_eq_false (by omega)))]
   exact nv
def Tree.iX {s:ay}{t:bf}{d:Nat}(h:Tree s t d):iX s t=true:=by
 have ⟨h1,h2⟩:=I8 h.tm
 have hw:=nV h.tm
 rw [RZ (D2 (by rw [cy.2 ⟨h.m0,h.m1⟩];rfl) (decide_eq_false (by rw [h.dm,h.tm.dep];simp)) (by rw [h.tm.snd.pok];rfl)) (by rw [h1];rfl),h1]
 refine SD λj hj hh=>⟨QI h.tm.snd (bS (ek:=ae) hj),?_⟩
 refine Classical.byContradiction λwZ=>?_
 have:=h.tail j (by have:=h.m0;omega)
 rw [hw,BX hj] at this
 rw [hh] at this
 cases this
end GL
namespace GL
abbrev cK (n:dN):bf:=(n.2.2.2.1,n.2.2.2.2.1,n.2.2.2.2.2.1,n.2.2.2.2.2.2.1,n.2.2.2.2.2.2.2.1,n.2.2.2.2.2.2.2.2.1,n.2.2.2.2.2.2.2.2.2)
abbrev bf.d (t:bf):Nat:=t.depth.toNat
def pX.apw {s:ay}{t:bf}{d:Nat}(h:pX s t d):d=t.d:=by have:=h.dep;show d=t.depth.toNat;omega
def Tree.at {s:ay}{t:bf}{d:Nat}(h:Tree s t d):Tree s t t.d:=by rw [<-h.tm.apw];exact h
structure AQ (s:ay) (n:dN):Prop where
 ok:cx n=true
 tree:Tree s (cK n) (cK n).d
abbrev eu (s:ay) (t:bf):List Pt:=iF s t.d t.root
abbrev ew (s:ay) (n:dN):List Pt:=eu s (cK n)
abbrev nodeAt (s:ay) (t:bf) (k:Nat):dN:=(aG (getM s t k)).1
def iS (s:ay) (t:bf) (E:Nat->Bool) (r:Nat):Nat:=((List.range 16).map λk=>bif E k then 0 else bF (ew s (nodeAt s t k)) r).sum
def abu {f g:Nat->Nat}:∀{l:List Nat},(∀k∈l,f k<=g k)->(l.map f).sum<=(l.map g).sum
 |[],_=>ZB0 _
 |k::l,h=>by
  simp only [ZF1,List.sum_cons]
  have h1:=h k (by simp)
  have h2:=abu (f:=f) (g:=g) (l:=l) λx hx=>h x (by simp [hx])
  omega
def UG {f g:Nat->Nat}{l:List Nat}(h:∀k∈l,f k=g k):(l.map f).sum=(l.map g).sum:=by
 have h1:=abu (f:=f) (g:=g) (l:=l) λk hk=>ZA8 (h k hk)
 have h2:=abu (f:=g) (g:=f) (l:=l) λk hk=>ZA8 (h k hk).symm
 omega
def VS {f:Nat->Nat}{k:Nat}:∀{l:List Nat},k∈l->f k<=(l.map f).sum
 |x::l,h=>by
  simp only [ZF1,List.sum_cons]
  rcases ZB7.1 h with rfl |h
  ·omega
  ·have:=VS (f:=f) h;omega
def UF {f g:Nat->Nat}{i:Nat}:∀{l:List Nat},l.Nodup->i∈l->(∀k∈l,k≠i->f k=g k)->f i=0->(l.map g).sum=(l.map f).sum+g i
 |x::l,hn,hi,h,h0=>by
  simp only [ZF1,List.sum_cons]
  have hn':=List.nodup_cons.1 hn
  by_cases e:x=i
  ·subst e
   have:(l.map f).sum=(l.map g).sum:=UG λk hk=>h k (by simp [hk]) (λe=>hn'.1 (e ▸ hk))
   omega
  ·have H0:i∈l:=by
    rcases ZB7.1 hi with e' |h
    ·exact absurd e'.symm e
    ·exact h
   have:=UF (f:=f) (g:=g) hn'.2 H0 (λk hk ft=>h k (by simp [hk]) ft) h0
   have:=h x (by simp) e
   omega
structure FI (s:ay) (t:bf) (E:Nat->Bool) (O:Nat->Nat):Prop where
 tree:Tree s t t.d
 nodes:∀k,k<16->E k=false->getM s t k=⟨#[]⟩\/(aG (getM s t k)).2=true/\AQ s (nodeAt s t k)
 acc:Acc s (λr=>O r+bF (eu s t) r+iS s t E r)
def ez:aG ⟨#[]⟩=(dq,false):=by
 have h:az ⟨#[]⟩=([],true):=by
  unfold az
  rw [show J8 ((⟨#[]⟩:ByteArray).size+1) ⟨#[]⟩ 0 []=some [] by rw [ajQ (by decide)]]
  rfl
 rw [ox (by rw [h];decide)]
def kN {s:ay}{t:bf}{k:Nat}(h:getM s t k=⟨#[]⟩) (r:Nat):bF (ew s (nodeAt s t k)) r=0:=by
 show bF (ew s (aG (getM s t k)).1) r=0
 rw [h,ez]
 exact nB rfl r
theorem FI.cm {s u:ay}{t:bf}{E:Nat->Bool}{O X:Nat->Nat}(h:FI s t E O) (ht:s.cz<=u.cz) (hk:Kp X s u) (hX:∀r,bF (eu s t) r+iS s t E r<=X r):
  Tree u t t.d/\(∀k,k<16->getM u t k=getM s t k)/\eu u t=eu s t/\(∀k,k<16->E k=false->getM u t k=⟨#[]⟩\/(aG (getM u t k)).2=true/\AQ u (nodeAt u t k))/\∀r,iS u t E r=iS s t E r:=by
 have h1:=FK h.tree ht hk λr=>by have:=hX r;show bF (eu s t) r<=_;omega
 have wk:∀k,k<16->getM u t k=getM s t k:=λk tK=>by
  unfold getM
  rw [h1.2.2,oe (s:=s)]
  intro hh
  refine hk _ ?_
  have hm:nth ae (aH s t) k∈aH s t:=bS (ek:=ae) (by rw [ic h.tree.tm.trd];exact tK)
  have c1:=wA hm hh
  have c2:bF (eu s t) (at' (nth ae (aH s t) k))=bF (bD s t) (at' (nth ae (aH s t) k))+bF (aH s t) (at' (nth ae (aH s t) k)):=LD h.tree.tm (at' (nth ae (aH s t) k))
  have c3:=hX (at' (nth ae (aH s t) k))
  omega
 have JE:∀k,k<16->E k=false->getM s t k≠⟨#[]⟩->AQ u (nodeAt s t k)/\ew u (nodeAt s t k)=ew s (nodeAt s t k):=λk tK hE ft=>by
  have hn:=(h.nodes k tK hE).resolve_left ft
  have h2:=FK hn.2.tree ht hk λr=>by
   have c1:=VS (f:=λk=>bif E k then 0 else bF (ew s (nodeAt s t k)) r) (l:=List.range 16) (ZE8.2 tK)
   have c2:=hX r
   have c1:(bif E k then 0 else bF (ew s (nodeAt s t k)) r)<=iS s t E r:=c1
   rw [hE,cond_false] at c1
   show bF (ew s (nodeAt s t k)) r<=_
   omega
  exact⟨⟨hn.2.ok,h2.1⟩,h2.2.1⟩
 refine⟨h1.1,wk,h1.2.1,λk tK hE=>?_,λr=>?_⟩
 ·by_cases ft:getM s t k=⟨#[]⟩
  ·left;rw [wk k tK];exact ft
  ·right
   have hn:=(h.nodes k tK hE).resolve_left ft
   unfold nodeAt
   rw [wk k tK]
   exact⟨hn.1,(JE k tK hE ft).1⟩
 ·unfold iS
  refine UG λk tK=>?_
  have tK:=ZE8.1 tK
  cases hE:E k with
  |true=>rfl
  |false=>
   simp only [cond_false]
   by_cases ft:getM s t k=⟨#[]⟩
   ·rw [kN (by rw [wk k tK];exact ft),kN ft]
   ·show bF (ew u (aG (getM u t k)).1) r=_
    rw [wk k tK]
    show bF (ew u (nodeAt s t k)) r=_
    rw [(JE k tK hE ft).2]
abbrev tS (E:Nat->Bool) (i:Nat):Nat->Bool:=λk=>decide (k=i)||E k
def FI.take {s:ay}{t:bf}{E:Nat->Bool}{O:Nat->Nat}{i:Nat}(h:FI s t E O) (hi:i<16) (hE:E i=false):FI s t (tS E i) (λr=>O r+bF (ew s (nodeAt s t i)) r):=by
 refine⟨h.tree,λk hk hk2=>h.nodes k hk ?_,h.acc.mono λr=>?_⟩
 ·unfold tS at hk2
  simp only [ZD5] at hk2;exact hk2.2
 ·have:=UF (f:=λk=>bif tS E i k then 0 else bF (ew s (nodeAt s t k)) r) (g:=λk=>bif E k then 0 else bF (ew s (nodeAt s t k)) r) (i:=i) (l:=List.range 16) List.nodup_range (ZE8.2 hi) (λk _ ft=>by
   have:tS E i k=E k:=by unfold tS;rw [decide_eq_false ft];rfl
   simp only [this]) (by
   have:tS E i i=true:=by unfold tS;rw [decide_eq_true rfl];rfl
   simp only [this,cond_true])
  have e:iS s t E r=iS s t (tS E i) r+bF (ew s (nodeAt s t i)) r:=by
   have h2:=this
   simp only [hE,cond_false] at h2
   exact h2
  show O r+bF (ew s (nodeAt s t i)) r+bF (eu s t) r+iS s t (tS E i) r<=O r+bF (eu s t) r+iS s t E r
  omega
def FI.more {s:ay}{t:bf}{E:Nat->Bool}{O O':Nat->Nat}(h:FI s t E O) (hO:∀r,O' r<=O r):FI s t E O':=
 ⟨h.tree,h.nodes,h.acc.mono λr=>by have:=hO r;show O' r+_+_<=O r+_+_;omega⟩
def FI.other {s u:ay}{t:bf}{E:Nat->Bool}{O O':Nat->Nat}(h:FI s t E O) (ht:u.cz=s.cz) (hk:Kp (λr=>O' r+bF (eu s t) r+iS s t E r) s u) {Y:Nat->Nat}(ha:Acc u (λr=>O' r+bF (eu s t) r+iS s t E r+Y r)):FI u t E (λr=>O' r+Y r):=by
 have hK:=h.cm (Int.le_of_eq ht.symm) hk λr=>by show _<=O' r+_+_;omega
 refine⟨hK.1,hK.2.2.2.1,ha.mono λr=>?_⟩
 rw [hK.2.2.1,hK.2.2.2.2 r];omega
def LH {s:ay}{t:bf}{d:Nat}(h:Tree s t d):iF s d t.root=eu s t:=by rw [h.tm.apw]
def FI.aqs {s:ay}{t:bf}{E:Nat->Bool}{O:Nat->Nat}{t2:bf}{k:Int}{text:ByteArray}(h:FI s t E (λr=>O r+bF (eu s t2) r)) (h2:Tree s t2 t2.d) (hk0:0<=k) (hk:k<=15) (hz:(aP s t2 k text).2.2=true):
  ∃d,aoj s t2 (λr=>O r+bF (eu s t) r+iS s t E r) k.toNat text (cf t2 k) (aP s t2 k text).1 (aP s t2 k text).2.1 d/\FI (aP s t2 k text).1 t E (λr=>O r+bF (eu (aP s t2 k text).1 (aP s t2 k text).2.1) r)/\Tree (aP s t2 k text).1 (aP s t2 k text).2.1 (aP s t2 k text).2.1.d:=by
 obtain⟨d,hP⟩:=GS (X:=λr=>O r+bF (eu s t) r+iS s t E r) (h.acc.mono λr=>by show O r+bF (eu s t) r+iS s t E r+bF (eu s t2) r<=O r+bF (eu s t2) r+bF (eu s t) r+iS s t E r;omega) h2 hk0 hk hz
 refine⟨d,hP,?_,hP.tree.at⟩
 have:=h.other (O':=O) (Y:=λr=>bF (iF _ d _) r) hP.same.cz hP.kp hP.acc
 rw [LH hP.tree] at this
 exact this
def FI.art {s:ay}{t:bf}{E:Nat->Bool}{O:Nat->Nat}{t2:bf}{many:Int}(h:FI s t E (λr=>O r+bF (eu s t2) r)) (h2:Tree s t2 t2.d) (h0:0<=many) (h1:many<=16) (hz:(cX s t2 many).2.2=true):
  ∃d,ap2 s t2 (λr=>O r+bF (eu s t) r+iS s t E r) many (cX s t2 many).1 (cX s t2 many).2.1 d/\FI (cX s t2 many).1 t E (λr=>O r+bF (eu (cX s t2 many).1 (cX s t2 many).2.1) r)/\Tree (cX s t2 many).1 (cX s t2 many).2.1 (cX s t2 many).2.1.d:=by
 obtain⟨d,hP⟩:=TS (X:=λr=>O r+bF (eu s t) r+iS s t E r) (h.acc.mono λr=>by show O r+bF (eu s t) r+iS s t E r+bF (eu s t2) r<=O r+bF (eu s t2) r+bF (eu s t) r+iS s t E r;omega) h2 h0 h1 hz
 refine⟨d,hP,?_,hP.tree.at⟩
 have:=h.other (O':=O) (Y:=λr=>bF (iF _ d _) r) hP.same.cz hP.kp hP.acc
 rw [LH hP.tree] at this
 exact this
def FI.next {s:ay}{t:bf}{E:Nat->Bool}{O:Nat->Nat}(h:FI s t E O) (ht:s.cz<1000000):FI (jR s) t E O/\∀k,k<16->getM (jR s) t k=getM s t k:=by
 obtain⟨ha,hk,htx,_,_⟩:=BZ h.acc ht
 have hK:=h.cm (by rw [htx];omega) hk λr=>by show _<=O r+_+_;omega
 exact⟨⟨hK.1,hK.2.2.2.1,ha.mono λr=>by rw [hK.2.2.1,hK.2.2.2.2 r];exact ZB0 _⟩,hK.2.1⟩
end GL
namespace GL
def AQ.kp {s u:ay}{n:dN}{X:Nat->Nat}(h:AQ s n) (ht:s.cz<=u.cz) (hk:Kp X s u) (hX:∀r,bF (ew s n) r<=X r):AQ u n/\ew u n=ew s n:=by
 have:=FK h.tree ht hk hX
 exact⟨⟨h.ok,this.1⟩,this.2.1⟩
structure aok (s:ay) (t:bf) (E:Nat->Bool) (O:Nat->Nat) (i:Nat) (text:ByteArray) (u:ay) (t':bf):Prop where
 fi:FI u t' E O
 at_:getM u t' i=text
 other:∀k,k<16->k≠i->getM u t' k=getM s t k
 kp:Kp O s u
 same:eB s u
 many:t'.many=cf t i
theorem FI.aoB {s:ay}{t:bf}{E:Nat->Bool}{O:Nat->Nat}{i:Nat}{text:ByteArray}(h:FI s t E O) (hi:i<16) (hE:E i=true) (hz:(aP s t i text).2.2=true):aok s t E O i text (aP s t i text).1 (aP s t i text).2.1:=by
 obtain⟨d,hP⟩:=GS (X:=λr=>O r+iS s t E r) (h.acc.mono λr=>by show O r+iS s t E r+bF (eu s t) r<=O r+bF (eu s t) r+iS s t E r;omega) h.tree (by omega) (by omega) hz
 generalize (aP s t i text).1=u at *
 generalize (aP s t i text).2.1=t' at *
 have htx:s.cz<=u.cz:=by rw [hP.same.cz];exact ZC1 _
 have wk:∀k,k<16->k≠i->getM u t' k=getM s t k:=λk hk ft=>by
  rw [hP.get k hk,if_neg (by rw [ZA5];exact ft)]
 have JE:∀k,k<16->E k=false->getM s t k≠⟨#[]⟩->AQ u (nodeAt s t k)/\ew u (nodeAt s t k)=ew s (nodeAt s t k):=λk tK hEk ft=>by
  have hn:=(h.nodes k tK hEk).resolve_left ft
  refine hn.2.kp htx hP.kp λr=>?_
  have c1:=VS (f:=λk=>bif E k then 0 else bF (ew s (nodeAt s t k)) r) (l:=List.range 16) (ZE8.2 tK)
  have c1:(bif E k then 0 else bF (ew s (nodeAt s t k)) r)<=iS s t E r:=c1
  rw [hEk,cond_false] at c1
  show bF (ew s (nodeAt s t k)) r<=O r+_
  omega
 refine⟨⟨hP.tree.at,λk hk hEk=>?_,?_⟩,?_,wk,hP.kp.mono λr=>ZD9 _ _,hP.same,hP.many⟩
 ·have ft:k≠i:=λe=>by rw [e,hE] at hEk;cases hEk
  by_cases h0:getM s t k=⟨#[]⟩
  ·left;rw [wk k hk ft];exact h0
  ·right
   have hn:=(h.nodes k hk hEk).resolve_left h0
   unfold nodeAt
   rw [wk k hk ft]
   exact⟨hn.1,(JE k hk hEk h0).1⟩
 ·refine hP.acc.mono λr=>?_
  have e:iS u t' E r=iS s t E r:=by
   unfold iS
   refine UG λk hk=>?_
   have hk:=ZE8.1 hk
   cases hEk:E k with
   |true=>rfl
   |false=>
    have ft:k≠i:=λe=>by rw [e,hE] at hEk;cases hEk
    simp only [cond_false]
    by_cases h0:getM s t k=⟨#[]⟩
    ·rw [kN (by rw [wk k hk ft];exact h0),kN h0]
    ·show bF (ew u (aG (getM u t' k)).1) r=_
     rw [wk k hk ft]
     show bF (ew u (nodeAt s t k)) r=_
     rw [(JE k hk hEk h0).2]
  rw [e,LH hP.tree]
  show O r+_+_<=O r+_+_;omega
 ·rw [hP.get i hi,if_pos (by rw [ZA5])]
abbrev yL (E:Nat->Bool) (i:Nat):Nat->Bool:=λk=> !(decide (k=i))&&E k
def XY {s:ay}{t:bf}{E:Nat->Bool}{i:Nat}(hi:i<16) (hE:E i=true) (r:Nat):iS s t (yL E i) r=iS s t E r+bF (ew s (nodeAt s t i)) r:=by
 have h:=UF (f:=λk=>bif E k then 0 else bF (ew s (nodeAt s t k)) r) (g:=λk=>bif yL E i k then 0 else bF (ew s (nodeAt s t k)) r) (i:=i) (l:=List.range 16) List.nodup_range (ZE8.2 hi) (λk _ ft=>by
  have:yL E i k=E k:=by unfold yL;rw [decide_eq_false ft];rfl
  simp only [this]) (by simp only [hE,cond_true])
 have hd:yL E i i=false:=by unfold yL;rw [decide_eq_true rfl];rfl
 simp only [hd,cond_false] at h
 exact h
def FI.back {s:ay}{t:bf}{E:Nat->Bool}{O:Nat->Nat}{i:Nat}{n:dN}(h:FI s t E (λr=>O r+bF (ew s n) r)) (hi:i<16) (hE:E i=true) (hg:aG (getM s t i)=(n,true)) (hn:AQ s n):FI s t (yL E i) O:=by
 have hna:nodeAt s t i=n:=by show (aG (getM s t i)).1=n;rw [hg]
 refine⟨h.tree,λk hk hEk=>?_,h.acc.mono λr=>?_⟩
 ·by_cases e:k=i
  ·subst e;right;rw [hna,hg];exact⟨rfl,hn⟩
  ·refine h.nodes k hk ?_
   have:yL E i k=E k:=by unfold yL;rw [decide_eq_false e];rfl
   rw [<-this];exact hEk
 ·rw [XY hi hE,hna]
  show O r+_+_<=O r+_+_+_;omega
def FI.amJ {s:ay}{t:bf}{E:Nat->Bool}{O:Nat->Nat}{i:Nat}(h:FI s t E O) (hi:i<16) (hE:E i=true) (hg:getM s t i=⟨#[]⟩):FI s t (yL E i) O:=by
 refine⟨h.tree,λk hk hEk=>?_,h.acc.mono λr=>?_⟩
 ·by_cases e:k=i
  ·subst e;left;exact hg
  ·refine h.nodes k hk ?_
   have:yL E i k=E k:=by unfold yL;rw [decide_eq_false e];rfl
   rw [<-this];exact hEk
 ·rw [XY hi hE,kN hg]
  show O r+bF (eu s t) r+(iS s t E r+0)<=O r+bF (eu s t) r+iS s t E r;omega
def ae5 {E:Nat->Bool}{i:Nat}(h:E i=false):yL (tS E i) i=E:=by
 funext k
 unfold yL tS
 by_cases e:k=i
 ·subst e;rw [decide_eq_true rfl,h];rfl
 ·rw [decide_eq_false e];rfl
def FI.aea {s:ay}{t:bf}{E:Nat->Bool}{O:Nat->Nat}{i:Nat}{n:dN}(h:FI s t E (λr=>O r+bF (ew s n) r)) (hi:i<16) (hE:E i=true) (hn:cx n=true->AQ s n) (hz:(aP s t i (aB n)).2.2=true):
  FI (aP s t i (aB n)).1 (aP s t i (aB n)).2.1 (yL E i) O/\aok s t E O i (aB n) (aP s t i (aB n)).1 (aP s t i (aB n)).2.1:=by
 have hP:=h.aoB (text:=aB n) hi hE hz
 have hP0:aok s t E O i (aB n) (aP s t i (aB n)).1 (aP s t i (aB n)).2.1:=⟨hP.fi.more λr=>ZD9 _ _,hP.at_,hP.other,hP.kp.mono λr=>ZD9 _ _,hP.same,hP.many⟩
 refine⟨?_,hP0⟩
 cases ho:cx n with
 |false=>
  have he:aB n=⟨#[]⟩:=by unfold aB;rw [ho];rfl
  exact hP0.fi.amJ hi hE (by rw [hP.at_,he])
 |true=>
  have hk:=(hn ho).kp (u:=(aP s t i (aB n)).1) (by rw [hP.same.cz];exact ZC1 _) hP.kp λr=>Nat.le_add_left _ _
  refine (hP.fi.more λr=>?_).back (n:=n) hi hE (by rw [hP.at_];exact vU ho) hk.1
  rw [hk.2];exact ZB0 _
end GL
namespace GL
def jP:List ByteArray->Nat->ay->bf->ay×bf×Bool
 |[],_,s,t=>(s,t,true)
 |x::l,i,s,t=>bif !(aP s t i x).2.2 then ((aP s t i x).1,t,false) else jP l (i+1) (aP s t i x).1 (aP s t i x).2.1
def UT {x:ByteArray}{l:List ByteArray}{i:Nat}{s:ay}{t:bf}(h:(aP s t i x).2.2=false):jP (x::l) i s t=((aP s t i x).1,t,false):=by rw [jP,h];rfl
def US {x:ByteArray}{l:List ByteArray}{i:Nat}{s:ay}{t:bf}(h:(aP s t i x).2.2=true):jP (x::l) i s t=jP l (i+1) (aP s t i x).1 (aP s t i x).2.1:=by rw [jP,h];rfl
def P8 (r:ay×bf×Bool) (n:Int):ay×bf×Bool:=bif !r.2.2 then r else cX r.1 r.2.1 n
def eg (s:ay) (t:bf) (text:ByteArray):ay×bf×Bool:=bif decide (((lN text).length:Int)>16) then (s,t,false) else P8 (jP (lN text) 0 s t) (lN text).length
def YZ:∀{l:List ByteArray}{i:Nat}{s:ay}{t:bf}{n:Nat},s.wg n->t.ok->i+l.length<=16->(jP l i s t).1.wg (n+6*l.length)/\(jP l i s t).2.1.ok
 |[],i,s,t,n,hs,ht,_=>⟨hs,ht⟩
 |x::l,i,s,t,n,hs,ht,hi=>by
  rw [ZA1] at hi
  have h:=lL (k:=(i:Int)) (text:=x) hs ht (by omega) (by omega)
  cases hz:(aP s t i x).2.2 with
  |false=>rw [UT hz];exact⟨h.1.mono (by rw [ZA1];omega),ht⟩
  |true=>
   rw [US hz]
   have h2:=YZ (l:=l) (i:=i+1) h.1 h.2.1 (by omega)
   exact⟨h2.1.mono (by rw [ZA1];omega),h2.2⟩
def abd {s:ay}{t:bf}{text:ByteArray}{n:Nat}(hs:s.wg n) (ht:t.ok):(eg s t text).1.wg (n+117)/\(eg s t text).2.1.ok:=by
 unfold eg
 cases h:decide (((lN text).length:Int)>16) with
 |true=>exact⟨hs.mono (by omega),ht⟩
 |false=>
  have hl:=aD h
  have h1:=YZ (l:=lN text) (i:=0) hs ht (by omega)
  show (P8 (jP (lN text) 0 s t) (lN text).length).1.wg (n+117)/\(P8 (jP (lN text) 0 s t) (lN text).length).2.1.ok
  unfold P8
  cases !(jP (lN text) 0 s t).2.2 with
  |true=>exact⟨h1.1.mono (by omega),h1.2⟩
  |false=>
   have h2:=K3 (many:=((lN text).length:Int)) h1.1 h1.2 (by omega) (by omega)
   exact⟨h2.1.mono (by omega),h2.2.1⟩
def aee:∀{f:Nat}{s:ByteArray},s.size<f->(pcF f s).length=(s.size+127) / 128
 |f+1,s,h=>by
  cases h1:decide ((s.size:Int)>128) with
  |true=>
   have h2:=aF h1
   have hx:(s.extract 128 s.size).size=s.size-128:=by rw [ZC2];omega
   rw [ahY h1,ZA1,aee (by omega),hx];omega
  |false=>
   have h2:=aD h1
   cases h3:decide (s≠⟨#[]⟩) with
   |true=>
    have:=size_pos (aF h3)
    rw [ahX h1 h3,ZA1,ZA4];omega
   |false=>
    have h4:s=⟨#[]⟩:=ZE6.1 (aD h3)
    rw [ahW h1 h3,h4];rfl
def aed (s:ByteArray):(lN s).length=(s.size+127) / 128:=aee (ZE7 _)
structure lI (s:ay) (t:bf) (E:Nat->Bool) (O:Nat->Nat) (u:ay) (t2:bf):Prop where
 fi:FI u t E (λr=>O r+bF (eu u t2) r)
 tree:Tree u t2 t2.d
 get:∀k,k<16->getM u t k=getM s t k
 same:eB s u
def lI.trans {s u v:ay}{t:bf}{E:Nat->Bool}{O:Nat->Nat}{t2 t3:bf}(h:lI s t E O u t2) (h2:lI u t E O v t3):lI s t E O v t3:=
 ⟨h2.fi,h2.tree,λk hk=>(h2.get k hk).trans (h.get k hk),h.same.trans h2.same⟩
def lI.put {s u:ay}{t:bf}{E:Nat->Bool}{O:Nat->Nat}{t2:bf}{k:Int}{text:ByteArray}(h:lI s t E O u t2) (hk0:0<=k) (hk:k<=15) (hz:(aP u t2 k text).2.2=true):lI s t E O (aP u t2 k text).1 (aP u t2 k text).2.1/\(aP u t2 k text).2.1.many=cf t2 k:=by
 obtain⟨d,hP,h1,h2⟩:=h.fi.aqs h.tree hk0 hk hz
 have hK:=h.fi.cm (by rw [hP.same.cz];exact ZC1 _) hP.kp λr=>by show _<=O r+_+_;omega
 exact⟨⟨h1,h2,λj hj=>(hK.2.1 j hj).trans (h.get j hj),h.same.trans hP.same⟩,hP.many⟩
def lI.cut {s u:ay}{t:bf}{E:Nat->Bool}{O:Nat->Nat}{t2:bf}{many:Int}(h:lI s t E O u t2) (h0:0<=many) (h1:many<=16) (hz:(cX u t2 many).2.2=true):lI s t E O (cX u t2 many).1 (cX u t2 many).2.1/\(cX u t2 many).2.1.many=many:=by
 obtain⟨d,hP,h3,h2⟩:=h.fi.art h.tree h0 h1 hz
 have hK:=h.fi.cm (by rw [hP.same.cz];exact ZC1 _) hP.kp λr=>by show _<=O r+_+_;omega
 exact⟨⟨h3,h2,λj hj=>(hK.2.1 j hj).trans (h.get j hj),h.same.trans hP.same⟩,hP.many⟩
def lI.aoA {s:ay}{t:bf}{E:Nat->Bool}{O:Nat->Nat}:∀{l:List ByteArray}{i:Nat}{u:ay}{t2:bf},lI s t E O u t2->i+l.length<=16->(jP l i u t2).2.2=true->lI s t E O (jP l i u t2).1 (jP l i u t2).2.1
 |[],i,u,t2,h,_,_=>h
 |x::l,i,u,t2,h,hi,hz=>by
  rw [ZA1] at hi
  cases hx:(aP u t2 i x).2.2 with
  |false=>rw [UT hx] at hz;cases hz
  |true=>
   rw [US hx] at hz ⊢
   exact lI.aoA (h.put (by omega) (by omega) hx).1 (by omega) hz
def lI.arv {s u:ay}{t:bf}{E:Nat->Bool}{O:Nat->Nat}{t2:bf}{text:ByteArray}(h:lI s t E O u t2) (hz:(eg u t2 text).2.2=true):lI s t E O (eg u t2 text).1 (eg u t2 text).2.1/\(eg u t2 text).2.1.many=((lN text).length:Int):=by
 unfold eg at hz ⊢
 cases hg:decide (((lN text).length:Int)>16) with
 |true=>rw [hg] at hz;cases hz
 |false=>
  rw [hg] at hz
  have hl:=aD hg
  simp only [cond_false] at hz ⊢
  unfold P8 at hz ⊢
  cases h1:(jP (lN text) 0 u t2).2.2 with
  |false=>rw [h1] at hz;simp only [Bool.not_false,cond_true] at hz;rw [h1] at hz;cases hz
  |true=>
   rw [h1] at hz
   simp only [Bool.not_true,cond_false] at hz ⊢
   exact (h.aoA (by omega) h1).cut (by omega) (by omega) hz
def aha (s:ay):Tree s qS 0:=by
 have h:pX s qS 0:=⟨rfl,ZA7 _,lH s 0⟩
 refine⟨h,ZC1 _,by decide,by decide,λi _=>?_⟩
 rw [nV h]
 show au (nth ae (ch::cL 15) i)=true
 rw [show (ch::cL 15)=cL 16 from rfl,HJ];rfl
def qQ.level {s:ay}{n:Nat}{p:Pt}(h:qQ s n p):au p=true\/p.2.2.2.2=(n:Int):=by
 cases hh:au p with
 |true=>exact .inl rfl
 |false=>
  right
  cases n with
  |zero=>exact (h.2 hh).1
  |succ n=>exact (pW hh (h.2.1 hh)).2.1
abbrev lq (n:dN) (sz:Int) (t:bf):dN:=(n.1,n.2.1,sz,t)
def agn {n:dN}{u:ay}{t:bf}{sz:Int}(hn:cx n=true) (db:0<=sz/\sz<=16*lg n.1) (ht:Tree u t t.d) (hm:t.many=bn sz (lg n.1)):cx (lq n sz t)=true:=by
 obtain⟨b1,b2,b3,b4,b5,b6,b7,b8,b9⟩:=il hn
 have he:lg n.1≠0:=by
  intro e
  have:bq n.1 n.2.2.1= -1:=by unfold bq;rw [e];rfl
  omega
 have hp:bq n.1 sz=t.many:=by
  unfold bq
  rw [decide_eq_false he,show gC sz 0 (16*lg n.1)=true from cy.2 db,hm];rfl
 have hl:gC n.2.1 1 (bif decide (n.1=2) then 1 else 9)=true:=by
  unfold cx at hn
  cases hb:decide (bq n.1 n.2.2.1<0)||(decide (n.2.2.2.2.2.2.2.2.2≠bq n.1 n.2.2.1)||(decide (n.2.2.2.2.2.2.2.2.1≠bo (bq n.1 n.2.2.1))|| !(bc n.root))) with
  |true=>rw [hb] at hn;cases hn
  |false=>
   rw [hb,cond_false] at hn
   simp only [ZB1] at hn
   exact hn.1
 have h0:=ht.m0
 have hd:t.depth=bo t.many:=by rw [ht.dm];exact ht.tm.dep
 have KS:=ht.tm.snd.level
 have hdd:=ht.tm.dep
 unfold cx
 have e1:decide (bq (lq n sz t).1 (lq n sz t).2.2.1<0)=false:=by
  show decide (bq n.1 sz<0)=false
  rw [hp];exact decide_eq_false (by omega)
 have e2:decide ((lq n sz t).2.2.2.2.2.2.2.2.2≠bq (lq n sz t).1 (lq n sz t).2.2.1)=false:=by
  show decide (t.many≠bq n.1 sz)=false
  rw [hp];exact decide_eq_false (by simp)
 have e3:decide ((lq n sz t).2.2.2.2.2.2.2.2.1≠bo (bq (lq n sz t).1 (lq n sz t).2.2.1))=false:=by
  show decide (t.depth≠bo (bq n.1 sz))=false
  rw [hp,hd];exact decide_eq_false (by simp)
 have e4:bc (lq n sz t).root=true:=ht.tm.snd.pok
 rw [e1,e2,e3,e4]
 show (gC n.2.1 1 (bif decide (n.1=2) then 1 else 9)&&(au t.root||decide (t.root.2.2.2.2=t.depth)))=true
 rw [hl,Bool.true_and]
 rcases KS with h |h
 ·rw [h];rfl
 ·rw [decide_eq_true (by rw [h,hdd]),ZC7]
abbrev E0:Nat->Bool:=λ_=>false
abbrev O0:Nat->Nat:=λ_=>0
structure FS (s:ay) (t:bf):Prop where
 fi:FI s t E0 O0
 root:(nodeAt s t 0).1=2
def FS.cW {s:ay}{t:bf}(h:FS s t) {k:Int}(h0:0<=k):GL.cW s t k=aG (getM s t k.toNat):=by
 cases hc: !(gC k 0 (t.many-1)) with
 |false=>exact ac6 hc
 |true=>
  have h1:¬(0<=k/\k<=t.many-1):=λe=>by
   have:gC k 0 (t.many-1)=true:=cy.2 e
   rw [this] at hc;cases hc
  rw [ac7 hc,oD h.fi.tree (j:=k.toNat) (by omega),ez]
def NK {s:ByteArray}(h:(aG s).2=true):cx (aG s).1=true:=by
 cases h1: !(az s).2 with
 |true=>rw [rS h1] at h;cases h
 |false=>cases h2:decide (((az s).1.length:Int)≠7) with
  |true=>rw [ox h2] at h;cases h
  |false=>cases h3: !(cx (ia (az s).1)) with
   |true=>rw [vV h3] at h;cases h
   |false=>cases h4:decide (aB (ia (az s).1)≠s) with
    |true=>rw [rR h4] at h;cases h
    |false=>rw [vW h1 h2 h3 h4];exact cr h3
def BY {s:ByteArray}(h:(aG s).2=false):(aG s).1=dq:=by
 cases h1: !(az s).2 with
 |true=>rw [rS h1]
 |false=>cases h2:decide (((az s).1.length:Int)≠7) with
  |true=>rw [ox h2]
  |false=>cases h3: !(cx (ia (az s).1)) with
   |true=>rw [vV h3]
   |false=>cases h4:decide (aB (ia (az s).1)≠s) with
    |true=>rw [rR h4]
    |false=>rw [vW h1 h2 h3 h4] at h;cases h
def FS.at {s:ay}{t:bf}(h:FS s t) {i:Nat}(hi:i<16):Tree s (cK (nodeAt s t i)) (cK (nodeAt s t i)).d/\(cx (nodeAt s t i)=true\/nodeAt s t i=dq):=by
 rcases h.fi.nodes i hi rfl with h1 |h1
 ·have e:nodeAt s t i=dq:=by show (aG (getM s t i)).1=_;rw [h1,ez]
  rw [e]
  exact⟨aha s,.inr rfl⟩
 ·exact⟨h1.2.tree,.inl h1.2.ok⟩
def FS.take {s:ay}{t:bf}(h:FS s t) {i:Nat}(hi:i<16):lI s t (tS E0 i) O0 s (cK (nodeAt s t i)):=
 ⟨h.fi.take hi rfl,(h.at hi).1,λ_ _=>rfl,eB.refl _⟩
def FS.back {s u:ay}{t:bf}{i:Nat}{n:dN}(h:FS s t) (hi:i<16) (hB:lI s t (tS E0 i) O0 u (cK n)) (hr:i=0->cx n=true/\n.1=2) (hz:(aP u t i (aB n)).2.2=true):
  FS (aP u t i (aB n)).1 (aP u t i (aB n)).2.1/\(∀k,k<16->k≠i->getM (aP u t i (aB n)).1 (aP u t i (aB n)).2.1 k=getM s t k)/\eB s (aP u t i (aB n)).1:=by
 have hE:tS E0 i i=true:=by unfold tS;rw [decide_eq_true rfl];rfl
 have h1:=hB.fi.aea (n:=n) hi hE (λho=>⟨ho,hB.tree⟩) hz
 have hg:∀k,k<16->k≠i->getM (aP u t i (aB n)).1 (aP u t i (aB n)).2.1 k=getM s t k:=λk hk ft=>(h1.2.other k hk ft).trans (hB.get k hk)
 have hf:=h1.1
 rw [ae5 (show E0 i=false from rfl)] at hf
 refine⟨⟨hf,?_⟩,hg,hB.same.trans h1.2.same⟩
 show (aG (getM _ _ 0)).1.1=2
 by_cases e:i=0
 ·obtain⟨ho,h2⟩:=hr e
  subst e
  rw [h1.2.at_,vU ho];exact h2
 ·rw [hg 0 (by omega) (λh=>e h.symm)];exact h.root
def FS.write {s:ay}{t:bf}{i:Nat}{text:ByteArray}(h:FS s t) (hi:i<16) (hb:(eg s (cK (nodeAt s t i)) text).2.2=true)
  (hz:(aP (eg s (cK (nodeAt s t i)) text).1 t i (aB (lq (nodeAt s t i) text.size (eg s (cK (nodeAt s t i)) text).2.1))).2.2=true):
  FS (aP (eg s (cK (nodeAt s t i)) text).1 t i (aB (lq (nodeAt s t i) text.size (eg s (cK (nodeAt s t i)) text).2.1))).1 (aP (eg s (cK (nodeAt s t i)) text).1 t i (aB (lq (nodeAt s t i) text.size (eg s (cK (nodeAt s t i)) text).2.1))).2.1/\
  (∀k,k<16->k≠i->getM (aP (eg s (cK (nodeAt s t i)) text).1 t i (aB (lq (nodeAt s t i) text.size (eg s (cK (nodeAt s t i)) text).2.1))).1 (aP (eg s (cK (nodeAt s t i)) text).1 t i (aB (lq (nodeAt s t i) text.size (eg s (cK (nodeAt s t i)) text).2.1))).2.1 k=getM s t k)/\
  eB s (aP (eg s (cK (nodeAt s t i)) text).1 t i (aB (lq (nodeAt s t i) text.size (eg s (cK (nodeAt s t i)) text).2.1))).1:=by
 have hB:=(h.take hi).arv hb
 have hl:((lN text).length:Int)<=16:=by rw [<-hB.2];exact hB.1.tree.m1
 refine h.back hi (n:=lq (nodeAt s t i) text.size (eg s (cK (nodeAt s t i)) text).2.1) hB.1 (λe=>?_) hz
 subst e
 have h2:(nodeAt s t 0).1=2:=h.root
 have cn:cx (nodeAt s t 0)=true:=by
  rcases (h.at hi).2 with h3 |h3
  ·exact h3
  ·rw [h3] at h2;exact absurd h2 (by decide)
 refine⟨agn cn ?_ hB.1.tree ?_,h2⟩
 ·rw [h2];have:=aed text;show 0<=(text.size:Int)/\(text.size:Int)<=16*128;omega
 ·rw [hB.2,h2,aed];show _=((text.size:Int)+128-1) / 128;omega
def FS.make {s:ay}{t:bf}{i:Nat}{kind:Int}(h:FS s t) (hi:i<16) (h0:getM s t i=⟨#[]⟩) (hz:(aP s t i (aB (kind,1,0,qS))).2.2=true):
  FS (aP s t i (aB (kind,1,0,qS))).1 (aP s t i (aB (kind,1,0,qS))).2.1/\(∀k,k<16->k≠i->getM (aP s t i (aB (kind,1,0,qS))).1 (aP s t i (aB (kind,1,0,qS))).2.1 k=getM s t k)/\eB s (aP s t i (aB (kind,1,0,qS))).1:=by
 have e:nodeAt s t i=dq:=by show (aG (getM s t i)).1=_;rw [h0,ez]
 have hB:=h.take hi
 rw [e] at hB
 refine h.back hi (n:=(kind,1,0,qS)) hB (λe0=>?_) hz
 subst e0
 have:=h.root
 rw [e] at this;exact absurd this (by decide)
def FS.aiN {s:ay}{t:bf}{i:Nat}{l:Int}(h:FS s t) (hi:i<16) (hi0:0<i)
  (hz:(aP s t i (aB ((nodeAt s t i).1,l,(nodeAt s t i).2.2))).2.2=true):
  FS (aP s t i (aB ((nodeAt s t i).1,l,(nodeAt s t i).2.2))).1 (aP s t i (aB ((nodeAt s t i).1,l,(nodeAt s t i).2.2))).2.1/\(∀k,k<16->k≠i->getM (aP s t i (aB ((nodeAt s t i).1,l,(nodeAt s t i).2.2))).1 (aP s t i (aB ((nodeAt s t i).1,l,(nodeAt s t i).2.2))).2.1 k=getM s t k)/\eB s (aP s t i (aB ((nodeAt s t i).1,l,(nodeAt s t i).2.2))).1:=
 h.back hi (n:=((nodeAt s t i).1,l,(nodeAt s t i).2.2)) (h.take hi) (λe=>absurd e (by omega)) hz
def FI.anS {s:ay}{t:bf}{many:Int}(h:FI s t E0 O0) (h0:0<=many) (h1:many<=16) (qw:∀k:Nat,k<16->many<=(k:Int)->getM s t k=⟨#[]⟩) (hz:(cX s t many).2.2=true):
  FI (cX s t many).1 (cX s t many).2.1 E0 O0/\(∀k,k<16->getM (cX s t many).1 (cX s t many).2.1 k=getM s t k)/\eB s (cX s t many).1:=by
 obtain⟨d,hP⟩:=TS (X:=λr=>iS s t E0 r) (h.acc.mono λr=>by show iS s t E0 r+bF (eu s t) r<=0+bF (eu s t) r+iS s t E0 r;omega) h.tree h0 h1 hz
 generalize (cX s t many).1=u at *
 generalize (cX s t many).2.1=t' at *
 have hg:∀k,k<16->getM u t' k=getM s t k:=λk hk=>by
  rw [hP.get k hk]
  split
  ·rfl
  ·rename_i hc;exact (qw k hk (by omega)).symm
 have JE:∀k,k<16->getM s t k≠⟨#[]⟩->AQ u (nodeAt s t k)/\ew u (nodeAt s t k)=ew s (nodeAt s t k):=λk tK ft=>by
  have hn:=(h.nodes k tK rfl).resolve_left ft
  refine hn.2.kp (by rw [hP.same.cz];exact ZC1 _) hP.kp λr=>?_
  exact VS (f:=λk=>bif E0 k then 0 else bF (ew s (nodeAt s t k)) r) (l:=List.range 16) (ZE8.2 tK)
 refine⟨⟨hP.tree.at,λk hk _=>?_,hP.acc.mono λr=>?_⟩,hg,hP.same⟩
 ·by_cases h2:getM s t k=⟨#[]⟩
  ·left;rw [hg k hk];exact h2
  ·right
   have hn:=(h.nodes k hk rfl).resolve_left h2
   unfold nodeAt
   rw [hg k hk]
   exact⟨hn.1,(JE k hk h2).1⟩
 ·have e:iS u t' E0 r=iS s t E0 r:=by
   unfold iS
   refine UG λk hk=>?_
   have hk:=ZE8.1 hk
   show bF (ew u (aG (getM u t' k)).1) r=bF (ew s (nodeAt s t k)) r
   rw [hg k hk]
   by_cases h2:getM s t k=⟨#[]⟩
   ·rw [show (aG (getM s t k)).1=dq by rw [h2,ez],show nodeAt s t k=dq by show (aG (getM s t k)).1=_;rw [h2,ez]]
    rfl
   ·show bF (ew u (nodeAt s t k)) r=_
    rw [(JE k hk h2).2]
  rw [e,LH hP.tree]
  show 0+_+_<=_;omega
def FI.apu {s:ay}{t:bf}{E:Nat->Bool}{l:List Pt}(h:FI s t E (λr=>0+bF l r)) (hl:∀p∈l,bc p=true):FI (dV l s) t E O0/\(∀k,k<16->getM (dV l s) t k=getM s t k)/\eB s (dV l s):=by
 rw [yz]
 obtain⟨h1,h2,h3⟩:=CE (l:=l) (O':=λr=>bF (eu s t) r+iS s t E r) h.acc hl λr=>by show _<=0+bF l r+_+_;omega
 have hK:=h.cm (by rw [h3.cz];exact ZC1 _) h2 λr=>ZB0 _
 refine⟨⟨hK.1,hK.2.2.2.1,h1.mono λr=>?_⟩,hK.2.1,h3⟩
 rw [hK.2.2.1,hK.2.2.2.2 r];show 0+_+_<=_;omega
def adX {s:ay}:∀{n:Nat}{p:Pt},qQ s n p->∀q∈iF s n p,bc q=true
 |0,p,h,q,hq=>by rw [ZD0.1 hq];exact h.1
 |n+1,p,h,q,hq=>by
  rcases ZB7.1 hq with rfl |hq
  ·exact h.1
  ·obtain⟨x,hx,hq⟩:=List.mem_flatMap.1 hq
   exact adX (h.2.2 x hx) q hq
def cG (s:ay) (t:bf) (k:Int):ay×bf×Bool:=
 bif !(aP (dV (allM s (cK (cW s t k).1)) s) t k ⟨#[]⟩).2.2 then ((aP (dV (allM s (cK (cW s t k).1)) s) t k ⟨#[]⟩).1,(aP (dV (allM s (cK (cW s t k).1)) s) t k ⟨#[]⟩).2.1,false)
 else cX (aP (dV (allM s (cK (cW s t k).1)) s) t k ⟨#[]⟩).1 (aP (dV (allM s (cK (cW s t k).1)) s) t k ⟨#[]⟩).2.1 (nS s t k)
def D8 (nI:Int):∀{l:List ByteArray}{k:Nat}{n:Int},0<=n->n<=k->0<=jS nI l k n/\n<=jS nI l k n/\jS nI l k n<=k+l.length
 |[],k,n,h0,h1=>⟨h0,ZC1 _,by show n<=(k:Int)+((0:Nat):Int);omega⟩
 |x::l,k,n,h0,h1=>by
  unfold jS
  cases decide ((k:Int)≠nI)&&decide (x≠⟨#[]⟩) with
  |true=>
   have:=D8 nI (l:=l) (k:=k+1) (n:=(k:Int)+1) (by omega) (by omega)
   rw [ZA1];exact⟨this.1,by have:=this.2.1;show n<=jS nI l (k+1) ((k:Int)+1);omega,by have:=this.2.2;show jS nI l (k+1) ((k:Int)+1)<=_;omega⟩
  |false=>
   have:=D8 nI (l:=l) (k:=k+1) (n:=n) (by omega) (by omega)
   rw [ZA1];exact⟨this.1,by have:=this.2.1;show n<=jS nI l (k+1) n;omega,by have:=this.2.2;show jS nI l (k+1) n<=_;omega⟩
def N8 (nI:Int):∀{l:List ByteArray}{k:Nat}{n:Int},0<=n->n<=k->∀j,j<l.length->((k+j:Nat):Int)≠nI->nth ab l j≠⟨#[]⟩->((k+j:Nat):Int)<jS nI l k n
 |x::l,k,n,h0,h1,j,hj,hb,hx=>by
  unfold jS
  cases j with
  |zero=>
   have hx:x≠⟨#[]⟩:=hx
   have hb:(k:Int)≠nI:=hb
   rw [decide_eq_true hx,decide_eq_true hb]
   have:=D8 nI (l:=l) (k:=k+1) (n:=(k:Int)+1) (by omega) (by omega)
   show ((k+0:Nat):Int)<jS nI l (k+1) ((k:Int)+1);omega
  |succ j=>
   have hj:j<l.length:=by rw [ZA1] at hj;omega
   have hx:nth ab l j≠⟨#[]⟩:=hx
   have e:k+(j+1)=k+1+j:=by omega
   rw [e] at hb ⊢
   cases decide ((k:Int)≠nI)&&decide (x≠⟨#[]⟩) with
   |true=>exact N8 nI (l:=l) (k:=k+1) (n:=(k:Int)+1) (by omega) (by omega) j hj hb hx
   |false=>exact N8 nI (l:=l) (k:=k+1) (n:=n) (by omega) (by omega) j hj hb hx
def N7 {s:ay}{t:bf}(h:t.ok) (nI:Int):0<=nS s t nI/\nS s t nI<=t.many:=by
 have h1:=D8 nI (l:=aE s t) (k:=0) (n:=0) (ZC1 _) (ZC1 _)
 rw [eV h] at h1
 have:=h.m0
 exact⟨h1.1,by have:=h1.2.2;unfold nS;omega⟩
def aiR {s:ay}{t:bf}(h:Tree s t t.d) {nI:Int}{j:Nat}(hj:(j:Int)≠nI) (hx:getM s t j≠⟨#[]⟩):(j:Int)<nS s t nI:=by
 have cn:=h.ok
 have hm:j<t.many.toNat:=by
  refine Decidable.byContradiction λhn=>hx (oD h (by have:=h.m0;omega))
 have:=N8 nI (l:=aE s t) (k:=0) (n:=0) (ZC1 _) (ZC1 _) j (by rw [eV cn];exact hm) (by rw [ZA6];exact hj) (by rw [AX cn hm];exact hx)
 rw [ZA6] at this;exact this
def FS.drop {s:ay}{t:bf}{i:Nat}(h:FS s t) (hi:i<16) (hi0:0<i) (hz:(cG s t i).2.2=true):FS (cG s t i).1 (cG s t i).2.1/\eB s (cG s t i).1:=by
 have hn:(GL.cW s t i).1=nodeAt s t i:=by rw [h.cW (by omega)];rfl
 have hB:=h.take hi
 have qw:=QF hB.tree.tm
 have jV:=(hB.fi.more (O':=λr=>0+bF (allM s (cK (nodeAt s t i))) r) λr=>by
  rw [qw.2]
  have:=adt nhB (ew s (nodeAt s t i)) r
  show 0+bF (List.filter nhB (ew s (nodeAt s t i))) r<=0+bF (ew s (nodeAt s t i)) r;omega).apu λp hp=>by
   rw [qw.2] at hp
   exact adX hB.tree.tm.snd p ((ZG1.1 hp).1)
 unfold cG at hz ⊢
 rw [hn] at hz ⊢
 generalize dV (allM s (cK (nodeAt s t i))) s=u at *
 cases hp:(aP u t i ⟨#[]⟩).2.2 with
 |false=>rw [hp] at hz;cases hz
 |true=>
  rw [hp] at hz
  simp only [Bool.not_true,cond_false] at hz ⊢
  have hE:tS E0 i i=true:=by unfold tS;rw [decide_eq_true rfl];rfl
  have hP:=jV.1.aoB (i:=i) (text:=⟨#[]⟩) hi hE hp
  have hF:=hP.fi.amJ hi hE hP.at_
  rw [ae5 (show E0 i=false from rfl)] at hF
  have hl:=N7 (s:=s) h.fi.tree.ok i
  have CB:=h.fi.tree.m1
  have hg:∀k,k<16->k≠i->getM (aP u t i ⟨#[]⟩).1 (aP u t i ⟨#[]⟩).2.1 k=getM s t k:=λk hk ft=>(hP.other k hk ft).trans (jV.2.1 k hk)
  have hc:=hF.anS (many:=nS s t i) hl.1 (by omega) (λk hk hlk=>by
   by_cases e:k=i
   ·rw [e];exact hP.at_
   ·rw [hg k hk e]
    refine Decidable.byContradiction λhx=>?_
    have:=aiR h.fi.tree (nI:=(i:Int)) (j:=k) (by omega) hx
    omega) hz
  refine⟨⟨hc.1,?_⟩,(jV.2.2.trans hP.same).trans hc.2.2⟩
  show (aG (getM _ _ 0)).1.1=2
  rw [hc.2.1 0 (by omega),hg 0 (by omega) (by omega)];exact h.root
def FS.next {s:ay}{t:bf}(h:FS s t) (ht:s.cz<1000000):FS (jR s) t:=by
 obtain⟨h1,h2⟩:=h.fi.next ht
 refine⟨h1,?_⟩
 show (aG (getM _ _ 0)).1.1=2
 rw [h2 0 (by omega)];exact h.root
def FS.many {s:ay}{t:bf}(h:FS s t):1<=t.many:=by
 refine Decidable.byContradiction λhn=>?_
 have e:=oD h.fi.tree (j:=0) (by omega)
 have:=h.root
 unfold nodeAt at this
 rw [e,ez] at this
 exact absurd this (by decide)
