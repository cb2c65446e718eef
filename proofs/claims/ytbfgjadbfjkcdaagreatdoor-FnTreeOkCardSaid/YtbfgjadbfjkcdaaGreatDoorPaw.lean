/- FnTreeOk returns true for every code (its row lists package variables, tied by the card): part 23. -/
import Derived.Test.YtbfgjadbfjkcdaaGreatDoorPao
import Derived.Test.YtbfgjadbfjkcdaaGreatDoorPaq
set_option maxHeartbeats 20000000
set_option linter.all false
namespace Go.Proofs.YtbfgjadbfjkcdaaGreatDoor
namespace GL
abbrev lb (s:ByteArray):List UInt8:=s.data.toList
theorem vF {s t:ByteArray}(h:lb s=lb t):s=t:=by
 cases s;cases t;simp only [lb] at h;congr 1;exact Array.toList_inj.1 h
theorem wT (s t:ByteArray):lb (s++t)=lb s++lb t:=by
 show (s++t).data.toList=_
 rw [ByteArray.data_append,Array.toList_append]
theorem fp (s:ByteArray):s.size=(lb s).length:=by
 show s.data.size=s.data.toList.length
 rw [ZE5]
theorem adZ:lb ⟨#[]⟩=[]:=rfl
theorem ajn:lb ByteArray.empty=[]:=rfl
theorem mZ (s:ByteArray) (a b:Nat):lb (s.extract a b)=((lb s).take b).drop a:=by
 simp only [lb,ByteArray.data_extract,Array.toList_extract]
 rw [List.extract_eq_take_drop,List.drop_take]
theorem nt (s:ByteArray) (k:Nat):bN s k=(match (lb s)[k]? with |some b=>(b.toNat:Int) |none=>0):=by
 unfold bN
 have e:s[k]?=(lb s)[k]?:=by
  by_cases h:k<s.size
  ·have h':k<(lb s).length:=by rw [←fp];exact h
   rw [getElem?_pos s k h,ZB2 h']
   rfl
  ·have h':¬k<(lb s).length:=by rw [←fp];exact h
   rw [getElem?_neg s k h,ZD9 (by omega)]
 rw [e]
 cases (lb s)[k]?<;>rfl
theorem TN:∀(l:List Int) (r:ByteArray),lb (l.foldl (fun r n=>r.push (UInt8.ofNat n.toNat)) r)=lb r++l.map (fun n=>UInt8.ofNat n.toNat)
 |[],r=>by simp
 |n::l,r=>by
  rw [List.foldl_cons,TN l]
  simp [lb,ByteArray.push]
theorem MI (l:List Int):lb (fc l)=l.map (fun n=>UInt8.ofNat n.toNat):=by
 rw [fc,TN];rfl
def mw (c:UInt8):List UInt8→List (List UInt8)
 |[]=>[[]]
 |x::l=>if x=c then []::mw c l else
  match mw c l with
  |h::t=>(x::h)::t
  |[]=>[[x]]
theorem r9 (c x:UInt8) (l:List UInt8):mw c (x::l)=if x=c then []::mw c l else
  match mw c l with
  |h::t=>(x::h)::t
  |[]=>[[x]]:=rfl
theorem zu (c:UInt8) (l:List UInt8):mw c l≠[]:=by
 cases l with
 |nil=>simp [mw]
 |cons x l=>
  unfold mw;split
  ·simp
  ·split<;>simp
theorem wG (c x:UInt8):∀(l:List UInt8) (a:List (List UInt8)) (r:List UInt8),mw c l=a++[r]→mw c (l++[x])=if x=c then a++[r]++[[]] else a++[r++[x]]
 |[],a,r,h=>by
  have h:[[]]=a++[r]:=h
  cases a with
  |nil=>
   simp only [ZC9,ZG7,and_true] at h
   subst h
   by_cases hx:x=c
   ·simp [mw,hx]
   ·simp [mw,hx]
  |cons y a=>simp at h
 |y::l,a,r,h=>by
  rw [ZG5]
  rw [r9] at h ⊢
  by_cases hy:y=c
  ·rw [if_pos hy] at h ⊢
   cases a with
   |nil=>
    simp only [ZC9,ZG7] at h
    exact absurd h.2 (zu c l)
   |cons z a=>
    simp only [ZG5,ZG7] at h
    obtain⟨hz,h⟩:=h
    rw [wG c x l a r h,←hz]
    by_cases hx:x=c<;>simp [hx]
  ·rw [if_neg hy] at h ⊢
   cases e:mw c l with
   |nil=>exact absurd e (zu c l)
   |cons w t=>
    rw [e] at h
    cases a with
    |nil=>
     simp only [ZC9,ZG7] at h
     obtain⟨hr,ht⟩:=h
     subst ht
     have:=wG c x l [] w (by simpa using e)
     rw [this,←hr]
     by_cases hx:x=c<;>simp [hx]
    |cons z a=>
     simp only [ZG5,ZG7] at h
     obtain⟨hz,ht⟩:=h
     have:=wG c x l (w::a) r (by rw [e,ht];rfl)
     rw [this,←hz]
     by_cases hx:x=c<;>simp [hx]
theorem zq {s:ByteArray}{k:Nat}(h:k<(lb s).length):(lb s).take (k+1)=(lb s).take k++[(lb s)[k]]:=by
 rw [List.take_add_one,ZB2 h];rfl
theorem NQ (s:ByteArray) (c:UInt8):∀k,k≤(lb s).length→(ja s c.toNat k).2≤k∧mw c ((lb s).take k)=(ja s c.toNat k).1.map lb++[((lb s).take k).drop (ja s c.toNat k).2]
 |0,_=>⟨ZB6 _,by simp [ja,mw]⟩
 |k+1,hk=>by
  obtain⟨h1,h2⟩:=NQ s c k (by omega)
  have bU:k<(lb s).length:=by omega
  have hb:bN s k=(((lb s)[k]).toNat:Int):=by rw [nt,ZB2 bU]
  have hs:=wG c ((lb s)[k]) _ _ _ h2
  rw [zq bU,hs]
  rw [show ja s ((c.toNat:Nat):Int) (k+1)=bif decide (bN s k=((c.toNat:Nat):Int)) then ((ja s c.toNat k).1++[s.extract (ja s c.toNat k).2 k],k+1) else ja s c.toNat k from rfl]
  have hd:decide (bN s k=((c.toNat:Nat):Int))=decide ((lb s)[k]=c):=by
   rw [hb]
   by_cases e:(lb s)[k]=c
   ·simp [e]
   ·have:¬(((lb s)[k]).toNat:Int)=(c.toNat:Int):=fun h=>e (UInt8.toNat_inj.1 (by omega))
    rw [decide_eq_false this,decide_eq_false e]
  rw [hd]
  by_cases e:(lb s)[k]=c
  ·rw [decide_eq_true e,if_pos e]
   simp only [cond_true]
   refine⟨ZB6 _,?_⟩
   rw [List.map_append,ZE8,List.map_nil,mZ]
   congr 1
   have:((lb s).take k++[(lb s)[k]]).length=k+1:=by rw [ZA0,ZB8,List.length_singleton];omega
   rw [ZB4 (ZA9 this)]
  ·rw [decide_eq_false e,if_neg e]
   simp only [cond_false]
   refine⟨by omega,?_⟩
   congr 2
   rw [List.drop_append_of_le_length (by rw [ZB8];omega)]
theorem J1 (s:ByteArray) (c:UInt8):(bo s c.toNat).map lb=mw c (lb s):=by
 have h:=NQ s c (lb s).length (ZB6 _)
 rw [ZD1 (ZB6 _)] at h
 rw [h.2,bo,List.map_append,ZE8,List.map_nil,mZ,fp]
 rw [ZD1 (ZB6 _)]
theorem lI (c:UInt8):∀(a b:List UInt8),mw c (a++c::b)=mw c a++mw c b
 |[],b=>by simp [mw]
 |x::a,b=>by
  rw [ZG5]
  have ih:=lI c a b
  rw [r9,r9]
  by_cases hx:x=c
  ·rw [if_pos hx,if_pos hx,ih];rfl
  ·rw [if_neg hx,if_neg hx,ih]
   cases e:mw c a with
   |nil=>exact absurd e (zu c a)
   |cons h t=>rfl
theorem gl (c:UInt8):∀(a:List UInt8),c∉a→mw c a=[a]
 |[],_=>rfl
 |x::a,h=>by
  have hx:¬x=c:=fun e=>h (by simp [e])
  rw [r9,if_neg hx,gl c a (fun hh=>h (by simp [hh]))]
theorem na {k:Nat}(h:k<10):lb (dec k)=[UInt8.ofNat (48+k)]:=by
 rw [dec_lt h,MI]
 simp only [ZE8,List.map_nil]
 congr 2
theorem pj {k:Nat}(h:¬k<10):lb (dec k)=lb (dec (k / 10))++[UInt8.ofNat (48+k % 10)]:=by
 rw [YI h,wT,MI]
 simp only [ZE8,List.map_nil]
 congr 3
theorem sB {d:Nat}(h:d<10):(UInt8.ofNat (48+d)).toNat=48+d:=by
 rw [UInt8.toNat_ofNat'];omega
theorem tZ:∀(k:Nat),∀b∈lb (dec k),48≤b.toNat∧b.toNat≤57:=by
 intro k
 induction k using Nat.strongRecOn with
 |_ k ih=>
  intro b hb
  by_cases h:k<10
  ·rw [na h] at hb
   rw [ZC7.1 hb,sB h];omega
  ·rw [pj h] at hb
   rcases ZB5.1 hb with hb |hb
   ·exact ih (k / 10) (by omega) b hb
   ·rw [ZC7.1 hb,sB (by omega)];omega
theorem xm:∀(k:Nat),∃b l,lb (dec k)=b::l∧(b.toNat=48→l=[]):=by
 intro k
 induction k using Nat.strongRecOn with
 |_ k ih=>
  by_cases h:k<10
  ·exact⟨_,_,na h,fun _=>rfl⟩
  ·obtain⟨b,l,e,hb⟩:=ih (k / 10) (by omega)
   refine⟨b,l++[UInt8.ofNat (48+k % 10)],by rw [pj h,e];rfl,fun h48=>?_⟩
   exfalso
   have hl:=hb h48
   subst hl
   by_cases h2:k / 10<10
   ·rw [na h2] at e
    simp only [ZG7,and_true] at e
    have:=sB h2
    rw [e] at this
    omega
   ·rw [pj h2] at e
    have:=congrArg List.length e
    have h3:1≤(lb (dec (k / 10 / 10))).length:=by
     obtain⟨b',l',e',_⟩:=ih (k / 10 / 10) (by omega)
     rw [e'];simp
    simp only [ZA0,ZA1,ZA4] at this
    omega
def qP (l:List UInt8):Int:=l.foldl (fun n b=>10*n+((b.toNat:Int)-48)) 0
theorem wD (l:List UInt8) (b:UInt8):qP (l++[b])=10*qP l+((b.toNat:Int)-48):=by simp [qP]
theorem QQ:∀(k:Nat),qP (lb (dec k))=k:=by
 intro k
 induction k using Nat.strongRecOn with
 |_ k ih=>
  by_cases h:k<10
  ·rw [na h]
   have:=sB h
   simp only [qP,List.foldl_cons,List.foldl_nil];omega
  ·rw [pj h,wD,ih (k / 10) (by omega),sB (by omega)];omega
theorem CI (s:ByteArray):∀k,k≤(lb s).length→iP s k=qP ((lb s).take k)
 |0,_=>by simp [iP,qP]
 |k+1,h=>by
  have bU:k<(lb s).length:=by omega
  rw [zq bU,wD,iP,CI s k (by omega),nt,ZB2 bU]
theorem Z1 {s:ByteArray}:∀{j f k:Nat},j+k≤9→f+k=9→(∀i,k≤i→i<k+j→DG s i=true)→sF f s k=sF (f-j) s (k+j)
 |0,f,k,_,_,_=>by rw [Nat.sub_zero];rfl
 |j+1,f,k,h,hf,hd=>by
  obtain⟨g,rfl⟩:∃g,f=g+1:=⟨f-1,by omega⟩
  rw [sF,hd k (ZB6 _) (by omega),cond_true,Z1 (j:=j) (by omega) (by omega) (fun i h1 h2=>hd i (by omega) (by omega))]
  rw [show g+1-(j+1)=g-j by omega,show k+1+j=k+(j+1) by omega]
theorem Z8 {s:ByteArray}{n:Nat}{rest:List UInt8}(hn:n<1000000000) (hs:lb s=lb (dec n)++rest) (hr:∀b,rest.head?=some b→¬(48≤b.toNat∧b.toNat≤57)):CT s=((n:Int),((lb (dec n)).length:Int)):=by
 have hlen:(lb (dec n)).length≤9:=by rw [←fp];exact JW 8 n (by show n<10 ^ 9;omega)
 have dk:s.size=(lb (dec n)).length+rest.length:=by rw [fp,hs,ZA0]
 have xM:∀i,i<(lb (dec n)).length→bN s i=(match (lb (dec n))[i]? with |some b=>(b.toNat:Int) |none=>0):=fun i hi=>by
  rw [nt,hs,ZC2 hi]
 have ags:∀i,i<(lb (dec n)).length→DG s i=true:=fun i hi=>by
  have h1:=xM i hi
  rw [ZB2 hi] at h1
  have h2:=tZ n _ (List.getElem_mem hi)
  have h3:bN s i=(((lb (dec n))[i]).toNat:Int):=h1
  unfold DG
  rw [decide_eq_true (by omega),decide_eq_true (by omega),decide_eq_true (by omega),decide_eq_true (by omega)];rfl
 have aju:DG s (lb (dec n)).length=false:=by
  cases aeq:rest with
  |nil=>
   rw [aeq] at dk
   exact ahn (decide_eq_false (by rw [dk];simp))
  |cons b r=>
   have hb:=hr b (by rw [aeq];rfl)
   have h1:bN s (lb (dec n)).length=(b.toNat:Int):=by
    rw [nt,hs,ZC6 (ZB6 _),Nat.sub_self,aeq];rfl
   unfold DG
   by_cases h48:48≤b.toNat
   ·rw [decide_eq_false (p:=bN s (lb (dec n)).length≤57) (by omega),ZD8,ZD8,ZD8]
   ·rw [decide_eq_false (p:=bN s (lb (dec n)).length≥48) (by omega),Bool.false_and,ZD8,ZD8]
 have hnl:cX s=(lb (dec n)).length:=by
  refine TL hlen aju ?_
  have:=Z1 (s:=s) (j:=(lb (dec n)).length) (f:=9) (k:=0) (by omega) (by omega) (fun i _ h2=>ags i (by omega))
  rw [ZA7] at this
  exact this.symm
 have XW:iP s (lb (dec n)).length=n:=by
  rw [CI s _ (by rw [hs,ZA0];omega),hs,List.take_append_of_le_length (ZB6 _),ZD1 (ZB6 _),QQ]
 by_cases h1:1<(lb (dec n)).length
 ·obtain⟨b,l,e,hb⟩:=xm n
  have h0:bN s 0=(b.toNat:Int):=by rw [xM 0 (by omega),e];rfl
  have h2:¬b.toNat=48:=fun h=>by
   have:=hb h;rw [e,this] at h1;simp at h1
  rw [ag5 hnl (decide_eq_false (by omega)),XW]
 ·rw [ag6 hnl (decide_eq_false (by omega)),XW]
theorem S1 {n:Nat}(hn:n<1000000000):aD (dec n)=((n:Int),true):=by
 have h:=Z8 (s:=dec n) (rest:=[]) hn (by simp) (by simp)
 have nc:1≤(lb (dec n)).length:=by obtain⟨b,l,e,_⟩:=xm n;rw [e];simp
 unfold aD
 rw [h]
 simp only
 rw [decide_eq_false (p:=((lb (dec n)).length:Int)=0) (by omega),decide_eq_false (p:=((lb (dec n)).length:Int)≠((dec n).size:Int)) (by rw [fp];simp)];rfl
theorem ey {n:Int}(h0:0≤n) (hn:n<1000000000):aD (ca n)=(n,true):=by
 unfold ca
 rw [S1 (by omega),show ((n.toNat:Nat):Int)=n by omega]
theorem afi {n:Nat}{c:UInt8}(hc:¬(48≤c.toNat∧c.toNat≤57)):c∉lb (dec n):=fun h=>hc (tZ n c h)
end GL
namespace GL
theorem yJ:∀{l m:List ByteArray},l.map lb=m.map lb→l=m
 |[],[],_=>rfl
 |[],_::_,h=>by cases h
 |_::_,[],h=>by cases h
 |x::l,y::m,h=>by
  simp only [ZE8,ZG7] at h
  rw [vF h.1,yJ h.2]
theorem aaJ {s:ByteArray}{l:List ByteArray}(c:UInt8) (h:mw c (lb s)=l.map lb):bo s c.toNat=l:=
 yJ ((J1 s c).trans h)
theorem pz {n:Int}{c:UInt8}(hc:¬(48≤c.toNat∧c.toNat≤57)):c∉lb (ca n):=afi hc
theorem NP (n:Int):∃b l,lb (ca n)=b::l∧48≤b.toNat∧b.toNat≤57:=by
 obtain⟨b,l,e,_⟩:=xm n.toNat
 exact⟨b,l,e,tZ n.toNat b (by rw [e];simp)⟩
theorem wS {p:Pt}(h:a6 p=true) (h2:au p=false):lb (bd p)=lb (ca p.1)++46::(lb (ca p.2.1)++46::(lb (ca p.2.2.1)++46::(lb (ca p.2.2.2.1)++46::lb (ca p.2.2.2.2)))):=by
 unfold bd
 rw [h,h2]
 simp only [cond_true,cond_false,wT]
 simp only [ZD2]
 rfl
theorem q7 {p:Pt}(h2:au p=true):bd p=⟨#[45]⟩:=by
 have h:a6 p=true:=by unfold a6;rw [h2];rfl
 unfold bd;rw [h,h2];rfl
theorem iu {p:Pt}(h:au p=true):p=bO:=by
 unfold au at h
 simp only [ZB0,decide_eq_true_eq] at h
 obtain⟨a,b,c,d,e⟩:=p
 obtain⟨h1,h2,h3,h4,h5⟩:=h
 simp only at h1 h2 h3 h4 h5
 subst h1 h2 h3 h4 h5;rfl
theorem R2 {p:Pt}{c:UInt8}(h:a6 p=true) (hc:¬(48≤c.toNat∧c.toNat≤57)) (h1:c≠46) (h2:c≠45):c∉lb (bd p):=by
 cases hh:au p with
 |true=>rw [q7 hh];show c∉[45];simp [h2]
 |false=>
  rw [wS h hh]
  simp only [ZB5,ZB9,not_or]
  exact⟨pz hc,h1,pz hc,h1,pz hc,h1,pz hc,h1,pz hc⟩
theorem nR {p:Pt}(h:a6 p=true):bR (bd p)=(p,true):=by
 cases hh:au p with
 |true=>rw [q7 hh,wL (by decide),iu hh]
 |false=>
  have hl:=wS h hh
  obtain⟨b,l,e,hb1,hb2⟩:=NP p.1
  have fB:¬bd p=⟨#[45]⟩:=fun heq=>by
   rw [heq,e] at hl
   have:(45:UInt8)=b:=by
    have h1:=congrArg List.head? hl
    rw [show lb ⟨#[45]⟩=[45] from rfl,ZG5] at h1
    exact ZE7 h1
   rw [←this] at hb1;exact absurd hb1 (by decide)
  have h46:∀n:Int,(46:UInt8)∉lb (ca n):=fun n=>pz (by decide)
  have T7:bo (bd p) 46=[ca p.1,ca p.2.1,ca p.2.2.1,ca p.2.2.2.1,ca p.2.2.2.2]:=by
   refine aaJ 46 ?_
   rw [hl,lI,lI,lI,lI,gl _ _ (h46 _),gl _ _ (h46 _),gl _ _ (h46 _),gl _ _ (h46 _),gl _ _ (h46 _)]
   rfl
  have hbd:=pX h
  rw [sf (decide_eq_false fB) (by rw [T7];rfl),T7]
  have e1:=ey (n:=p.1) (by omega) (by omega)
  have e2:=ey (n:=p.2.1) (by omega) (by omega)
  have e3:=ey (n:=p.2.2.1) (by omega) (by omega)
  have e4:=ey (n:=p.2.2.2.1) (by omega) (by omega)
  have e5:=ey (n:=p.2.2.2.2) (by omega) (by omega)
  have hn:lx [ca p.1,ca p.2.1,ca p.2.2.1,ca p.2.2.2.1,ca p.2.2.2.2] []=some [p.1,p.2.1,p.2.2.1,p.2.2.2.1,p.2.2.2.2]:=by
   simp [lx,e1,e2,e3,e4,e5]
  rw [B3 hn]
  exact HI (n:=[p.1,p.2.1,p.2.2.1,p.2.2.2.1,p.2.2.2.2]) (by show (!(a6 p))=false;rw [h];rfl) hh
theorem mg {l:List Pt}(h:(bG l).2=true):∃a b c d,l=[a,b,c,d]∧a6 a=true∧a6 b=true∧a6 c=true∧a6 d=true∧(false|| !(au a)|| !(au b)|| !(au c)|| !(au d))=true∧lb (bG l).1=lb (bd a)++44::(lb (bd b)++44::(lb (bd c)++44::lb (bd d))):=by
 cases h4:decide ((l.length:Int)≠4) with
 |true=>rw [xg h4] at h;cases h
 |false=>
  have hl:l.length=4:=by have:=aA h4;omega
  rw [xf h4] at h ⊢
  match l,hl with
  |[a,b,c,d],_=>
   refine⟨a,b,c,d,rfl,?_⟩
   cases ha:a6 a with
   |false=>rw [px (by simp [hZ,ha])] at h;cases h
   |true=>cases hb:a6 b with
    |false=>rw [px (by simp [hZ,ha,hb])] at h;cases h
    |true=>cases hc:a6 c with
     |false=>rw [px (by simp [hZ,ha,hb,hc])] at h;cases h
     |true=>cases hd:a6 d with
      |false=>rw [px (by simp [hZ,ha,hb,hc,hd])] at h;cases h
      |true=>
       have e:hZ [a,b,c,d] 0 ⟨#[]⟩ false=some ((⟨#[]⟩++bd a)++⟨#[44]⟩++bd b++⟨#[44]⟩++bd c++⟨#[44]⟩++bd d,(false|| !(au a)|| !(au b)|| !(au c)|| !(au d))):=by
        simp [hZ,ha,hb,hc,hd]
       rw [sK e] at h ⊢
       cases hs: !(false|| !(au a)|| !(au b)|| !(au c)|| !(au d)) with
       |true=>rw [DB hs] at h;cases h
       |false=>
        rw [xh hs]
        refine⟨rfl,rfl,rfl,rfl,oN hs,?_⟩
        simp only [wT,adZ,ZC9,ZD2]
        rfl
theorem EO {l:List Pt}(h:(bG l).2=true):bn (bG l).1=(l,true):=by
 obtain⟨a,b,c,d,rfl,ha,hb,hc,hd,hs,hl⟩:=mg h
 have h44:∀p:Pt,a6 p=true→(44:UInt8)∉lb (bd p):=fun p hp=>R2 hp (by decide) (by decide) (by decide)
 have T7:bo (bG [a,b,c,d]).1 44=[bd a,bd b,bd c,bd d]:=by
  refine aaJ 44 ?_
  rw [hl,lI,lI,lI,gl _ _ (h44 a ha),gl _ _ (h44 b hb),gl _ _ (h44 c hc),gl _ _ (h44 d hd)]
  rfl
 have e:ov (bo (bG [a,b,c,d]).1 44) [] false=some ([a,b,c,d],false|| !(au a)|| !(au b)|| !(au c)|| !(au d)):=by
  rw [T7]
  simp [ov,nR ha,nR hb,nR hc,nR hd]
 rw [jY e]
 exact vT rfl (by rw [hs];rfl)
theorem vR {l:List Pt}(h4:l.length=4) (cA:∀p∈l,a6 p=true) (hn:(!(l.any fun p=> !(au p)))=false):(bG l).2=true:=by
 match l,h4 with
 |[a,b,c,d],_=>
  have ha:=cA a (by simp);have hb:=cA b (by simp);have hc:=cA c (by simp);have hd:=cA d (by simp)
  have e:hZ [a,b,c,d] 0 ⟨#[]⟩ false=some ((⟨#[]⟩++bd a)++⟨#[44]⟩++bd b++⟨#[44]⟩++bd c++⟨#[44]⟩++bd d,(false|| !(au a)|| !(au b)|| !(au c)|| !(au d))):=by
   simp [hZ,ha,hb,hc,hd]
  rw [xf rfl,sK e,xh]
  simp only [List.any_cons,List.any_nil,Bool.not_eq_false'] at hn
  rw [Bool.or_false] at hn
  simp only [Bool.false_or,Bool.or_assoc];rw [hn];rfl
def DF:List ByteArray→List UInt8
 |[]=>[]
 |x::l=>lb (ca x.size)++58::(lb x++DF l)
theorem EL:∀{l:List ByteArray}{out:ByteArray},(dC l out).2=true→lb (dC l out).1=lb out++DF l∧(∀x∈l,x.size≤2048)∧((dC l out).1.size≤2048∨l=[])
 |[],out,_=>⟨by simp [dC,DF],by simp,.inr rfl⟩
 |x::l,out,h=>by
  unfold dC at h ⊢
  cases h1:decide ((x.size:Int)>2048) with
  |true=>rw [h1] at h;cases h
  |false=>
   rw [h1] at h
   simp only [cond_false] at h ⊢
   cases h2:decide (((out++ca x.size++⟨#[58]⟩++x).size:Int)>2048) with
   |true=>rw [h2] at h;cases h
   |false=>
    rw [h2] at h
    simp only [cond_false] at h ⊢
    obtain⟨e1,e2,e3⟩:=EL h
    refine⟨?_,?_,.inl ?_⟩
    ·rw [e1]
     simp only [wT,DF,ZD2]
     rfl
    ·intro y hy
     rcases ZB9.1 hy with rfl |hy
     ·have:=aA h1;omega
     ·exact e2 y hy
    ·rcases e3 with e3 |rfl
     ·exact e3
     ·have:=aA h2
      show (dC [] _).1.size≤2048
      simp only [dC];omega
theorem EJ:∀{l:List ByteArray}{out:ByteArray},out.size+(l.map fun x=>x.size+13).sum≤2048→(dC l out).2=true
 |[],_,_=>rfl
 |x::l,out,h=>by
  simp only [ZE8,List.sum_cons] at h
  have hd:=dc (n:=(x.size:Int)) (by omega)
  have dk:(out++ca x.size++⟨#[58]⟩++x).size=out.size+(ca x.size).size+1+x.size:=by
   simp only [ZB3];rfl
  unfold dC
  rw [decide_eq_false (by omega),cond_false,decide_eq_false (by rw [dk];omega),cond_false]
  exact EJ (by rw [dk];omega)
theorem agd {s:ByteArray}{x:ByteArray}{tail:List UInt8}(hx:x.size≤2048) (hs:lb s=lb (ca x.size)++58::tail):CT s=((x.size:Int),((lb (ca x.size)).length:Int)):=by
 have:=Z8 (s:=s) (n:=x.size) (rest:=58::tail) (by omega) hs (fun b hb=>by
  simp only [List.head?_cons,Option.some.injEq] at hb
  rw [←hb];decide)
 exact this
theorem aap {s:ByteArray}:∀{l:List ByteArray}{f:Nat}{pre:List UInt8}{out:List ByteArray},lb s=pre++DF l→(∀x∈l,x.size≤2048)→l.length<f→JL f s pre.length out=some (out++l)
 |[],f,pre,out,hs,_,hf=>by
  obtain⟨g,rfl⟩:∃g,f=g+1:=⟨f-1,by simp at hf;omega⟩
  have dk:s.size=pre.length:=by rw [fp,hs];simp [DF]
  rw [aeV (decide_eq_false (by rw [dk];omega)),ZE4]
 |x::l,f,pre,out,hs,hx,hf=>by
  obtain⟨g,rfl⟩:∃g,f=g+1:=⟨f-1,by simp at hf;omega⟩
  have hx1:=hx x (by simp)
  have hs2:lb s=pre++(lb (ca x.size)++58::(lb x++DF l)):=hs
  have dk:s.size=pre.length+((lb (ca x.size)).length+(1+(x.size+(DF l).length))):=by
   rw [fp,hs2];simp only [ZA0,ZA1,←fp];omega
  obtain⟨b0,l0,e0,_⟩:=NP (x.size:Int)
  have hd1:1≤(lb (ca x.size)).length:=by rw [e0];simp
  have hex:lb (s.extract (pre.length:Int).toNat s.size)=lb (ca x.size)++58::(lb x++DF l):=by
   rw [mZ,fp,ZD1 (ZB6 _),hs2,ZA5,List.drop_left]
  have hr:tU s (pre.length:Int)=((x.size:Int),((lb (ca x.size)).length:Int)):=agd hx1 hex
  have xM:bN s ((pre.length:Int)+((lb (ca x.size)).length:Int)).toNat=58:=by
   rw [nt,hs2,show ((pre.length:Int)+((lb (ca x.size)).length:Int)).toNat=pre.length+(lb (ca x.size)).length by omega]
   rw [ZC6 (by omega),Nat.add_sub_cancel_left,ZC6 (ZB6 _),Nat.sub_self]
   rfl
  have iD:qy s (pre.length:Int) (tU s (pre.length:Int))=false:=by
   rw [hr]
   exact aau (decide_eq_false (by simp only;omega)) (decide_eq_false (by simp only;omega)) (decide_eq_false (by simp only;rw [xM];simp)) (decide_eq_false (by simp only;omega))
  rw [ahk (decide_eq_true (by omega)) iD,hr]
  have ah5:s.extract ((pre.length:Int)+((lb (ca x.size)).length:Int)+1).toNat ((pre.length:Int)+((lb (ca x.size)).length:Int)+1+(x.size:Int)).toNat=x:=by
   refine vF ?_
   rw [mZ,hs2]
   rw [show ((pre.length:Int)+((lb (ca x.size)).length:Int)+1+(x.size:Int)).toNat=pre.length+((lb (ca x.size)).length+(1+x.size)) by omega,show ((pre.length:Int)+((lb (ca x.size)).length:Int)+1).toNat=pre.length+((lb (ca x.size)).length+1) by omega]
   rw [List.take_length_add_append,ZF7,List.take_length_add_append,ZF7]
   rw [show 1+x.size=x.size+1 by omega,List.take_succ_cons,List.drop_succ_cons,ZF1,fp,List.take_left]
  show JL g s ((pre.length:Int)+((lb (ca x.size)).length:Int)+1+(x.size:Int)) _=_
  simp only
  rw [ah5]
  have:=aap (s:=s) (l:=l) (f:=g) (pre:=pre++(lb (ca x.size)++58::lb x)) (out:=out++[x]) (by rw [hs2];simp [ZD2]) (fun y hy=>hx y (by simp [hy])) (by simp at hf;omega)
  rw [show ((pre++(lb (ca x.size)++58::lb x)).length:Int)=(pre.length:Int)+((lb (ca x.size)).length:Int)+1+(x.size:Int) by simp only [ZA0,ZA1,←fp];omega] at this
  rw [this,ZD2];rfl
theorem UT:∀(l:List ByteArray),l.length≤(DF l).length
 |[]=>ZB6 _
 |x::l=>by
  have:=UT l
  simp only [DF,ZA0,ZA1];omega
theorem JJ {l:List ByteArray}(h:(cG l).2=true):bz (cG l).1=(l,true):=by
 cases h60:decide ((l.length:Int)≤60) with
 |false=>rw [tT h60] at h;cases h
 |true=>
  have h0:=h
  rw [gG h60] at h
  obtain⟨e1,e2,e3⟩:=EL h
  rw [gG h60]
  generalize hs:(dC l ⟨#[]⟩).1=s at e1 e3 ⊢
  have e1:lb s=DF l:=by simpa [adZ] using e1
  have dk:s.size≤2048:=by
   rcases e3 with e3 |rfl
   ·exact e3
   ·rw [fp,e1];simp [DF]
  have hlen:=UT l
  have hg:=aap (s:=s) (l:=l) (f:=s.size+1) (pre:=[]) (out:=[]) (by simpa using e1) e2 (by rw [fp,e1];omega)
  unfold bz
  rw [decide_eq_true (by omega),cond_true]
  rw [show ((([]:List UInt8).length:Nat):Int)=0 from rfl] at hg
  rw [hg]
  show vQ s ([]++l)=(l,true)
  rw [ZC9]
  unfold vQ
  rw [h0,gG h60,hs]
  simp
theorem tF {n:fu}(h:cy n=true):bB (aC n)=(n,true):=by
 have hb:=ly h
 have hp:aC n=(cG [ca n.1,ca n.2.1,ca n.2.2.1,bd n.root,ca n.2.2.2.2.2.2.2.2.1,ca n.2.2.2.2.2.2.2.2.2,⟨#[101,110,100]⟩]).1:=by unfold aC;rw [h];rfl
 have hf:(cG [ca n.1,ca n.2.1,ca n.2.2.1,bd n.root,ca n.2.2.2.2.2.2.2.2.1,ca n.2.2.2.2.2.2.2.2.2,⟨#[101,110,100]⟩]).2=true:=by
  rw [gG rfl]
  refine EJ ?_
  have d1:=dc (n:=n.1) (by omega)
  have d2:=dc (n:=n.2.1) (by omega)
  have d3:=dc (n:=n.2.2.1) (by omega)
  have d4:=gw n.root
  have d5:=dc (n:=n.2.2.2.2.2.2.2.2.1) (by omega)
  have d6:=dc (n:=n.2.2.2.2.2.2.2.2.2) (by omega)
  simp only [ZE8,List.map_nil,List.sum_cons,List.sum_nil]
  rw [show (⟨#[101,110,100]⟩:ByteArray).size=3 from rfl,show (⟨#[]⟩:ByteArray).size=0 from rfl]
  omega
 have hg:=JJ hf
 rw [←hp] at hg
 have e1:=ey (n:=n.1) (by omega) (by omega)
 have e2:=ey (n:=n.2.1) (by omega) (by omega)
 have e3:=ey (n:=n.2.2.1) (by omega) (by omega)
 have e4:=nR hb.2.2.2.2.2.1
 have e5:=ey (n:=n.2.2.2.2.2.2.2.2.1) (by omega) (by omega)
 have e6:=ey (n:=n.2.2.2.2.2.2.2.2.2) (by omega) (by omega)
 have uD:mY [ca n.1,ca n.2.1,ca n.2.2.1,bd n.root,ca n.2.2.2.2.2.2.2.2.1,ca n.2.2.2.2.2.2.2.2.2,⟨#[101,110,100]⟩]=n:=by
  show ((aD (ca n.1)).1,(aD (ca n.2.1)).1,(aD (ca n.2.2.1)).1,(bR (bd n.root)).1.1,(bR (bd n.root)).1.2.1,(bR (bd n.root)).1.2.2.1,(bR (bd n.root)).1.2.2.2.1,(bR (bd n.root)).1.2.2.2.2,(aD (ca n.2.2.2.2.2.2.2.2.1)).1,(aD (ca n.2.2.2.2.2.2.2.2.2)).1)=n
  rw [e1,e2,e3,e4,e5,e6]
 unfold bB
 rw [hg,uD,h]
 simp
end GL
namespace GL
abbrev at' (p:Pt):Nat:=p.1.toNat
def LD (r:Nat) (p:Pt):Bool:= !(au p)&&decide (at' p=r)
def bq (l:List Pt) (r:Nat):Nat:=l.countP (LD r)
theorem rB (r:Nat):bq [] r=0:=rfl
theorem bK (l m:List Pt) (r:Nat):bq (l++m) r=bq l r+bq m r:=List.countP_append
theorem dQ (p:Pt) (l:List Pt) (r:Nat):bq (p::l) r=bq [p] r+bq l r:=bK [p] l r
theorem P8 {l m:List Pt}(h:l.Sublist m) (r:Nat):bq l r≤bq m r:=h.countP_le
theorem mj {p:Pt}(h:au p=true) (r:Nat):bq [p] r=0:=by
 simp [bq,LD,h]
theorem rU {p:Pt}(h:au p=false):bq [p] (at' p)=1:=by
 simp [bq,LD,h]
theorem y9 {p:Pt}{r:Nat}(h:at' p≠r):bq [p] r=0:=by
 simp [bq,LD,h]
theorem akx (p:Pt) (r:Nat):bq [p] r≤1:=by
 have:bq [p] r≤[p].length:=List.countP_le_length
 simpa using this
theorem ub {l:List Pt}{p:Pt}(hp:p∈l) (h:au p=false):0<bq l (at' p):=by
 unfold bq
 rw [List.countP_pos_iff]
 exact⟨p,hp,by simp [LD,h]⟩
theorem YM (f:Pt→Bool) (l:List Pt) (r:Nat):bq (l.filter f) r≤bq l r:=P8 List.filter_sublist r
def qO (s:ay) (r:Nat):Int:=nth ag s.refs r
structure Acc (s:ay) (O:Nat→Nat):Prop where
 wf:s.wf
 up:∀r,qO s r≤1000000
 ck:1≤s.ck∧s.ck≤1000000
 sl:∀r,((bq s.gone r+bq s.dead r+O r:Nat):Int)≤qO s r
 ok:∀p∈s.gone++s.dead,a6 p=true∧au p=false
theorem Acc.mono {s:ay}{O O':Nat→Nat}(h:Acc s O) (hO:∀r,O' r≤O r):Acc s O':=
 ⟨h.wf,h.up,h.ck,fun r=>by have:=h.sl r;have:=hO r;omega,h.ok⟩
def Kp (O:Nat→Nat) (s u:ay):Prop:=∀r,0<O r→nth ab u.rows r=nth ab s.rows r
theorem Kp.refl (O:Nat→Nat) (s:ay):Kp O s s:=fun _ _=>rfl
theorem Kp.trans {O:Nat→Nat}{a b c:ay}(h:Kp O a b) (h2:Kp O b c):Kp O a c:=fun r hr=>(h2 r hr).trans (h r hr)
theorem Kp.mono {O O':Nat→Nat}{a b:ay}(h:Kp O a b) (hO:∀r,O' r≤O r):Kp O' a b:=fun r hr=>h r (ZG2 hr (hO r))
structure dR (s u:ay):Prop where
 ck:u.ck=s.ck
 bY:u.bY=s.bY
 same:u.same=s.same
theorem dR.refl (s:ay):dR s s:=⟨rfl,rfl,rfl⟩
theorem dR.trans {a b c:ay}(h:dR a b) (h2:dR b c):dR a c:=⟨h2.ck.trans h.ck,h2.bY.trans h.bY,h2.same.trans h.same⟩
theorem ix {ek:EK}{l:List (EK.Ty ek)}{k r:Nat}{x:EK.Ty ek}(h:k≠r):nth ek (l.set k x) r=nth ek l r:=by
 unfold nth;rw [List.getElem?_set_ne h]
theorem tD {ek:EK}{l:List (EK.Ty ek)}{k:Nat}(h:l.length≤k):nth ek l k=EK.zero ek:=by
 unfold nth;rw [ZD9 h]
theorem F8 {n:Int}(h0: -1000000000≤n) (h1:n≤1000000000):xC n=n:=oV (by simp only [gO];omega) (by simp only [imax];omega)
theorem sA {p:Pt}(h:a6 p=true):at' p<64:=by have:=pX h;unfold at';omega
theorem C8 {s:ay}{O O':Nat→Nat}{p:Pt}(h:Acc s O) (hp:a6 p=true) (hO:∀r,O' r+bq [p] r≤O r):Acc (cN s p) O'∧Kp O' s (cN s p)∧dR s (cN s p):=by
 have oS:=qw (p:=p) h.wf
 cases hh:au p with
 |true=>
  rw [yY hh]
  exact⟨h.mono fun r=>by have:=hO r;omega,Kp.refl _ _,dR.refl _⟩
 |false=>
  cases h1:decide (p.2.1≤s.bY) with
  |true=>
   rw [y5 hh h1] at oS ⊢
   refine⟨⟨oS,h.up,h.ck,fun r=>?_,fun q hq=>?_⟩,Kp.refl _ _,⟨rfl,rfl,rfl⟩⟩
   ·show ((bq s.gone r+bq (s.dead++[p]) r+O' r:Nat):Int)≤qO s r
    rw [bK];have:=h.sl r;have:=hO r;omega
   ·have hq:q∈s.gone++(s.dead++[p]):=hq
    rw [←ZD2] at hq
    rcases ZB5.1 hq with hq |hq
    ·exact h.ok q hq
    ·rw [ZC7.1 hq];exact⟨hp,hh⟩
  |false=>
   cases h2:decide (p.2.1<s.ck) with
   |true=>
    rw [yZ hh h1 h2] at oS ⊢
    refine⟨⟨oS,h.up,h.ck,fun r=>?_,fun q hq=>?_⟩,Kp.refl _ _,⟨rfl,rfl,rfl⟩⟩
    ·show ((bq (s.gone++[p]) r+bq s.dead r+O' r:Nat):Int)≤qO s r
     rw [bK];have:=h.sl r;have:=hO r;omega
    ·have hq:q∈(s.gone++[p])++s.dead:=hq
     simp only [ZB5,ZC7] at hq
     rcases hq with (hq |hq) |hq
     ·exact h.ok q (by simp [hq])
     ·rw [hq];exact⟨hp,hh⟩
     ·exact h.ok q (by simp [hq])
   |false=>
    rw [y0 hh h1 h2] at oS ⊢
    have xM:=sA hp
    have hlen:at' p<s.refs.length:=by rw [h.wf.n.2.1];exact xM
    have hsl:=h.sl (at' p)
    have hOa:=hO (at' p)
    rw [rU hh] at hOa
    have hup:=h.up (at' p)
    have hw:xC (qO s (at' p)-1)=qO s (at' p)-1:=F8 (by omega) (by omega)
    have hrf:(gf s p.1.toNat).refs=s.refs.set (at' p) (qO s (at' p)-1):=by
     show s.refs.set (at' p) (xC (qO s (at' p)-1))=_
     rw [hw]
    have vL:∀r,qO (gf s p.1.toNat) r=qO s r-bq [p] r:=fun r=>by
     show nth ag (gf s p.1.toNat).refs r=nth ag s.refs r-_
     rw [hrf]
     by_cases e:at' p=r
     ·subst e;rw [nC (ek:=ag) hlen,rU hh];rfl
     ·rw [ix (ek:=ag) e,y9 e];simp
    refine⟨⟨oS,fun r=>?_,h.ck,fun r=>?_,h.ok⟩,fun r hr=>?_,⟨rfl,rfl,rfl⟩⟩
    ·rw [vL];have:=h.up r;omega
    ·rw [vL]
     show ((bq s.gone r+bq s.dead r+O' r:Nat):Int)≤_
     have:=h.sl r;have:=hO r;omega
    ·show nth ab (bif uI s p.1.toNat then s.rows.set p.1.toNat ByteArray.empty else s.rows) r=_
     cases hb:uI s p.1.toNat with
     |false=>rfl
     |true=>
      have hz:qO (gf s p.1.toNat) (at' p)=0:=aE hb
      rw [vL,rU hh] at hz
      by_cases e:at' p=r
      ·subst e;omega
      ·exact ix (ek:=ab) e
theorem yW:∀{l:List Pt}{s:ay}{O O':Nat→Nat},Acc s O→(∀p∈l,a6 p=true)→(∀r,O' r+bq l r≤O r)→Acc (l.foldl cN s) O'∧Kp O' s (l.foldl cN s)∧dR s (l.foldl cN s)
 |[],s,O,O',h,_,hO=>⟨h.mono fun r=>by have:=hO r;rw [rB] at this;omega,Kp.refl _ _,dR.refl _⟩
 |p::l,s,O,O',h,hl,hO=>by
  have h1:=C8 (O':=fun r=>O' r+bq l r) h (hl p (by simp)) (fun r=>by have:=hO r;rw [dQ] at this;show O' r+bq l r+_≤_;omega)
  have h2:=yW (l:=l) (O':=O') h1.1 (fun q hq=>hl q (by simp [hq])) (fun r=>ZB6 _)
  exact⟨h2.1,(h1.2.1.mono fun r=>ZD3 _ _).trans h2.2.1,h1.2.2.trans h2.2.2⟩
theorem JI:∀(f i:Nat) (rf:List Int),findF f i rf= -1∨nth ag rf (findF f i rf).toNat=0
 |0,_,_=>.inl rfl
 |f+1,i,rf=>by
  unfold findF
  cases hd:decide (nth ag rf i=0) with
  |true=>right;simp only [cond_true,ZA5];exact aE hd
  |false=>exact JI f (i+1) rf
theorem IE:∀(f i:Nat) (s:ay) (text:ByteArray),sE f i s text= -1∨vC s text (sE f i s text).toNat=true
 |0,_,_,_=>.inl rfl
 |f+1,i,s,text=>by
  unfold sE
  cases hd:vC s text i with
  |true=>right;simp only [cond_true,ZA5];exact hd
  |false=>exact IE f (i+1) s text
theorem N1 (s:ay) (text:ByteArray) (lv:Int):db s text lv<0∨(8≤db s text lv∧db s text lv<64)∧(nth ag s.refs (db s text lv).toNat=0∨nth ab s.rows (db s text lv).toNat=text∧nth ag s.refs (db s text lv).toNat<s.ck):=by
 have hf:ou s.refs<0∨(8≤ou s.refs∧ou s.refs<64)∧nth ag s.refs (ou s.refs).toNat=0:=by
  rcases UH s.refs with h |h
  ·left;omega
  ·right
   refine⟨h,?_⟩
   rcases JI 56 8 s.refs with h2 |h2
   ·have:ou s.refs= -1:=h2
    omega
   ·exact h2
 have key:∀a,a=ou s.refs→a<0∨(8≤a∧a<64)∧(nth ag s.refs a.toNat=0∨nth ab s.rows a.toNat=text∧nth ag s.refs a.toNat<s.ck):=fun a e=>by
  rw [e]
  rcases hf with h |h
  ·exact .inl h
  ·exact .inr ⟨h.1,.inl h.2⟩
 cases h1:s.same with
 |false=>exact key _ (wy h1)
 |true=>
  cases h2:decide (lv=0) with
  |false=>exact key _ (wz h2)
  |true=>
   cases h3:decide (rn s text<0) with
   |true=>exact key _ (wA h1 h2 h3)
   |false=>
    rw [A7 h1 h2 h3]
    have h3:=aA h3
    right
    rcases TF s text with h |h
    ·omega
    ·refine⟨h,.inr ?_⟩
     rcases IE 56 8 s text with h4 |h4
     ·have:rn s text= -1:=h4
      omega
     ·have h4:vC s text (rn s text).toNat=true:=h4
      unfold vC at h4
      simp only [ZB0,decide_eq_true_eq] at h4
      exact⟨h4.1,h4.2.2⟩
structure akq (s u:ay) (p:Pt) (text:ByteArray) (lv:Int):Prop where
 ok:a6 p=true
 nh:au p=false
 lv:p.2.2.2.2=lv
 EV:p.2.1=s.ck
 row:nth ab u.rows (at' p)=text
 fits:iY p text=true
theorem xS {s:ay}{O:Nat→Nat}{text:ByteArray}{lv:Int}(h:Acc s O) (hz:(bg s text lv).2.2=true):
  Acc (bg s text lv).1 (fun r=>O r+bq [(bg s text lv).2.1] r)∧Kp O s (bg s text lv).1∧dR s (bg s text lv).1∧(bg s text lv).1.gone=s.gone∧(bg s text lv).1.dead=s.dead∧akq s (bg s text lv).1 (bg s text lv).2.1 text lv:=by
 have oS:=A6 (text:=text) (lv:=lv) h.wf
 cases hd:decide (db s text lv<0) with
 |true=>rw [nH rfl hd] at hz;cases hz
 |false=>
  cases h2: !(gx (db s text lv) s.ck lv text).2 with
  |true=>rw [mF rfl hd h2] at hz;cases hz
  |false=>
   rw [pd rfl hd h2] at oS ⊢
   have hd:=aA hd
   have h2:=oN h2
   have hw:=N1 s text lv
   generalize ha:db s text lv=a at *
   have hpo:iC text.size 1 128=true∧a6 (a,s.ck,(text.size:Int),qR text,lv)=true:=by
    cases hi:iC text.size 1 128 with
    |false=>rw [B2 hi] at h2;cases h2
    |true=>cases hj:a6 (a,s.ck,(text.size:Int),qR text,lv) with
     |false=>rw [B1 hj] at h2;cases h2
     |true=>exact⟨rfl,rfl⟩
   rw [B0 hpo.1 hpo.2] at *
   obtain⟨⟨h8,h64⟩,sJ⟩:=hw.resolve_left hd
   have hnh:au (a,s.ck,(text.size:Int),qR text,lv)=false:=by
    unfold au;rw [decide_eq_false (by show¬a=0;omega)];rfl
   have hlr:a.toNat<s.refs.length:=by rw [h.wf.n.2.1];omega
   have bU:a.toNat<s.rows.length:=by rw [h.wf.n.1];omega
   have hup:=h.up a.toNat
   have hsl:=h.sl a.toNat
   have hw2:xC (qO s a.toNat+1)=qO s a.toNat+1:=F8 (by omega) (by omega)
   have sJ:qO s a.toNat=0∨nth ab s.rows a.toNat=text∧qO s a.toNat<s.ck:=sJ
   have vL:∀r,qO (uT s text a.toNat) r=qO s r+bq [((a,s.ck,(text.size:Int),qR text,lv):Pt)] r:=fun r=>by
    show nth ag (s.refs.set a.toNat (xC (qO s a.toNat+1))) r=nth ag s.refs r+_
    rw [hw2]
    by_cases e:a.toNat=r
    ·subst e
     rw [nC (ek:=ag) hlr]
     rw [show bq [((a,s.ck,(text.size:Int),qR text,lv):Pt)] a.toNat=1 from rU hnh];rfl
    ·rw [ix (ek:=ag) e,y9 (p:=(a,s.ck,(text.size:Int),qR text,lv)) e];simp
   refine⟨⟨oS,fun r=>?_,h.ck,fun r=>?_,h.ok⟩,fun r hr=>?_,⟨rfl,rfl,rfl⟩,rfl,rfl,⟨hpo.2,hnh,rfl,rfl,?_,?_⟩⟩
   ·rw [vL]
    by_cases e:a.toNat=r
    ·subst e
     rw [show bq [((a,s.ck,(text.size:Int),qR text,lv):Pt)] a.toNat=1 from rU hnh]
     have:=h.ck
     rcases sJ with hc |hc<;>omega
    ·rw [y9 (p:=(a,s.ck,(text.size:Int),qR text,lv)) e];have:=h.up r;omega
   ·rw [vL]
    show ((bq s.gone r+bq s.dead r+(O r+bq [((a,s.ck,(text.size:Int),qR text,lv):Pt)] r):Nat):Int)≤_
    have:=h.sl r;omega
   ·show nth ab (s.rows.set a.toNat text) r=_
    by_cases e:a.toNat=r
    ·subst e
     rw [nC (ek:=ab) bU]
     rcases sJ with hc |hc
     ·omega
     ·exact hc.1.symm
    ·exact ix (ek:=ab) e
   ·exact nC (ek:=ab) bU
   ·unfold iY
    rw [hpo.2,hnh]
    simp
end GL
end Go.Proofs.YtbfgjadbfjkcdaaGreatDoor
