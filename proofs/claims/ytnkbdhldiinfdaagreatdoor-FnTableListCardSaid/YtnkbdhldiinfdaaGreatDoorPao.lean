/- Part 15 of the proof of a drawn law. -/
import Derived.Test.YtnkbdhldiinfdaaGreatDoorPaj
import Derived.Test.YtnkbdhldiinfdaaGreatDoorPal
set_option maxHeartbeats 20000000
set_option maxRecDepth 100000
set_option linter.all false
namespace Go.Proofs.YtnkbdhldiinfdaaGreatDoor
namespace GL
abbrev lb (s:ByteArray):List UInt8:=s.data.toList
theorem vx {s t:ByteArray}(h:lb s=lb t):s=t:=by
 cases s;cases t;simp only [lb] at h;congr 1;exact Array.toList_inj.1 h
theorem wL (s t:ByteArray):lb (s++t)=lb s++lb t:=by
 show (s++t).data.toList=_
 rw [ByteArray.data_append,Array.toList_append]
theorem fo (s:ByteArray):s.size=(lb s).length:=by
 show s.data.size=s.data.toList.length
 rw [ZE4]
theorem adI:lb ⟨#[]⟩=[]:=rfl
theorem mT (s:ByteArray) (a b:Nat):lb (s.extract a b)=((lb s).take b).drop a:=by
 simp only [lb,ByteArray.data_extract,Array.toList_extract]
 rw [List.extract_eq_take_drop,List.drop_take]
theorem ni (s:ByteArray) (k:Nat):bL s k=(match (lb s)[k]? with |some b=>(b.toNat:Int) |none=>0):=by
 unfold bL
 have e:s[k]?=(lb s)[k]?:=by
  by_cases h:k<s.size
  ·have h':k<(lb s).length:=by rw [←fo];exact h
   rw [getElem?_pos s k h,ZB1 h']
   rfl
  ·have h':¬k<(lb s).length:=by rw [←fo];exact h
   rw [getElem?_neg s k h,ZD8 (by omega)]
 rw [e]
 cases (lb s)[k]?<;>rfl
theorem S4:∀(l:List Int) (r:ByteArray),lb (l.foldl (λr n=>r.push (UInt8.ofNat n.toNat)) r)=lb r++l.map (λn=>UInt8.ofNat n.toNat)
 |[],r=>by simp
 |n::l,r=>by
  rw [List.foldl_cons,S4 l]
  simp [lb,ByteArray.push]
theorem L7 (l:List Int):lb (fa l)=l.map (λn=>UInt8.ofNat n.toNat):=by
 rw [fa,S4];rfl
def mj (c:UInt8):List UInt8→List (List UInt8)
 |[]=>[[]]
 |x::l=>if x=c then []::mj c l else
  match mj c l with
  |h::t=>(x::h)::t
  |[]=>[[x]]
theorem r4 (c x:UInt8) (l:List UInt8):mj c (x::l)=if x=c then []::mj c l else
  match mj c l with
  |h::t=>(x::h)::t
  |[]=>[[x]]:=rfl
theorem zh (c:UInt8) (l:List UInt8):mj c l≠[]:=by
 cases l with
 |nil=>simp [mj]
 |cons x l=>
  unfold mj;split
  ·simp
  ·split<;>simp
theorem wy (c x:UInt8):∀(l:List UInt8) (a:List (List UInt8)) (r:List UInt8),mj c l=a++[r]→mj c (l++[x])=if x=c then a++[r]++[[]] else a++[r++[x]]
 |[],a,r,h=>by
  have h:[[]]=a++[r]:=h
  cases a with
  |nil=>
   simp only [ZD0,ZG9,and_true] at h
   subst h
   by_cases hx:x=c
   ·simp [mj,hx]
   ·simp [mj,hx]
  |cons y a=>simp at h
 |y::l,a,r,h=>by
  rw [ZG7]
  rw [r4] at h ⊢
  by_cases hy:y=c
  ·rw [if_pos hy] at h ⊢
   cases a with
   |nil=>
    simp only [ZD0,ZG9] at h
    exact absurd h.2 (zh c l)
   |cons z a=>
    simp only [ZG7,ZG9] at h
    obtain⟨hz,h⟩:=h
    rw [wy c x l a r h,←hz]
    by_cases hx:x=c<;>simp [hx]
  ·rw [if_neg hy] at h ⊢
   cases e:mj c l with
   |nil=>exact absurd e (zh c l)
   |cons w t=>
    rw [e] at h
    cases a with
    |nil=>
     simp only [ZD0,ZG9] at h
     obtain⟨hr,ht⟩:=h
     subst ht
     have:=wy c x l [] w (by simpa using e)
     rw [this,←hr]
     by_cases hx:x=c<;>simp [hx]
    |cons z a=>
     simp only [ZG7,ZG9] at h
     obtain⟨hz,ht⟩:=h
     have:=wy c x l (w::a) r (by rw [e,ht];rfl)
     rw [this,←hz]
     by_cases hx:x=c<;>simp [hx]
theorem ze {s:ByteArray}{k:Nat}(h:k<(lb s).length):(lb s).take (k+1)=(lb s).take k++[(lb s)[k]]:=by
 rw [List.take_add_one,ZB1 h];rfl
theorem NF (s:ByteArray) (c:UInt8):∀k,k≤(lb s).length→(iZ s c.toNat k).2≤k∧mj c ((lb s).take k)=(iZ s c.toNat k).1.map lb++[((lb s).take k).drop (iZ s c.toNat k).2]
 |0,_=>⟨ZB5 _,by simp [iZ,mj]⟩
 |k+1,hk=>by
  obtain⟨h1,h2⟩:=NF s c k (by omega)
  have bU:k<(lb s).length:=by omega
  have hb:bL s k=(((lb s)[k]).toNat:Int):=by rw [ni,ZB1 bU]
  have hs:=wy c ((lb s)[k]) _ _ _ h2
  rw [ze bU,hs]
  rw [show iZ s ((c.toNat:Nat):Int) (k+1)=bif decide (bL s k=((c.toNat:Nat):Int)) then ((iZ s c.toNat k).1++[s.extract (iZ s c.toNat k).2 k],k+1) else iZ s c.toNat k from rfl]
  have hd:decide (bL s k=((c.toNat:Nat):Int))=decide ((lb s)[k]=c):=by
   rw [hb]
   by_cases e:(lb s)[k]=c
   ·simp [e]
   ·have:¬(((lb s)[k]).toNat:Int)=(c.toNat:Int):=λh=>e (UInt8.toNat_inj.1 (by omega))
    rw [decide_eq_false this,decide_eq_false e]
  rw [hd]
  by_cases e:(lb s)[k]=c
  ·rw [decide_eq_true e,if_pos e]
   simp only [cond_true]
   refine⟨ZB5 _,?_⟩
   rw [List.map_append,ZE7,List.map_nil,mT]
   congr 1
   have:((lb s).take k++[(lb s)[k]]).length=k+1:=by rw [ZA0,ZB9,List.length_singleton];omega
   rw [ZB3 (ZA8 this)]
  ·rw [decide_eq_false e,if_neg e]
   simp only [cond_false]
   refine⟨by omega,?_⟩
   congr 2
   rw [List.drop_append_of_le_length (by rw [ZB9];omega)]
theorem JR (s:ByteArray) (c:UInt8):(bm s c.toNat).map lb=mj c (lb s):=by
 have h:=NF s c (lb s).length (ZB5 _)
 rw [ZD1 (ZB5 _)] at h
 rw [h.2,bm,List.map_append,ZE7,List.map_nil,mT,fo]
 rw [ZD1 (ZB5 _)]
theorem lB (c:UInt8):∀(a b:List UInt8),mj c (a++c::b)=mj c a++mj c b
 |[],b=>by simp [mj]
 |x::a,b=>by
  rw [ZG7]
  have ih:=lB c a b
  rw [r4,r4]
  by_cases hx:x=c
  ·rw [if_pos hx,if_pos hx,ih];rfl
  ·rw [if_neg hx,if_neg hx,ih]
   cases e:mj c a with
   |nil=>exact absurd e (zh c a)
   |cons h t=>rfl
theorem gj (c:UInt8):∀(a:List UInt8),c∉a→mj c a=[a]
 |[],_=>rfl
 |x::a,h=>by
  have hx:¬x=c:=λe=>h (by simp [e])
  rw [r4,if_neg hx,gj c a (λhh=>h (by simp [hh]))]
theorem mU {k:Nat}(h:k<10):lb (dec k)=[UInt8.ofNat (48+k)]:=by
 rw [dec_lt h,L7]
 simp only [ZE7,List.map_nil]
 congr 2
theorem pb {k:Nat}(h:¬k<10):lb (dec k)=lb (dec (k / 10))++[UInt8.ofNat (48+k % 10)]:=by
 rw [X0 h,wL,L7]
 simp only [ZE7,List.map_nil]
 congr 3
theorem ss {d:Nat}(h:d<10):(UInt8.ofNat (48+d)).toNat=48+d:=by
 rw [UInt8.toNat_ofNat'];omega
theorem tV:∀(k:Nat),∀b∈lb (dec k),48≤b.toNat∧b.toNat≤57:=by
 intro k
 induction k using Nat.strongRecOn with
 |_ k ih=>
  intro b hb
  by_cases h:k<10
  ·rw [mU h] at hb
   rw [ZC7.1 hb,ss h];omega
  ·rw [pb h] at hb
   rcases ZB4.1 hb with hb |hb
   ·exact ih (k / 10) (by omega) b hb
   ·rw [ZC7.1 hb,ss (by omega)];omega
theorem xe:∀(k:Nat),∃b l,lb (dec k)=b::l∧(b.toNat=48→l=[]):=by
 intro k
 induction k using Nat.strongRecOn with
 |_ k ih=>
  by_cases h:k<10
  ·exact⟨_,_,mU h,λ_=>rfl⟩
  ·obtain⟨b,l,e,hb⟩:=ih (k / 10) (by omega)
   refine⟨b,l++[UInt8.ofNat (48+k % 10)],by rw [pb h,e];rfl,λh48=>?_⟩
   exfalso
   have hl:=hb h48
   subst hl
   by_cases h2:k / 10<10
   ·rw [mU h2] at e
    simp only [ZG9,and_true] at e
    have:=ss h2
    rw [e] at this
    omega
   ·rw [pb h2] at e
    have:=congrArg List.length e
    have h3:1≤(lb (dec (k / 10 / 10))).length:=by
     obtain⟨b',l',e',_⟩:=ih (k / 10 / 10) (by omega)
     rw [e'];simp
    simp only [ZA0,ZA1,ZA4] at this
    omega
def qL (l:List UInt8):Int:=l.foldl (λn b=>10*n+((b.toNat:Int)-48)) 0
theorem wu (l:List UInt8) (b:UInt8):qL (l++[b])=10*qL l+((b.toNat:Int)-48):=by simp [qL]
theorem QB:∀(k:Nat),qL (lb (dec k))=k:=by
 intro k
 induction k using Nat.strongRecOn with
 |_ k ih=>
  by_cases h:k<10
  ·rw [mU h]
   have:=ss h
   simp only [qL,List.foldl_cons,List.foldl_nil];omega
  ·rw [pb h,wu,ih (k / 10) (by omega),ss (by omega)];omega
theorem CD (s:ByteArray):∀k,k≤(lb s).length→iN s k=qL ((lb s).take k)
 |0,_=>by simp [iN,qL]
 |k+1,h=>by
  have bU:k<(lb s).length:=by omega
  rw [ze bU,wu,iN,CD s k (by omega),ni,ZB1 bU]
theorem ZK {s:ByteArray}:∀{j f k:Nat},j+k≤9→f+k=9→(∀i,k≤i→i<k+j→C9 s i=true)→sA f s k=sA (f-j) s (k+j)
 |0,f,k,_,_,_=>by rw [Nat.sub_zero];rfl
 |j+1,f,k,h,hf,hd=>by
  obtain⟨g,rfl⟩:∃g,f=g+1:=⟨f-1,by omega⟩
  rw [sA,hd k (ZB5 _) (by omega),cond_true,ZK (j:=j) (by omega) (by omega) (λi h1 h2=>hd i (by omega) (by omega))]
  rw [show g+1-(j+1)=g-j by omega,show k+1+j=k+(j+1) by omega]
theorem ZR {s:ByteArray}{n:Nat}{rest:List UInt8}(hn:n<1000000000) (hs:lb s=lb (dec n)++rest) (hr:∀b,rest.head?=some b→¬(48≤b.toNat∧b.toNat≤57)):CN s=((n:Int),((lb (dec n)).length:Int)):=by
 have hlen:(lb (dec n)).length≤9:=by rw [←fo];exact JM 8 n (by show n<10 ^ 9;omega)
 have dj:s.size=(lb (dec n)).length+rest.length:=by rw [fo,hs,ZA0]
 have xD:∀i,i<(lb (dec n)).length→bL s i=(match (lb (dec n))[i]? with |some b=>(b.toNat:Int) |none=>0):=λi hi=>by
  rw [ni,hs,ZC2 hi]
 have aga:∀i,i<(lb (dec n)).length→C9 s i=true:=λi hi=>by
  have h1:=xD i hi
  rw [ZB1 hi] at h1
  have h2:=tV n _ (List.getElem_mem hi)
  have h3:bL s i=(((lb (dec n))[i]).toNat:Int):=h1
  unfold C9
  rw [decide_eq_true (by omega),decide_eq_true (by omega),decide_eq_true (by omega),decide_eq_true (by omega)];rfl
 have ajc:C9 s (lb (dec n)).length=false:=by
  cases ad7:rest with
  |nil=>
   rw [ad7] at dj
   exact ag3 (decide_eq_false (by rw [dj];simp))
  |cons b r=>
   have hb:=hr b (by rw [ad7];rfl)
   have h1:bL s (lb (dec n)).length=(b.toNat:Int):=by
    rw [ni,hs,ZC6 (ZB5 _),Nat.sub_self,ad7];rfl
   unfold C9
   by_cases h48:48≤b.toNat
   ·rw [decide_eq_false (p:=bL s (lb (dec n)).length≤57) (by omega),ZD7,ZD7,ZD7]
   ·rw [decide_eq_false (p:=bL s (lb (dec n)).length≥48) (by omega),Bool.false_and,ZD7,ZD7]
 have hnl:cW s=(lb (dec n)).length:=by
  refine S2 hlen ajc ?_
  have:=ZK (s:=s) (j:=(lb (dec n)).length) (f:=9) (k:=0) (by omega) (by omega) (λi _ h2=>aga i (by omega))
  rw [ZA6] at this
  exact this.symm
 have af1:iN s (lb (dec n)).length=n:=by
  rw [CD s _ (by rw [hs,ZA0];omega),hs,List.take_append_of_le_length (ZB5 _),ZD1 (ZB5 _),QB]
 by_cases h1:1<(lb (dec n)).length
 ·obtain⟨b,l,e,hb⟩:=xe n
  have h0:bL s 0=(b.toNat:Int):=by rw [xD 0 (by omega),e];rfl
  have h2:¬b.toNat=48:=λh=>by
   have:=hb h;rw [e,this] at h1;simp at h1
  rw [agL hnl (decide_eq_false (by omega)),af1]
 ·rw [agM hnl (decide_eq_false (by omega)),af1]
theorem SI {n:Nat}(hn:n<1000000000):aD (dec n)=((n:Int),true):=by
 have h:=ZR (s:=dec n) (rest:=[]) hn (by simp) (by simp)
 have oU:1≤(lb (dec n)).length:=by obtain⟨b,l,e,_⟩:=xe n;rw [e];simp
 unfold aD
 rw [h]
 simp only
 rw [decide_eq_false (p:=((lb (dec n)).length:Int)=0) (by omega),decide_eq_false (p:=((lb (dec n)).length:Int)≠((dec n).size:Int)) (by rw [fo];simp)];rfl
theorem eu {n:Int}(h0:0≤n) (hn:n<1000000000):aD (bX n)=(n,true):=by
 unfold bX
 rw [SI (by omega),show ((n.toNat:Nat):Int)=n by omega]
theorem aeX {n:Nat}{c:UInt8}(hc:¬(48≤c.toNat∧c.toNat≤57)):c∉lb (dec n):=λh=>hc (tV n c h)
end GL
namespace GL
theorem yz:∀{l m:List ByteArray},l.map lb=m.map lb→l=m
 |[],[],_=>rfl
 |[],_::_,h=>by cases h
 |_::_,[],h=>by cases h
 |x::l,y::m,h=>by
  simp only [ZE7,ZG9] at h
  rw [vx h.1,yz h.2]
theorem aas {s:ByteArray}{l:List ByteArray}(c:UInt8) (h:mj c (lb s)=l.map lb):bm s c.toNat=l:=
 yz ((JR s c).trans h)
theorem po {n:Int}{c:UInt8}(hc:¬(48≤c.toNat∧c.toNat≤57)):c∉lb (bX n):=aeX hc
theorem ND (n:Int):∃b l,lb (bX n)=b::l∧48≤b.toNat∧b.toNat≤57:=by
 obtain⟨b,l,e,_⟩:=xe n.toNat
 exact⟨b,l,e,tV n.toNat b (by rw [e];simp)⟩
theorem wK {p:Pt}(h:aZ p=true) (h2:au p=false):lb (bc p)=lb (bX p.1)++46::(lb (bX p.2.1)++46::(lb (bX p.2.2.1)++46::(lb (bX p.2.2.2.1)++46::lb (bX p.2.2.2.2)))):=by
 unfold bc
 rw [h,h2]
 simp only [cond_true,cond_false,wL]
 simp only [ZD2]
 rfl
theorem qV {p:Pt}(h2:au p=true):bc p=⟨#[45]⟩:=by
 have h:aZ p=true:=by unfold aZ;rw [h2];rfl
 unfold bc;rw [h,h2];rfl
theorem iu {p:Pt}(h:au p=true):p=bM:=by
 unfold au at h
 simp only [ZA9,decide_eq_true_eq] at h
 obtain⟨a,b,c,d,e⟩:=p
 obtain⟨h1,h2,h3,h4,h5⟩:=h
 simp only at h1 h2 h3 h4 h5
 subst h1 h2 h3 h4 h5;rfl
theorem RN {p:Pt}{c:UInt8}(h:aZ p=true) (hc:¬(48≤c.toNat∧c.toNat≤57)) (h1:c≠46) (h2:c≠45):c∉lb (bc p):=by
 cases hh:au p with
 |true=>rw [qV hh];show c∉[45];simp [h2]
 |false=>
  rw [wK h hh]
  simp only [ZB4,ZB8,not_or]
  exact⟨po hc,h1,po hc,h1,po hc,h1,po hc,h1,po hc⟩
theorem nK {p:Pt}(h:aZ p=true):bP (bc p)=(p,true):=by
 cases hh:au p with
 |true=>rw [qV hh,wD (by decide),iu hh]
 |false=>
  have hl:=wK h hh
  obtain⟨b,l,e,hb1,hb2⟩:=ND p.1
  have fA:¬bc p=⟨#[45]⟩:=λheq=>by
   rw [heq,e] at hl
   have:(45:UInt8)=b:=by
    have h1:=congrArg List.head? hl
    rw [show lb ⟨#[45]⟩=[45] from rfl,ZG7] at h1
    exact ZG8 h1
   rw [←this] at hb1;exact absurd hb1 (by decide)
  have h46:∀n:Int,(46:UInt8)∉lb (bX n):=λn=>po (by decide)
  have TP:bm (bc p) 46=[bX p.1,bX p.2.1,bX p.2.2.1,bX p.2.2.2.1,bX p.2.2.2.2]:=by
   refine aas 46 ?_
   rw [hl,lB,lB,lB,lB,gj _ _ (h46 _),gj _ _ (h46 _),gj _ _ (h46 _),gj _ _ (h46 _),gj _ _ (h46 _)]
   rfl
  have hbd:=pT h
  rw [sa (decide_eq_false fA) (by rw [TP];rfl),TP]
  have e1:=eu (n:=p.1) (by omega) (by omega)
  have e2:=eu (n:=p.2.1) (by omega) (by omega)
  have e3:=eu (n:=p.2.2.1) (by omega) (by omega)
  have e4:=eu (n:=p.2.2.2.1) (by omega) (by omega)
  have e5:=eu (n:=p.2.2.2.2) (by omega) (by omega)
  have hn:lg [bX p.1,bX p.2.1,bX p.2.2.1,bX p.2.2.2.1,bX p.2.2.2.2] []=some [p.1,p.2.1,p.2.2.1,p.2.2.2.1,p.2.2.2.2]:=by
   simp [lg,e1,e2,e3,e4,e5]
  rw [BY hn]
  exact G6 (n:=[p.1,p.2.1,p.2.2.1,p.2.2.2.1,p.2.2.2.2]) (by show (!(aZ p))=false;rw [h];rfl) hh
theorem l7 {l:List Pt}(h:(bE l).2=true):∃a b c d,l=[a,b,c,d]∧aZ a=true∧aZ b=true∧aZ c=true∧aZ d=true∧(false|| !(au a)|| !(au b)|| !(au c)|| !(au d))=true∧lb (bE l).1=lb (bc a)++44::(lb (bc b)++44::(lb (bc c)++44::lb (bc d))):=by
 cases h4:decide ((l.length:Int)≠4) with
 |true=>rw [wY h4] at h;cases h
 |false=>
  have hl:l.length=4:=by have:=aA h4;omega
  rw [wX h4] at h ⊢
  match l,hl with
  |[a,b,c,d],_=>
   refine⟨a,b,c,d,ζ,?_⟩
   cases ha:aZ a with
   |false=>rw [pj (by simp [gX,ha])] at h;cases h
   |true=>cases hb:aZ b with
    |false=>rw [pj (by simp [gX,ha,hb])] at h;cases h
    |true=>cases hc:aZ c with
     |false=>rw [pj (by simp [gX,ha,hb,hc])] at h;cases h
     |true=>cases hd:aZ d with
      |false=>rw [pj (by simp [gX,ha,hb,hc,hd])] at h;cases h
      |true=>
       have e:gX [a,b,c,d] 0 ⟨#[]⟩ false=some ((⟨#[]⟩++bc a)++⟨#[44]⟩++bc b++⟨#[44]⟩++bc c++⟨#[44]⟩++bc d,(false|| !(au a)|| !(au b)|| !(au c)|| !(au d))):=by
        simp [gX,ha,hb,hc,hd]
       rw [sF e] at h ⊢
       cases hs: !(false|| !(au a)|| !(au b)|| !(au c)|| !(au d)) with
       |true=>rw [C5 hs] at h;cases h
       |false=>
        rw [wZ hs]
        refine⟨ζ,ζ,ζ,ζ,oH hs,?_⟩
        simp only [wL,adI,ZD0,ZD2]
        rfl
theorem EC {l:List Pt}(h:(bE l).2=true):bl (bE l).1=(l,true):=by
 obtain⟨a,b,c,d,rfl,ha,hb,hc,hd,hs,hl⟩:=l7 h
 have h44:∀p:Pt,aZ p=true→(44:UInt8)∉lb (bc p):=λp hp=>RN hp (by decide) (by decide) (by decide)
 have TP:bm (bE [a,b,c,d]).1 44=[bc a,bc b,bc c,bc d]:=by
  refine aas 44 ?_
  rw [hl,lB,lB,lB,gj _ _ (h44 a ha),gj _ _ (h44 b hb),gj _ _ (h44 c hc),gj _ _ (h44 d hd)]
  rfl
 have e:oh (bm (bE [a,b,c,d]).1 44) [] false=some ([a,b,c,d],false|| !(au a)|| !(au b)|| !(au c)|| !(au d)):=by
  rw [TP]
  simp [oh,nK ha,nK hb,nK hc,nK hd]
 rw [jX e]
 exact vM rfl (by rw [hs];rfl)
theorem vK {l:List Pt}(h4:l.length=4) (cG:∀p∈l,aZ p=true) (hn:(!(l.any λp=> !(au p)))=false):(bE l).2=true:=by
 match l,h4 with
 |[a,b,c,d],_=>
  have ha:=cG a (by simp);have hb:=cG b (by simp);have hc:=cG c (by simp);have hd:=cG d (by simp)
  have e:gX [a,b,c,d] 0 ⟨#[]⟩ false=some ((⟨#[]⟩++bc a)++⟨#[44]⟩++bc b++⟨#[44]⟩++bc c++⟨#[44]⟩++bc d,(false|| !(au a)|| !(au b)|| !(au c)|| !(au d))):=by
   simp [gX,ha,hb,hc,hd]
  rw [wX rfl,sF e,wZ]
  simp only [List.any_cons,List.any_nil,Bool.not_eq_false'] at hn
  rw [Bool.or_false] at hn
  simp only [Bool.false_or,Bool.or_assoc];rw [hn];rfl
def C8:List ByteArray→List UInt8
 |[]=>[]
 |x::l=>lb (bX x.size)++58::(lb x++C8 l)
theorem D9:∀{l:List ByteArray}{out:ByteArray},(dB l out).2=true→lb (dB l out).1=lb out++C8 l∧(∀x∈l,x.size≤2048)∧((dB l out).1.size≤2048∨l=[])
 |[],out,_=>⟨by simp [dB,C8],by simp,.inr rfl⟩
 |x::l,out,h=>by
  unfold dB at h ⊢
  cases h1:decide ((x.size:Int)>2048) with
  |true=>rw [h1] at h;cases h
  |false=>
   rw [h1] at h
   simp only [cond_false] at h ⊢
   cases h2:decide (((out++bX x.size++⟨#[58]⟩++x).size:Int)>2048) with
   |true=>rw [h2] at h;cases h
   |false=>
    rw [h2] at h
    simp only [cond_false] at h ⊢
    obtain⟨e1,e2,e3⟩:=D9 h
    refine⟨?_,?_,.inl ?_⟩
    ·rw [e1]
     simp only [wL,C8,ZD2]
     rfl
    ·intro y hy
     rcases ZB8.1 hy with rfl |hy
     ·have:=aA h1;omega
     ·exact e2 y hy
    ·rcases e3 with e3 |rfl
     ·exact e3
     ·have:=aA h2
      show (dB [] _).1.size≤2048
      simp only [dB];omega
theorem D8:∀{l:List ByteArray}{out:ByteArray},out.size+(l.map λx=>x.size+13).sum≤2048→(dB l out).2=true
 |[],_,_=>rfl
 |x::l,out,h=>by
  simp only [ZE7,List.sum_cons] at h
  have hd:=db (n:=(x.size:Int)) (by omega)
  have dj:(out++bX x.size++⟨#[58]⟩++x).size=out.size+(bX x.size).size+1+x.size:=by
   simp only [ZB2];rfl
  unfold dB
  rw [decide_eq_false (by omega),cond_false,decide_eq_false (by rw [dj];omega),cond_false]
  exact D8 (by rw [dj];omega)
theorem afV {s:ByteArray}{x:ByteArray}{tail:List UInt8}(hx:x.size≤2048) (hs:lb s=lb (bX x.size)++58::tail):CN s=((x.size:Int),((lb (bX x.size)).length:Int)):=by
 have:=ZR (s:=s) (n:=x.size) (rest:=58::tail) (by omega) hs (λb hb=>by
  simp only [List.head?_cons,Option.some.injEq] at hb
  rw [←hb];decide)
 exact this
theorem Z8 {s:ByteArray}:∀{l:List ByteArray}{f:Nat}{pre:List UInt8}{out:List ByteArray},lb s=pre++C8 l→(∀x∈l,x.size≤2048)→l.length<f→JB f s pre.length out=some (out++l)
 |[],f,pre,out,hs,_,hf=>by
  obtain⟨g,rfl⟩:∃g,f=g+1:=⟨f-1,by simp at hf;omega⟩
  have dj:s.size=pre.length:=by rw [fo,hs];simp [C8]
  rw [aeA (decide_eq_false (by rw [dj];omega)),ZE5]
 |x::l,f,pre,out,hs,hx,hf=>by
  obtain⟨g,rfl⟩:∃g,f=g+1:=⟨f-1,by simp at hf;omega⟩
  have hx1:=hx x (by simp)
  have hs2:lb s=pre++(lb (bX x.size)++58::(lb x++C8 l)):=hs
  have dj:s.size=pre.length+((lb (bX x.size)).length+(1+(x.size+(C8 l).length))):=by
   rw [fo,hs2];simp only [ZA0,ZA1,←fo];omega
  obtain⟨b0,l0,e0,_⟩:=ND (x.size:Int)
  have hd1:1≤(lb (bX x.size)).length:=by rw [e0];simp
  have hex:lb (s.extract (pre.length:Int).toNat s.size)=lb (bX x.size)++58::(lb x++C8 l):=by
   rw [mT,fo,ZD1 (ZB5 _),hs2,ZA5,List.drop_left]
  have hr:tQ s (pre.length:Int)=((x.size:Int),((lb (bX x.size)).length:Int)):=afV hx1 hex
  have xD:bL s ((pre.length:Int)+((lb (bX x.size)).length:Int)).toNat=58:=by
   rw [ni,hs2,show ((pre.length:Int)+((lb (bX x.size)).length:Int)).toNat=pre.length+(lb (bX x.size)).length by omega]
   rw [ZC6 (by omega),ZG4,ZC6 (ZB5 _),Nat.sub_self]
   rfl
  have iC:qt s (pre.length:Int) (tQ s (pre.length:Int))=false:=by
   rw [hr]
   exact aad (decide_eq_false (by simp only;omega)) (decide_eq_false (by simp only;omega)) (decide_eq_false (by simp only;rw [xD];simp)) (decide_eq_false (by simp only;omega))
  rw [ag0 (decide_eq_true (by omega)) iC,hr]
  have ahO:s.extract ((pre.length:Int)+((lb (bX x.size)).length:Int)+1).toNat ((pre.length:Int)+((lb (bX x.size)).length:Int)+1+(x.size:Int)).toNat=x:=by
   refine vx ?_
   rw [mT,hs2]
   rw [show ((pre.length:Int)+((lb (bX x.size)).length:Int)+1+(x.size:Int)).toNat=pre.length+((lb (bX x.size)).length+(1+x.size)) by omega,show ((pre.length:Int)+((lb (bX x.size)).length:Int)+1).toNat=pre.length+((lb (bX x.size)).length+1) by omega]
   rw [List.take_length_add_append,ZF5,List.take_length_add_append,ZF5]
   rw [show 1+x.size=x.size+1 by omega,List.take_succ_cons,List.drop_succ_cons,ZF0,fo,List.take_left]
  show JB g s ((pre.length:Int)+((lb (bX x.size)).length:Int)+1+(x.size:Int)) _=_
  simp only
  rw [ahO]
  have:=Z8 (s:=s) (l:=l) (f:=g) (pre:=pre++(lb (bX x.size)++58::lb x)) (out:=out++[x]) (by rw [hs2];simp [ZD2]) (λy hy=>hx y (by simp [hy])) (by simp at hf;omega)
  rw [show ((pre++(lb (bX x.size)++58::lb x)).length:Int)=(pre.length:Int)+((lb (bX x.size)).length:Int)+1+(x.size:Int) by simp only [ZA0,ZA1,←fo];omega] at this
  rw [this,ZD2];rfl
theorem UE:∀(l:List ByteArray),l.length≤(C8 l).length
 |[]=>ZB5 _
 |x::l=>by
  have:=UE l
  simp only [C8,ZA0,ZA1];omega
theorem I9 {l:List ByteArray}(h:(cE l).2=true):bq (cE l).1=(l,true):=by
 cases h60:decide ((l.length:Int)≤60) with
 |false=>rw [tP h60] at h;cases h
 |true=>
  have h0:=h
  rw [gE h60] at h
  obtain⟨e1,e2,e3⟩:=D9 h
  rw [gE h60]
  generalize hs:(dB l ⟨#[]⟩).1=s at e1 e3 ⊢
  have e1:lb s=C8 l:=by simpa [adI] using e1
  have dj:s.size≤2048:=by
   rcases e3 with e3 |rfl
   ·exact e3
   ·rw [fo,e1];simp [C8]
  have hlen:=UE l
  have hg:=Z8 (s:=s) (l:=l) (f:=s.size+1) (pre:=[]) (out:=[]) (by simpa using e1) e2 (by rw [fo,e1];omega)
  unfold bq
  rw [decide_eq_true (by omega),cond_true]
  rw [show ((([]:List UInt8).length:Nat):Int)=0 from rfl] at hg
  rw [hg]
  show vJ s ([]++l)=(l,true)
  rw [ZD0]
  unfold vJ
  rw [h0,gE h60,hs]
  simp
theorem tB {n:fu}(h:cy n=true):bz (aC n)=(n,true):=by
 have hb:=lh h
 have hp:aC n=(cE [bX n.1,bX n.2.1,bX n.2.2.1,bc n.root,bX n.2.2.2.2.2.2.2.2.1,bX n.2.2.2.2.2.2.2.2.2,⟨#[101,110,100]⟩]).1:=by unfold aC;rw [h];rfl
 have hf:(cE [bX n.1,bX n.2.1,bX n.2.2.1,bc n.root,bX n.2.2.2.2.2.2.2.2.1,bX n.2.2.2.2.2.2.2.2.2,⟨#[101,110,100]⟩]).2=true:=by
  rw [gE rfl]
  refine D8 ?_
  have d1:=db (n:=n.1) (by omega)
  have d2:=db (n:=n.2.1) (by omega)
  have d3:=db (n:=n.2.2.1) (by omega)
  have d4:=gu n.root
  have d5:=db (n:=n.2.2.2.2.2.2.2.2.1) (by omega)
  have d6:=db (n:=n.2.2.2.2.2.2.2.2.2) (by omega)
  simp only [ZE7,List.map_nil,List.sum_cons,List.sum_nil]
  rw [show (⟨#[101,110,100]⟩:ByteArray).size=3 from rfl,show (⟨#[]⟩:ByteArray).size=0 from rfl]
  omega
 have hg:=I9 hf
 rw [←hp] at hg
 have e1:=eu (n:=n.1) (by omega) (by omega)
 have e2:=eu (n:=n.2.1) (by omega) (by omega)
 have e3:=eu (n:=n.2.2.1) (by omega) (by omega)
 have e4:=nK hb.2.2.2.2.2.1
 have e5:=eu (n:=n.2.2.2.2.2.2.2.2.1) (by omega) (by omega)
 have e6:=eu (n:=n.2.2.2.2.2.2.2.2.2) (by omega) (by omega)
 have uy:mS [bX n.1,bX n.2.1,bX n.2.2.1,bc n.root,bX n.2.2.2.2.2.2.2.2.1,bX n.2.2.2.2.2.2.2.2.2,⟨#[101,110,100]⟩]=n:=by
  show ((aD (bX n.1)).1,(aD (bX n.2.1)).1,(aD (bX n.2.2.1)).1,(bP (bc n.root)).1.1,(bP (bc n.root)).1.2.1,(bP (bc n.root)).1.2.2.1,(bP (bc n.root)).1.2.2.2.1,(bP (bc n.root)).1.2.2.2.2,(aD (bX n.2.2.2.2.2.2.2.2.1)).1,(aD (bX n.2.2.2.2.2.2.2.2.2)).1)=n
  rw [e1,e2,e3,e4,e5,e6]
 unfold bz
 rw [hg,uy,h]
 simp
end GL
namespace GL
abbrev at' (p:Pt):Nat:=p.1.toNat
def K2 (r:Nat) (p:Pt):Bool:= !(au p)&&decide (at' p=r)
def bn (l:List Pt) (r:Nat):Nat:=l.countP (K2 r)
theorem rq (r:Nat):bn [] r=0:=rfl
theorem bI (l m:List Pt) (r:Nat):bn (l++m) r=bn l r+bn m r:=List.countP_append
theorem dP (p:Pt) (l:List Pt) (r:Nat):bn (p::l) r=bn [p] r+bn l r:=bI [p] l r
theorem PU {l m:List Pt}(h:l.Sublist m) (r:Nat):bn l r≤bn m r:=h.countP_le
theorem l9 {p:Pt}(h:au p=true) (r:Nat):bn [p] r=0:=by
 simp [bn,K2,h]
theorem rM {p:Pt}(h:au p=false):bn [p] (at' p)=1:=by
 simp [bn,K2,h]
theorem yU {p:Pt}{r:Nat}(h:at' p≠r):bn [p] r=0:=by
 simp [bn,K2,h]
theorem tX {l:List Pt}{p:Pt}(hp:p∈l) (h:au p=false):0<bn l (at' p):=by
 unfold bn
 rw [List.countP_pos_iff]
 exact⟨p,hp,by simp [K2,h]⟩
theorem X4 (f:Pt→Bool) (l:List Pt) (r:Nat):bn (l.filter f) r≤bn l r:=PU List.filter_sublist r
def qI (s:ay) (r:Nat):Int:=nth ag s.refs r
structure Acc (s:ay) (O:Nat→Nat):Prop where
 wf:s.wf
 up:∀r,qI s r≤1000000
 cg:1≤s.cg∧s.cg≤1000000
 sl:∀r,((bn s.gone r+bn s.dead r+O r:Nat):Int)≤qI s r
 ok:∀p∈s.gone++s.dead,aZ p=true∧au p=false
theorem Acc.mono {s:ay}{O O':Nat→Nat}(h:Acc s O) (hO:∀r,O' r≤O r):Acc s O':=
 ⟨h.wf,h.up,h.cg,λr=>by have:=h.sl r;have:=hO r;omega,h.ok⟩
def Kp (O:Nat→Nat) (s u:ay):Prop:=∀r,0<O r→nth ab u.rows r=nth ab s.rows r
theorem Kp.refl (O:Nat→Nat) (s:ay):Kp O s s:=λ_ _=>rfl
theorem Kp.trans {O:Nat→Nat}{a b c:ay}(h:Kp O a b) (h2:Kp O b c):Kp O a c:=λr hr=>(h2 r hr).trans (h r hr)
theorem Kp.mono {O O':Nat→Nat}{a b:ay}(h:Kp O a b) (hO:∀r,O' r≤O r):Kp O' a b:=λr hr=>h r (ZG3 hr (hO r))
structure dQ (s u:ay):Prop where
 cg:u.cg=s.cg
 bZ:u.bZ=s.bZ
 same:u.same=s.same
theorem dQ.refl (s:ay):dQ s s:=⟨rfl,rfl,rfl⟩
theorem dQ.trans {a b c:ay}(h:dQ a b) (h2:dQ b c):dQ a c:=⟨h2.cg.trans h.cg,h2.bZ.trans h.bZ,h2.same.trans h.same⟩
theorem ix {ek:EK}{l:List (EK.Ty ek)}{k r:Nat}{x:EK.Ty ek}(h:k≠r):nth ek (l.set k x) r=nth ek l r:=by
 unfold nth;rw [List.getElem?_set_ne h]
theorem tz {ek:EK}{l:List (EK.Ty ek)}{k:Nat}(h:l.length≤k):nth ek l k=EK.zero ek:=by
 unfold nth;rw [ZD8 h]
theorem FX {n:Int}(h0: -1000000000≤n) (h1:n≤1000000000):xu n=n:=oQ (by simp only [gK];omega) (by simp only [imax];omega)
theorem sr {p:Pt}(h:aZ p=true):at' p<64:=by have:=pT h;unfold at';omega
theorem C2 {s:ay}{O O':Nat→Nat}{p:Pt}(h:Acc s O) (hp:aZ p=true) (hO:∀r,O' r+bn [p] r≤O r):Acc (cM s p) O'∧Kp O' s (cM s p)∧dQ s (cM s p):=by
 have oN:=qq (p:=p) h.wf
 cases hh:au p with
 |true=>
  rw [yO hh]
  exact⟨h.mono λr=>by have:=hO r;omega,Kp.refl _ _,dQ.refl _⟩
 |false=>
  cases h1:decide (p.2.1≤s.bZ) with
  |true=>
   rw [yR hh h1] at oN ⊢
   refine⟨⟨oN,h.up,h.cg,λr=>?_,λq hq=>?_⟩,Kp.refl _ _,⟨ζ,ζ,ζ⟩⟩
   ·show ((bn s.gone r+bn (s.dead++[p]) r+O' r:Nat):Int)≤qI s r
    rw [bI];have:=h.sl r;have:=hO r;omega
   ·have hq:q∈s.gone++(s.dead++[p]):=hq
    rw [←ZD2] at hq
    rcases ZB4.1 hq with hq |hq
    ·exact h.ok q hq
    ·rw [ZC7.1 hq];exact⟨hp,hh⟩
  |false=>
   cases h2:decide (p.2.1<s.cg) with
   |true=>
    rw [yP hh h1 h2] at oN ⊢
    refine⟨⟨oN,h.up,h.cg,λr=>?_,λq hq=>?_⟩,Kp.refl _ _,⟨ζ,ζ,ζ⟩⟩
    ·show ((bn (s.gone++[p]) r+bn s.dead r+O' r:Nat):Int)≤qI s r
     rw [bI];have:=h.sl r;have:=hO r;omega
    ·have hq:q∈(s.gone++[p])++s.dead:=hq
     simp only [ZB4,ZC7] at hq
     rcases hq with (hq |hq) |hq
     ·exact h.ok q (by simp [hq])
     ·rw [hq];exact⟨hp,hh⟩
     ·exact h.ok q (by simp [hq])
   |false=>
    rw [yQ hh h1 h2] at oN ⊢
    have xD:=sr hp
    have hlen:at' p<s.refs.length:=by rw [h.wf.n.2.1];exact xD
    have hsl:=h.sl (at' p)
    have hOa:=hO (at' p)
    rw [rM hh] at hOa
    have hup:=h.up (at' p)
    have hw:xu (qI s (at' p)-1)=qI s (at' p)-1:=FX (by omega) (by omega)
    have hrf:(gf s p.1.toNat).refs=s.refs.set (at' p) (qI s (at' p)-1):=by
     show s.refs.set (at' p) (xu (qI s (at' p)-1))=_
     rw [hw]
    have vE:∀r,qI (gf s p.1.toNat) r=qI s r-bn [p] r:=λr=>by
     show nth ag (gf s p.1.toNat).refs r=nth ag s.refs r-_
     rw [hrf]
     by_cases e:at' p=r
     ·subst e;rw [nu (ek:=ag) hlen,rM hh];rfl
     ·rw [ix (ek:=ag) e,yU e];simp
    refine⟨⟨oN,λr=>?_,h.cg,λr=>?_,h.ok⟩,λr hr=>?_,⟨ζ,ζ,ζ⟩⟩
    ·rw [vE];have:=h.up r;omega
    ·rw [vE]
     show ((bn s.gone r+bn s.dead r+O' r:Nat):Int)≤_
     have:=h.sl r;have:=hO r;omega
    ·show nth ab (bif uC s p.1.toNat then s.rows.set p.1.toNat ByteArray.empty else s.rows) r=_
     cases hb:uC s p.1.toNat with
     |false=>rfl
     |true=>
      have hz:qI (gf s p.1.toNat) (at' p)=0:=aJ hb
      rw [vE,rM hh] at hz
      by_cases e:at' p=r
      ·subst e;omega
      ·exact ix (ek:=ab) e
theorem yM:∀{l:List Pt}{s:ay}{O O':Nat→Nat},Acc s O→(∀p∈l,aZ p=true)→(∀r,O' r+bn l r≤O r)→Acc (l.foldl cM s) O'∧Kp O' s (l.foldl cM s)∧dQ s (l.foldl cM s)
 |[],s,O,O',h,_,hO=>⟨h.mono λr=>by have:=hO r;rw [rq] at this;omega,Kp.refl _ _,dQ.refl _⟩
 |p::l,s,O,O',h,hl,hO=>by
  have h1:=C2 (O':=λr=>O' r+bn l r) h (hl p (by simp)) (λr=>by have:=hO r;rw [dP] at this;show O' r+bn l r+_≤_;omega)
  have h2:=yM (l:=l) (O':=O') h1.1 (λq hq=>hl q (by simp [hq])) (λr=>ZB5 _)
  exact⟨h2.1,(h1.2.1.mono λr=>ZD3 _ _).trans h2.2.1,h1.2.2.trans h2.2.2⟩
theorem I8:∀(f i:Nat) (rf:List Int),findF f i rf= -1∨nth ag rf (findF f i rf).toNat=0
 |0,_,_=>.inl rfl
 |f+1,i,rf=>by
  unfold findF
  cases hd:decide (nth ag rf i=0) with
  |true=>right;simp only [cond_true,ZA5];exact aJ hd
  |false=>exact I8 f (i+1) rf
theorem H4:∀(f i:Nat) (s:ay) (text:ByteArray),sx f i s text= -1∨vr s text (sx f i s text).toNat=true
 |0,_,_,_=>.inl rfl
 |f+1,i,s,text=>by
  unfold sx
  cases hd:vr s text i with
  |true=>right;simp only [cond_true,ZA5];exact hd
  |false=>exact H4 f (i+1) s text
theorem NQ (s:ay) (text:ByteArray) (lv:Int):da s text lv<0∨(8≤da s text lv∧da s text lv<64)∧(nth ag s.refs (da s text lv).toNat=0∨nth ab s.rows (da s text lv).toNat=text∧nth ag s.refs (da s text lv).toNat<s.cg):=by
 have hf:oe s.refs<0∨(8≤oe s.refs∧oe s.refs<64)∧nth ag s.refs (oe s.refs).toNat=0:=by
  rcases T1 s.refs with h |h
  ·left;omega
  ·right
   refine⟨h,?_⟩
   rcases I8 56 8 s.refs with h2 |h2
   ·have:oe s.refs= -1:=h2
    omega
   ·exact h2
 have key:∀a,a=oe s.refs→a<0∨(8≤a∧a<64)∧(nth ag s.refs a.toNat=0∨nth ab s.rows a.toNat=text∧nth ag s.refs a.toNat<s.cg):=λa e=>by
  rw [e]
  rcases hf with h |h
  ·exact .inl h
  ·exact .inr ⟨h.1,.inl h.2⟩
 cases h1:s.same with
 |false=>exact key _ (wk h1)
 |true=>
  cases h2:decide (lv=0) with
  |false=>exact key _ (wm h2)
  |true=>
   cases h3:decide (re s text<0) with
   |true=>exact key _ (wo h1 h2 h3)
   |false=>
    rw [AZ h1 h2 h3]
    have h3:=aA h3
    right
    rcases SX s text with h |h
    ·omega
    ·refine⟨h,.inr ?_⟩
     rcases H4 56 8 s text with h4 |h4
     ·have:re s text= -1:=h4
      omega
     ·have h4:vr s text (re s text).toNat=true:=h4
      unfold vr at h4
      simp only [ZA9,decide_eq_true_eq] at h4
      exact⟨h4.1,h4.2.2⟩
structure aj8 (s u:ay) (p:Pt) (text:ByteArray) (lv:Int):Prop where
 ok:aZ p=true
 nh:au p=false
 lv:p.2.2.2.2=lv
 EI:p.2.1=s.cg
 row:nth ab u.rows (at' p)=text
 fits:iX p text=true
theorem xJ {s:ay}{O:Nat→Nat}{text:ByteArray}{lv:Int}(h:Acc s O) (hz:(bd s text lv).2.2=true):
  Acc (bd s text lv).1 (λr=>O r+bn [(bd s text lv).2.1] r)∧Kp O s (bd s text lv).1∧dQ s (bd s text lv).1∧(bd s text lv).1.gone=s.gone∧(bd s text lv).1.dead=s.dead∧aj8 s (bd s text lv).1 (bd s text lv).2.1 text lv:=by
 have oN:=AY (text:=text) (lv:=lv) h.wf
 cases hd:decide (da s text lv<0) with
 |true=>rw [nA rfl hd] at hz;cases hz
 |false=>
  cases h2: !(gv (da s text lv) s.cg lv text).2 with
  |true=>rw [mz rfl hd h2] at hz;cases hz
  |false=>
   rw [o8 rfl hd h2] at oN ⊢
   have hd:=aA hd
   have h2:=oH h2
   have hw:=NQ s text lv
   generalize ha:da s text lv=a at *
   have hpo:ik text.size 1 128=true∧aZ (a,s.cg,(text.size:Int),qN text,lv)=true:=by
    cases hi:ik text.size 1 128 with
    |false=>rw [BX hi] at h2;cases h2
    |true=>cases hj:aZ (a,s.cg,(text.size:Int),qN text,lv) with
     |false=>rw [BW hj] at h2;cases h2
     |true=>exact⟨rfl,rfl⟩
   rw [BV hpo.1 hpo.2] at *
   obtain⟨⟨h8,h64⟩,sE⟩:=hw.resolve_left hd
   have hnh:au (a,s.cg,(text.size:Int),qN text,lv)=false:=by
    unfold au;rw [decide_eq_false (by show¬a=0;omega)];rfl
   have hlr:a.toNat<s.refs.length:=by rw [h.wf.n.2.1];omega
   have bU:a.toNat<s.rows.length:=by rw [h.wf.n.1];omega
   have hup:=h.up a.toNat
   have hsl:=h.sl a.toNat
   have hw2:xu (qI s a.toNat+1)=qI s a.toNat+1:=FX (by omega) (by omega)
   have sE:qI s a.toNat=0∨nth ab s.rows a.toNat=text∧qI s a.toNat<s.cg:=sE
   have vE:∀r,qI (uO s text a.toNat) r=qI s r+bn [((a,s.cg,(text.size:Int),qN text,lv):Pt)] r:=λr=>by
    show nth ag (s.refs.set a.toNat (xu (qI s a.toNat+1))) r=nth ag s.refs r+_
    rw [hw2]
    by_cases e:a.toNat=r
    ·subst e
     rw [nu (ek:=ag) hlr]
     rw [show bn [((a,s.cg,(text.size:Int),qN text,lv):Pt)] a.toNat=1 from rM hnh];rfl
    ·rw [ix (ek:=ag) e,yU (p:=(a,s.cg,(text.size:Int),qN text,lv)) e];simp
   refine⟨⟨oN,λr=>?_,h.cg,λr=>?_,h.ok⟩,λr hr=>?_,⟨ζ,ζ,ζ⟩,ζ,ζ,⟨hpo.2,hnh,ζ,ζ,?_,?_⟩⟩
   ·rw [vE]
    by_cases e:a.toNat=r
    ·subst e
     rw [show bn [((a,s.cg,(text.size:Int),qN text,lv):Pt)] a.toNat=1 from rM hnh]
     have:=h.cg
     rcases sE with hc |hc<;>omega
    ·rw [yU (p:=(a,s.cg,(text.size:Int),qN text,lv)) e];have:=h.up r;omega
   ·rw [vE]
    show ((bn s.gone r+bn s.dead r+(O r+bn [((a,s.cg,(text.size:Int),qN text,lv):Pt)] r):Nat):Int)≤_
    have:=h.sl r;omega
   ·show nth ab (s.rows.set a.toNat text) r=_
    by_cases e:a.toNat=r
    ·subst e
     rw [nu (ek:=ab) bU]
     rcases sE with hc |hc
     ·omega
     ·exact hc.1.symm
    ·exact ix (ek:=ab) e
   ·exact nu (ek:=ab) bU
   ·unfold iX
    rw [hpo.2,hnh]
    simp
end GL
namespace GL
abbrev lz (s:ay) (n:Nat) (p:Pt):List Pt:=(bg s p ((((n+1):Nat):Int))).1
def rv (s:ay):Nat→Pt→Prop
 |0,p=>aZ p=true∧(au p=false→p.2.2.2.2=0∧p.2.1≤s.cg∧(bF s p).2=true)
 |n+1,p=>aZ p=true∧(au p=false→(bg s p ((((n+1):Nat):Int))).2=true)∧∀q∈lz s n p,rv s n q
def im (s:ay):Nat→Pt→List Pt
 |0,p=>[p]
 |n+1,p=>p::(lz s n p).flatMap (im s n)
def xj (s:ay):Nat→Pt→List Pt
 |0,p=>[p]
 |n+1,p=>(lz s n p).flatMap (xj s n)
def uJ (s:ay):Nat→Pt→List Pt
 |0,_=>[]
 |n+1,p=>p::(lz s n p).flatMap (uJ s n)
theorem vR {f g h:Pt→List Pt}{r:Nat}:∀{l:List Pt},(∀q∈l,bn (f q) r=bn (g q) r+bn (h q) r)→bn (l.flatMap f) r=bn (l.flatMap g) r+bn (l.flatMap h) r
 |[],_=>rfl
 |q::l,hq=>by
  simp only [ZD5,bI]
  have h1:=hq q (by simp)
  have h2:=vR (l:=l) (λq h=>hq q (by simp [h]))
  omega
theorem fZ {f:Pt→List Pt}{r:Nat}{q:Pt}:∀{l:List Pt},q∈l→bn (f q) r≤bn (l.flatMap f) r
 |p::l,hq=>by
  simp only [ZD5,bI]
  rcases ZB8.1 hq with rfl |hq
  ·omega
  ·have:=fZ (f:=f) (r:=r) hq;omega
theorem jA {f g:Pt→List Pt}:∀{l:List Pt},(∀q∈l,f q=g q)→l.flatMap f=l.flatMap g
 |[],_=>rfl
 |q::l,h=>by
  simp only [ZD5]
  rw [h q (by simp),jA (l:=l) λq hq=>h q (by simp [hq])]
theorem mB (s:ay) (r:Nat):∀(n:Nat) (p:Pt),bn (im s n p) r=bn (uJ s n p) r+bn (xj s n p) r
 |0,p=>by show bn [p] r=bn [] r+bn [p] r;rw [rq];omega
 |n+1,p=>by
  show bn (p::(lz s n p).flatMap (im s n)) r=bn (p::(lz s n p).flatMap (uJ s n)) r+bn ((lz s n p).flatMap (xj s n)) r
  rw [dP,dP p ((lz s n p).flatMap (uJ s n))]
  have:=vR (f:=im s n) (g:=uJ s n) (h:=xj s n) (r:=r) (l:=lz s n p) λq _=>mB s r n q
  omega
theorem ot {s:ay}{n:Nat}{p:Pt}(h:au p=true):lz s n p=cu 4:=by show (bg s p _).1=_;rw [kt h]
theorem oq {s:ay}{p:Pt}{lv:Int}(h:au p=false) (h2:(bg s p lv).2=true):aZ p=true∧p.2.2.2.2=lv∧p.2.1≤s.cg∧(bF s p).2=true∧bg s p lv=bl (bF s p).1∧(bl (bF s p).1).2=true∧(bl (bF s p).1).1.any (late p)=false:=by
 cases h1: !(aZ p) with
 |true=>rw [KC h h1] at h2;cases h2
 |false=>
  cases h3:decide (p.2.2.2.2≠lv) with
  |true=>rw [v8 h h3] at h2;cases h2
  |false=>
   cases h4:decide (p.2.1>s.cg) with
   |true=>rw [AG h h4] at h2;cases h2
   |false=>
    cases h5: !(bF s p).2 with
    |true=>rw [v7 h h1 h3 h4 h5] at h2;cases h2
    |false=>
     have e:=vZ h h1 h3 h4 h5
     rw [e] at h2
     cases h6:(bl (bF s p).1).1.any (late p) with
     |true=>rw [wa h6] at h2;cases h2
     |false=>
      rw [sQ h6] at h2 e
      have h3:=aA h3
      have h4:=aA h4
      exact⟨oH h1,by omega,by omega,oH h5,e,h2,rfl⟩
theorem NN {s:ay}{p:Pt}{lv:Int}(h:au p=false) (h1:aZ p=true) (h2:p.2.2.2.2=lv) (h3:p.2.1≤s.cg) (h4:(bF s p).2=true) (h5:(bl (bF s p).1).1.any (late p)=false):bg s p lv=bl (bF s p).1:=by
 rw [vZ h (by rw [h1];rfl) (decide_eq_false (by omega)) (decide_eq_false (by omega)) (by rw [h4];rfl),sQ h5]
theorem rv.pok {s:ay}{n:Nat}{p:Pt}(h:rv s n p):aZ p=true:=by cases n<;>exact h.1
theorem ku (s:ay):∀(n:Nat),rv s n bM
 |0=>⟨by decide,λh=>by cases h⟩
 |n+1=>⟨by decide,(λh=>by cases h),λq hq=>by
   rw [ot (by decide)] at hq
   rw [show q=bM from (ZD6.1 hq).2]
   exact ku s n⟩
theorem rv.EI {s:ay}{n:Nat}{p:Pt}(h:rv s n p) (ht:1≤s.cg):p.2.1≤s.cg:=by
 cases hh:au p with
 |true=>rw [iu hh];show (0:Int)≤_;omega
 |false=>
  cases n with
  |zero=>exact (h.2 hh).2.1
  |succ n=>exact (oq hh (h.2.1 hh)).2.2.1
theorem mI {s u:ay}{p:Pt}(h:au p=false→nth ab u.rows (at' p)=nth ab s.rows (at' p)):bF u p=bF s p:=by
 cases hh:au p with
 |true=>rw [fT hh,fT hh]
 |false=>
  have e:=h hh
  unfold bF
  rw [show nth ab u.rows p.1.toNat=nth ab s.rows p.1.toNat from e]
theorem EJ {s u:ay}{p:Pt}{lv:Int}(ht:s.cg≤u.cg) (h:au p=false→nth ab u.rows (at' p)=nth ab s.rows (at' p)) (h2:au p=false→(bg s p lv).2=true):bg u p lv=bg s p lv:=by
 cases hh:au p with
 |true=>rw [kt hh,kt hh]
 |false=>
  obtain⟨h3,h4,h5,h6,h7,h8,h9⟩:=oq hh (h2 hh)
  have e:=mI h
  rw [h7,←e]
  exact NN hh h3 h4 (by omega) (by rw [e];exact h6) (by rw [e];exact h9)
theorem KM {s u:ay}(ht:s.cg≤u.cg):∀{n:Nat}{p:Pt},rv s n p→(∀q∈im s n p,au q=false→nth ab u.rows (at' q)=nth ab s.rows (at' q))→rv u n p∧im u n p=im s n p∧xj u n p=xj s n p∧uJ u n p=uJ s n p
 |0,p,h,hk=>by
  refine⟨⟨h.1,λhh=>?_⟩,ζ,ζ,ζ⟩
  have h2:=h.2 hh
  exact⟨h2.1,by omega,by rw [mI (s:=s) (u:=u) (p:=p) (λhh=>hk p (by simp [im]) hh)];exact h2.2.2⟩
 |n+1,p,h,hk=>by
  have e:bg u p ((((n+1):Nat):Int))=bg s p ((((n+1):Nat):Int)):=EJ ht (λhh=>hk p (by simp [im]) hh) h.2.1
  have eb:lz u n p=lz s n p:=congrArg Prod.fst e
  have hq:∀q∈lz s n p,rv u n q∧im u n q=im s n q∧xj u n q=xj s n q∧uJ u n q=uJ s n q:=λq hq=>
   KM ht (h.2.2 q hq) λx hx hh=>hk x (by
    show x∈p::(lz s n p).flatMap (im s n)
    exact List.mem_cons_of_mem _ (List.mem_flatMap.2 ⟨q,hq,hx⟩)) hh
  refine⟨⟨h.1,λhh=>by rw [e];exact h.2.1 hh,λq hx=>?_⟩,?_,?_,?_⟩
  ·rw [eb] at hx;exact (hq q hx).1
  ·show p::(lz u n p).flatMap (im u n)=p::(lz s n p).flatMap (im s n)
   rw [eb,jA λq hx=>(hq q hx).2.1]
  ·show (lz u n p).flatMap (xj u n)=(lz s n p).flatMap (xj s n)
   rw [eb,jA λq hx=>(hq q hx).2.2.1]
  ·show p::(lz u n p).flatMap (uJ u n)=p::(lz s n p).flatMap (uJ s n)
   rw [eb,jA λq hx=>(hq q hx).2.2.2]
theorem uk {s u:ay}{O:Nat→Nat}{n:Nat}{p:Pt}(h:rv s n p) (ht:s.cg≤u.cg) (hk:Kp O s u) (hO:∀r,bn (im s n p) r≤O r):rv u n p∧im u n p=im s n p∧xj u n p=xj s n p∧uJ u n p=uJ s n p:=
 KM ht h λq hq hh=>hk _ (ZG3 (tX hq hh) (hO _))
theorem wC {u:ay}{p:Pt}{text:ByteArray}(hn:au p=false) (hr:nth ab u.rows (at' p)=text) (hf:iX p text=true):bF u p=(text,true):=by
 have hr:nth ab u.rows p.1.toNat=text:=hr
 rw [yc hn (by rw [hr];exact hf),hr]
theorem ahP:∀{l:List Pt},l.length=4→nV l=true→l=cu 4
 |[a,b,c,d],_,h=>by
  unfold nV at h
  simp only [List.any_cons,List.any_nil,ZF8,ZE1,Bool.not_eq_false'] at h
  rw [iu h.1,iu h.2.1,iu h.2.2.1,iu h.2.2.2.1];rfl
structure alx (s:ay) (O:Nat→Nat) (n:Nat) (l:List Pt) (old:Pt) (u:ay) (p:Pt) (fr:List Pt):Prop where
 acc:Acc u (λr=>O r+bn fr r)
 kp:Kp O s u
 same:dQ s u
 sub:rv u (n+1) p
 lz:lz u n p=l
 num:∀r,bn [p] r≤bn fr r+bn (bif ptrEq p old then [p] else []) r
theorem ab1 {s:ay}{O:Nat→Nat}{n:Nat}{l:List Pt}{old:Pt}(h:Acc s O) (hl:l.length=4) (hs:∀q∈l,rv s n q) (hc:∀r,bn (l.flatMap (im s n)) r≤O r) (ho:rv s (n+1) old) (hz:(ee s l ((((n+1):Nat):Int)) old).2.2=true):
  ∃fr,alx s O n l old (ee s l ((((n+1):Nat):Int)) old).1 (ee s l ((((n+1):Nat):Int)) old).2.1 fr:=by
 cases hn:nV l with
 |true=>
  rw [JG hn]
  refine⟨[],h.mono λr=>ZB5 _,Kp.refl _ _,dQ.refl _,ku s (n+1),?_,λr=>?_⟩
  ·rw [ot rfl,ahP hl hn]
  ·rw [l9 rfl];exact ZA7 _
 |false=>
  have I1:(bE l).2=true:=vK hl (λp hp=>(hs p hp).pok) (by exact hn)
  have tN:=EC I1
  cases hk:fD s l old with
  |true=>
   rw [JF hn hk]
   have hk2:=hk
   unfold fD at hk2
   simp only [ZA9,ZF8,decide_eq_true_eq] at hk2
   obtain⟨hh,hf,abR⟩:=hk2
   have hb:=oq hh (ho.2.1 hh)
   have dF:bF s old=((bE l).1,true):=wC hh abR hf
   rw [dF] at hb
   refine⟨[],h.mono λr=>ZB5 _,Kp.refl _ _,dQ.refl _,ho,?_,λr=>?_⟩
   ·show (bg s old _).1=l
    rw [hb.2.2.2.2.1,tN]
   ·rw [sb.2 rfl];show bn [old] r≤bn [] r+bn [old] r;omega
  |false=>
   rw [tS hn hk] at hz ⊢
   obtain⟨abV,hkp,IZ,hg,hd,ke⟩:=xJ h hz
   generalize (bd s (bE l).1 ((((n+1):Nat):Int))).1=u at *
   generalize (bd s (bE l).1 ((((n+1):Nat):Int))).2.1=p at *
   have dF:bF u p=((bE l).1,true):=wC ke.nh ke.row ke.fits
   have ajr:l.any (late p)=false:=by
    rw [List.any_eq_false]
    intro q hq
    have:=(hs q hq).EI h.cg.1
    have hb:=ke.EI
    simp only [late,decide_eq_true_eq];omega
   have hb:bg u p ((((n+1):Nat):Int))=(l,true):=by
    rw [NN ke.nh ke.ok ke.lv (by rw [ke.EI,IZ.cg];exact ZC1 _) (by rw [dF]) (by rw [dF,tN];exact ajr),dF,tN]
   refine⟨[p],⟨abV,hkp,IZ,⟨ke.ok,λ_=>by rw [hb],λq hq=>?_⟩,?_,λr=>ZD3 _ _⟩⟩
   ·have hq:q∈l:=by
     have hq:q∈(bg u p ((((n+1):Nat):Int))).1:=hq
     rw [hb] at hq;exact hq
    exact (uk (hs q hq) (by rw [IZ.cg];exact ZC1 _) hkp λr=>ZB0 (fZ hq) (hc r)).1
   ·show (bg u p ((((n+1):Nat):Int))).1=l
    rw [hb]
def rV (ks ws:List Pt):Prop:=∀f:Pt→Bool,ks.countP (λp=> !(au p)&&f p)≤ws.countP (λp=> !(au p)&&f p)
theorem rV.nil (ws:List Pt):rV [] ws:=λ_=>ZA7 _
theorem rV.append {a b c d:List Pt}(h:rV a b) (h2:rV c d):rV (a++c) (b++d):=λf=>by
 rw [List.countP_append,List.countP_append];have:=h f;have:=h2 f;omega
structure aj9 (s:ay) (O:Nat→Nat) (n:Nat) (l ka:List Pt) (u:ay) (ps ks fr:List Pt):Prop where
 acc:Acc u (λr=>O r+bn fr r)
 kp:Kp O s u
 same:dQ s u
 sub:∀p∈ps,rv u (n+1) p
 lz:ps.flatMap (lz u n)=l
 num:∀r,bn ps r≤bn fr r+bn ks r
 dom:rV ks ka
theorem ajK {l:List Pt}{i m:Nat}(hl:l.length=4*m) (hi:i<m):qO l i++l.drop (4*(i+1))=l.drop (4*i)∧(qO l i).length=4:=by
 have e:qO l i=(l.drop (4*i)).take 4:=by
  unfold qO
  rw [show 0+((i:Int)*4).toNat=4*i by omega,show (((i:Int)+1)*4).toNat-((i:Int)*4).toNat=4 by omega]
 rw [e]
 refine⟨?_,by rw [ZB9,ZC8];omega⟩
 rw [show 4*(i+1)=4*i+4 by omega,←ZF9,ZG1]
theorem tR {n:Nat}{ka l:List Pt}{m:Nat}(hl:l.length=4*m):∀{f:Nat}{s u:ay}{i:Nat}{nx sy nn y:List Pt}{O:Nat→Nat},fI f s ((((n+1):Nat):Int)) ka l i nx sy=(u,some (nn,y))→Acc s O→m≤i+f→i≤m→(∀q∈l.drop (4*i),rv s n q)→(∀r,bn ((l.drop (4*i)).flatMap (im s n)) r≤O r)→(∀j,rv s (n+1) (nth ae ka j))→(∀j r,bn (im s (n+1) (nth ae ka j)) r≤O r)→
  ∃ps ks fr,nn=nx++ps∧y=sy++ks∧ps.length=m-i∧aj9 s O n (l.drop (4*i)) (ka.drop i) u ps ks fr
 |0,s,u,i,nx,sy,nn,y,O,h,ha,hm,hi,hs,hc,hw,hwc=>by
  cases h
  have e:l.drop (4*i)=[]:=ZB3 (by omega)
  refine⟨[],[],[],by simp,by simp,by simp;omega,⟨ha.mono λr=>ZB5 _,Kp.refl _ _,dQ.refl _,(λp hp=>by cases hp),by rw [e];rfl,λr=>ZA7 _,rV.nil _⟩⟩
 |f+1,s,u,i,nx,sy,nn,y,O,h,ha,hm,hi,hs,hc,hw,hwc=>by
  cases hcd:decide ((i:Int)*4<l.length) with
  |false=>
   have FL:=aA hcd
   rw [fI,hcd] at h
   cases h
   have e:l.drop (4*i)=[]:=ZB3 (by omega)
   refine⟨[],[],[],by simp,by simp,by simp;omega,⟨ha.mono λr=>ZB5 _,Kp.refl _ _,dQ.refl _,(λp hp=>by cases hp),by rw [e];rfl,λr=>ZA7 _,rV.nil _⟩⟩
  |true=>
   have bU:=aJ hcd
   have him:i<m:=by omega
   rw [fI,hcd,cond_true] at h
   cases hz: !(ee s (qO l i) ((((n+1):Nat):Int)) (nth ae ka i)).2.2 with
   |true=>rw [hz] at h;cases h
   |false=>
    rw [hz,cond_false] at h
    obtain⟨hd1,hd2⟩:=ajK hl him
    rw [←hd1] at hs hc
    have hc1:∀r,bn ((qO l i).flatMap (im s n)) r≤O r:=λr=>by
     have:=hc r;rw [List.flatMap_append,bI] at this;omega
    have hc2:∀r,bn ((l.drop (4*(i+1))).flatMap (im s n)) r≤O r:=λr=>by
     have:=hc r;rw [List.flatMap_append,bI] at this;omega
    obtain⟨fr1,hF⟩:=ab1 ha hd2 (λq hq=>hs q (by simp [hq])) hc1 (hw i) (oH hz)
    generalize (ee s (qO l i) ((((n+1):Nat):Int)) (nth ae ka i)).1=s1 at *
    generalize (ee s (qO l i) ((((n+1):Nat):Int)) (nth ae ka i)).2.1=p at *
    have htx:s.cg≤s1.cg:=by rw [hF.same.cg];exact ZC1 _
    have hk2:∀q∈l.drop (4*(i+1)),rv s1 n q∧im s1 n q=im s n q∧xj s1 n q=xj s n q∧uJ s1 n q=uJ s n q:=λq hq=>
     uk (hs q (by simp [hq])) htx hF.kp λr=>ZB0 (fZ hq) (hc2 r)
    have hwk:∀j,rv s1 (n+1) (nth ae ka j)∧im s1 (n+1) (nth ae ka j)=im s (n+1) (nth ae ka j)∧xj s1 (n+1) (nth ae ka j)=xj s (n+1) (nth ae ka j)∧uJ s1 (n+1) (nth ae ka j)=uJ s (n+1) (nth ae ka j):=λj=>
     uk (hw j) htx hF.kp (hwc j)
    have l5:=tR hl h hF.acc (by omega) (by omega) (λq hq=>(hk2 q hq).1) (λr=>by
     rw [jA λq hq=>(hk2 q hq).2.1]
     exact ZB0 (hc2 r) (ZD3 _ _)) (λj=>(hwk j).1) (λj r=>by rw [(hwk j).2.1];exact ZB0 (hwc j r) (ZD3 _ _))
    obtain⟨ps,ks,fr,e1,e2,e3,hR⟩:=l5
    have oU:∀q∈im s1 (n+1) p,au q=false→0<O (at' q)+bn fr1 (at' q):=λq hq hh=>by
     have hq:q∈p::(lz s1 n p).flatMap (im s1 n):=hq
     rcases ZB8.1 hq with rfl |hq
     ·have h1:=hF.num (at' q)
      rw [rM hh] at h1
      cases he:ptrEq q (nth ae ka i) with
      |false=>rw [he,cond_false,rq] at h1;omega
      |true=>
       rw [sb.1 he] at hh ⊢
       have h2:0<bn (im s (n+1) (nth ae ka i)) (at' (nth ae ka i)):=tX (by simp [im]) hh
       have:=hwc i (at' (nth ae ka i));omega
     ·rw [hF.lz] at hq
      obtain⟨x,hx,hxq⟩:=List.mem_flatMap.1 hq
      have e:=(uk (hs x (by simp [hx])) htx hF.kp λr=>ZB0 (fZ hx) (hc1 r)).2.1
      rw [e] at hxq
      have h2:0<bn (im s n x) (at' q):=tX hxq hh
      have h3:=fZ (f:=im s n) (r:=at' q) hx
      have:=hc1 (at' q);omega
    have htu:s1.cg≤u.cg:=by rw [hR.same.cg];exact ZC1 _
    have uz:=KM htu hF.sub λq hq hh=>hR.kp _ (oU q hq hh)
    have ali:lz u n p=qO l i:=by
     have e:bg u p ((((n+1):Nat):Int))=bg s1 p ((((n+1):Nat):Int)):=EJ htu (λhh=>hR.kp _ (oU p (by simp [im]) hh)) hF.sub.2.1
     rw [←hF.lz];exact congrArg Prod.fst e
    refine⟨p::ps,(bif ptrEq p (nth ae ka i) then [p] else [])++ks,fr1++fr,?_,?_,by rw [ZA1,e3];omega,⟨?_,?_,hF.same.trans hR.same,?_,?_,λr=>?_,?_⟩⟩
    ·rw [e1,ZD2];rfl
    ·rw [e2]
     cases ptrEq p (nth ae ka i) with
     |true=>simp only [cond_true,ZD2]
     |false=>simp only [cond_false,ZD0]
    ·exact hR.acc.mono λr=>by show O r+bn (fr1++fr) r≤O r+bn fr1 r+bn fr r;rw [bI];omega
    ·exact hF.kp.trans (hR.kp.mono λr=>ZD3 _ _)
    ·intro q hq
     rcases ZB8.1 hq with rfl |hq
     ·exact uz.1
     ·exact hR.sub q hq
    ·rw [ZD5,ali,hR.lz,hd1]
    ·have h1:=hF.num r
     have h2:=hR.num r
     rw [dP,bI,bI];omega
    ·have hd:rV (bif ptrEq p (nth ae ka i) then [p] else []) [nth ae ka i]:=by
      cases he:ptrEq p (nth ae ka i) with
      |false=>exact rV.nil _
      |true=>rw [sb.1 he];exact λf=>ZB5 _
     by_cases hiw:i<ka.length
     ·rw [bW (ek:=ae) hiw]
      exact rV.append hd hR.dom
     ·have e0:ka.drop i=[]:=ZB3 (by omega)
      have e1:ka.drop (i+1)=[]:=ZB3 (by omega)
      have hz:nth ae ka i=bM:=tz (ek:=ae) (by omega)
      rw [e0]
      intro f
      have h1:=hd f
      have h2:=hR.dom f
      rw [e1] at h2
      rw [hz] at h1
      rw [List.countP_append]
      have h3:List.countP (λp=> !(au p)&&f p) [bM]=0:=by simp [show au bM=true by decide]
      rw [hz]
      omega
end GL
namespace GL
theorem rj:∀(l:List Pt),l.flatMap (λq=>[q])=l
 |[]=>rfl
 |q::l=>by rw [ZD5,rj l];rfl
theorem acx (s:ay) (l:List Pt):l.flatMap (im s 0)=l:=rj l
theorem aiD (s:ay) (l:List Pt):l.flatMap (xj s 0)=l:=rj l
theorem YO (s:ay):∀(l:List Pt),l.flatMap (uJ s 0)=[]
 |[]=>rfl
 |q::l=>by rw [ZD5,YO s l];rfl
theorem acw (s:ay):∀(l:List Pt),l.flatMap (uJ s 1)=l
 |[]=>rfl
 |q::l=>by
  rw [ZD5,acw s l]
  show (q::(lz s 0 q).flatMap (uJ s 0))++l=q::l
  rw [YO];rfl
theorem YN (s:ay) (q:Pt):xj s 1 q=lz s 0 q:=aiD s _
theorem tM {f:Pt→List Pt}{m:Nat}(h:f bM=cu m):∀(n:Nat),(cu n).flatMap f=cu (n*m)
 |0=>by rw [ZH0];rfl
 |n+1=>by
  rw [show cu (n+1)=bM::cu n from rfl,ZD5,h,tM h n]
  show List.replicate m bM++List.replicate (n*m) bM=List.replicate ((n+1)*m) bM
  rw [List.replicate_append_replicate];congr 1;rw [Nat.succ_mul];omega
theorem fN (n r:Nat):bn (cu n) r=0:=by
 unfold bn
 rw [List.countP_eq_zero]
 intro p hp
 rw [show p=bM from (ZD6.1 hp).2]
 simp [K2,show au bM=true by rfl]
theorem zg (s:ay) (r:Nat):∀(n:Nat),bn (im s n bM) r=0
 |0=>l9 rfl r
 |n+1=>by
  show bn (bM::(lz s n bM).flatMap (im s n)) r=0
  rw [dP,l9 rfl,ot rfl]
  have h:=zg s r n
  simp only [cu,List.replicate,ZD5,List.flatMap_nil,bI,rq];omega
theorem RW:∀(f:Nat) (l:List Pt),∃j,B6 f l=l++cu j
 |0,l=>⟨0,by simp [B6,cu]⟩
 |f+1,l=>by
  cases hc:decide ((l.length:Int) % 4≠0) with
  |false=>exact⟨0,by rw [acY hc];simp [cu]⟩
  |true=>
   obtain⟨j,hj⟩:=RW f (l++[bM])
   exact⟨j+1,by rw [acX hc,hj,ZD2];rfl⟩
theorem RU (l:List Pt):∃j,eK l=l++cu j:=RW 4 l
structure oJ (s:ay) (t:bf) (d:Nat):Prop where
 dep:t.depth=((d:Nat):Int)
 le:d≤2
 snd:rv s d t.root
theorem rV.trans {a b c:List Pt}(h:rV a b) (h2:rV b c):rV a c:=λf=>ZB0 (h f) (h2 f)
theorem rV.TL (n:Nat) (w:List Pt):rV (cu n) w:=λf=>by
 rw [List.countP_eq_zero.2]
 ·exact ZA7 _
 ·intro p hp
  rw [show p=bM from (ZD6.1 hp).2]
  simp [show au bM=true by rfl]
theorem rV.bn {a b:List Pt}(h:rV a b) (r:Nat):bn a r≤bn b r:=by
 have:=h (λp=>decide (at' p=r))
 exact this
theorem adh {s:ay}{t:bf}{d dt lv:Nat}(ht:oJ s t dt) (FK:lv+1=d∨lv+2=d) (hd:d≤2):∀q∈dL s t (((d:Nat):Int)) ((((lv+1):Nat):Int)),q=bM∨(rv s (lv+1) q∧∀r,bn (im s (lv+1) q) r≤bn (im s dt t.root) r):=by
 intro q hq
 cases h1:decide (t.depth≠((d:Nat):Int)) with
 |true=>rw [CA h1] at hq;exact .inl (ZD6.1 hq).2
 |false=>
  have he:dt=d:=by have:=aA h1;have:=ht.dep;omega
  subst he
  cases h2:decide ((((lv+1):Nat):Int)=((dt:Nat):Int)) with
  |true=>
   rw [HN h1 h2] at hq
   have h2:=aJ h2
   have e:dt=lv+1:=by omega
   subst e
   rw [ZC7.1 hq]
   exact .inr ⟨ht.snd,λr=>ZB5 _⟩
  |false=>
   have h2':=aA h2
   have e:dt=lv+1+1:=by omega
   subst e
   cases h3: !(bg s t.root ((((lv+1+1):Nat):Int))).2 with
   |true=>rw [OV h1 h2 h3] at hq;exact .inl (ZD6.1 hq).2
   |false=>
    rw [HM h1 h2 h3] at hq
    refine .inr ⟨ht.snd.2.2 q hq,λr=>?_⟩
    show _≤bn (t.root::(lz s (lv+1) t.root).flatMap (im s (lv+1))) r
    rw [dP]
    have:=fZ (f:=im s (lv+1)) (r:=r) (l:=lz s (lv+1) t.root) hq
    omega
theorem so {s:ay}{t:bf}{d dt lv:Nat}(ht:oJ s t dt) (FK:lv+1=d∨lv+2=d) (hd:d≤2) (j:Nat):rv s (lv+1) (nth ae (dL s t (((d:Nat):Int)) ((((lv+1):Nat):Int))) j)∧∀r,bn (im s (lv+1) (nth ae (dL s t (((d:Nat):Int)) ((((lv+1):Nat):Int))) j)) r≤bn (im s dt t.root) r:=by
 by_cases hj:j<(dL s t (((d:Nat):Int)) ((((lv+1):Nat):Int))).length
 ·rcases adh ht FK hd _ (bR (ek:=ae) hj) with e |h
  ·rw [e];exact⟨ku _ _,λr=>by rw [zg];exact ZA7 _⟩
  ·exact h
 ·rw [show nth ae (dL s t (((d:Nat):Int)) ((((lv+1):Nat):Int))) j=bM from tz (ek:=ae) (by omega)]
  exact⟨ku _ _,λr=>by rw [zg];exact ZA7 _⟩
theorem rV.filter (l:List Pt):rV l (l.filter λp=> !(au p)):=λf=>by
 rw [List.countP_filter]
 refine ZA8 ?_
 congr 1
 funext p
 cases au p<;>cases f p<;>rfl
theorem rV.nh {p:Pt}(h:au p=true) (w:List Pt):rV [p] w:=λf=>by
 rw [show List.countP (λp=> !(au p)&&f p) [p]=0 by simp [h]];exact ZA7 _
theorem adj {s:ay}{t:bf}{dt:Nat}(ht:oJ s t dt):rV (dL s t (((1:Nat):Int)) (((1:Nat):Int))) (bw s t):=by
 cases h1:decide (t.depth≠((1:Nat):Int)) with
 |true=>rw [CA h1];exact rV.TL _ _
 |false=>
  have hd:=aA h1
  rw [HN h1 (decide_eq_true rfl)]
  cases hh:au t.root with
  |true=>exact rV.nh hh _
  |false=>
   rw [zP (decide_eq_false (by omega)) hh (decide_eq_false (by omega))]
   exact λf=>ZB5 _
theorem SC {s s1:ay}{t:bf}{dt:Nat}(ht:oJ s t dt):rV (dL s t (((2:Nat):Int)) (((1:Nat):Int))++dL s1 t (((2:Nat):Int)) (((2:Nat):Int))) (bw s t):=by
 cases h1:decide (t.depth≠((2:Nat):Int)) with
 |true=>rw [CA h1,CA h1];exact (rV.append (rV.TL 4 []) (rV.TL 4 (bw s t)))
 |false=>
  have hd:=aA h1
  rw [HN (s:=s1) h1 (decide_eq_true rfl)]
  cases hh:au t.root with
  |true=>
   refine rV.append (b:=[]) (d:=bw s t) ?_ (rV.nh hh _)
   rw [HM h1 (by decide) (by rw [kt hh];rfl),kt hh]
   exact rV.TL _ _
  |false=>
   rw [IU (decide_eq_false (by omega)) hh (decide_eq_true (by omega))]
   have hb:rV (dL s t (((2:Nat):Int)) (((1:Nat):Int))) ((bg s t.root 2).1.filter λp=> !(au p)):=by
    cases h3: !(bg s t.root (((2:Nat):Int))).2 with
    |true=>rw [OV h1 (by decide) h3];exact rV.TL _ _
    |false=>rw [HM h1 (by decide) h3];exact rV.filter _
   intro f
   have h:=hb f
   rw [List.countP_append,List.countP_cons,List.countP_cons,List.countP_nil]
   omega
theorem CU {s:ay}{t:bf}{dt:Nat}(ht:oJ s t dt) (r:Nat):bn (uJ s dt t.root) r=bn (bw s t) r:=by
 have hd:=ht.dep
 have hl:=ht.le
 match dt,hl with
 |0,_=>rw [IV (decide_eq_true hd)];rfl
 |1,_=>
  rw [show uJ s 1 t.root=[t.root] by show t.root::_=_;rw [YO]]
  cases hh:au t.root with
  |true=>rw [zQ hh,l9 hh];rfl
  |false=>rw [zP (decide_eq_false (by omega)) hh (decide_eq_false (by omega))]
 |2,_=>
  rw [show uJ s 2 t.root=t.root::lz s 1 t.root by show t.root::(lz s 1 t.root).flatMap (uJ s 1)=_;rw [acw]]
  cases hh:au t.root with
  |true=>rw [zQ hh,dP,l9 hh,ot hh,fN];rfl
  |false=>
   rw [IU (decide_eq_false (by omega)) hh (decide_eq_true hd),dP,dP t.root (List.filter _ _)]
   congr 1
   show bn (bg s t.root 2).1 r=_
   unfold bn
   rw [List.countP_filter]
   congr 1
   funext p
   unfold K2
   cases au p<;>simp
theorem aeW {n:Int}(h:n≤1):bj n=((0:Nat):Int):=by unfold bj;rw [decide_eq_true h];rfl
theorem XZ {n:Int}(h0:1<n) (h:n≤4):bj n=((1:Nat):Int):=by unfold bj;rw [decide_eq_false (by omega),decide_eq_true h];rfl
theorem XY {n:Int}(h0:4<n):bj n=((2:Nat):Int):=by unfold bj;rw [decide_eq_false (by omega),decide_eq_false (by omega)];rfl
structure alw (s:ay) (t:bf) (O:Nat→Nat) (l:List Pt) (d:Nat) (u:ay) (root:Pt) (st fr:List Pt):Prop where
 acc:Acc u (λr=>O r+bn fr r)
 kp:Kp O s u
 same:dQ s u
 snd:rv u d root
 lv:∃k,xj u d root=l++cu k
 num:∀r,bn (uJ u d root) r≤bn fr r+bn st r
 dom:rV st (bw s t)
theorem sY (p:Pt):rootOf [p]=p:=rfl
theorem abG {s u:ay}{t:bf}{O:Nat→Nat}{l nn st:List Pt}{many:Int}{dt:Nat}(h:mm 3 s t (bj many) 1 l []=(u,some (nn,st))) (ha:Acc s O) (ht:oJ s t dt) (xB:0≤many) (hm:many≤16) (hlen:l.length=many.toNat) (hs:∀q∈l,rv s 0 q) (hc:∀r,bn (bw s t) r+bn l r≤O r) (ho:∀r,bn (im s dt t.root) r≤O r):
  ∃d fr,bj many=((d:Nat):Int)∧d≤2∧alw s t O l d u (rootOf nn) st fr:=by
 have hsp:∀j,∀q∈l++cu j,rv s 0 q:=λj q hq=>by
  rcases ZB4.1 hq with hq |hq
  ·exact hs q hq
  ·rw [show q=bM from (ZD6.1 hq).2];exact ku s 0
 have hcl:∀r,bn l r≤O r:=λr=>by have:=hc r;omega
 have rT:=HF l
 obtain⟨j,hj⟩:=RU l
 by_cases h1:many≤1
 ·rw [aeW h1] at h ⊢
  rw [O7 (decide_eq_false (by decide))] at h
  cases h
  refine⟨0,[],ζ,by omega,⟨ha.mono λr=>ZB5 _,Kp.refl _ _,dQ.refl _,?_,?_,λr=>ZA7 _,rV.nil _⟩⟩
  ·match l,hlen,hs with
   |[],_,_=>exact ku s 0
   |[p],_,hs=>exact hs p (by simp)
   |_::_::_,hl,_=>simp at hl;omega
  ·match l,hlen with
   |[],_=>exact⟨1,rfl⟩
   |[p],_=>exact⟨0,rfl⟩
   |_::_::_,hl=>simp at hl;omega
 ·by_cases h4:many≤4
  ·rw [XZ (by omega) h4] at h ⊢
   cases hf:fI 5 s 1 (dL s t (((1:Nat):Int)) 1) (eK l) 0 [] [] with
   |mk s1 r1=>
    cases r1 with
    |none=>rw [O6 (decide_eq_true (by decide)) hf] at h;cases h
    |some q=>
     obtain⟨n1,st1⟩:=q
     rw [O5 (decide_eq_true (by decide)) hf,O7 (decide_eq_false (by decide))] at h
     cases h
     have hl4:(eK l).length=4*1:=by rw [rT];omega
     have hR:=tR (n:=0) hl4 hf ha (by omega) (by omega) (by rw [Nat.mul_zero,ZF0,hj];exact hsp j) (λr=>by
      rw [Nat.mul_zero,ZF0,hj,acx,bI,fN];have:=hcl r;omega) (λi=>(so (d:=1) (lv:=0) ht (.inl rfl) (by omega) i).1) (λi r=>ZB0 ((so (d:=1) (lv:=0) ht (.inl rfl) (by omega) i).2 r) (ho r))
     obtain⟨ps,ks,fr,e1,e2,e3,hR⟩:=hR
     rw [Nat.mul_zero,ZF0,ZF0] at hR
     match ps,e3 with
     |[p],_=>
      rw [e1,e2]
      simp only [ZD0]
      have hb:=hR.lz
      rw [ZD5,List.flatMap_nil,ZE5] at hb
      refine⟨1,fr,ζ,by omega,⟨hR.acc,hR.kp,hR.same,hR.sub p (by simp),⟨j,?_⟩,λr=>?_,hR.dom.trans (adj ht)⟩⟩
      ·rw [sY,YN,hb,hj]
      ·rw [sY,show uJ u 1 p=[p] by show p::(lz u 0 p).flatMap (uJ u 0)=[p];rw [YO]]
       exact hR.num r
  ·rw [XY (by omega)] at h ⊢
   cases hf:fI 5 s 1 (dL s t (((2:Nat):Int)) 1) (eK l) 0 [] [] with
   |mk s1 r1=>
    cases r1 with
    |none=>rw [O6 (decide_eq_true (by decide)) hf] at h;cases h
    |some q=>
     obtain⟨n1,st1⟩:=q
     rw [O5 (decide_eq_true (by decide)) hf,show (1:Int)+1=2 from rfl] at h
     obtain⟨m1,EW,hm2,hl4⟩:∃m,2≤m∧m≤4∧(eK l).length=4*m:=⟨(l.length+3) / 4,by omega,by omega,by rw [rT];omega⟩
     have hR:=tR (n:=0) hl4 hf ha (by omega) (by omega) (by rw [Nat.mul_zero,ZF0,hj];exact hsp j) (λr=>by
      rw [Nat.mul_zero,ZF0,hj,acx,bI,fN];have:=hcl r;omega) (λi=>(so (d:=2) (lv:=0) ht (.inr rfl) (by omega) i).1) (λi r=>ZB0 ((so (d:=2) (lv:=0) ht (.inr rfl) (by omega) i).2 r) (ho r))
     obtain⟨ps,ks,fr,e1,e2,e3,hR⟩:=hR
     rw [Nat.mul_zero,ZF0,ZF0] at hR
     simp only [ZD0] at e1 e2
     subst e1 e2
     have akV:=HF n1
     obtain⟨j2,yK⟩:=RU n1
     have ak6:(eK n1).length=4*1:=by rw [akV];omega
     cases hf2:fI 5 s1 2 (dL s1 t (((2:Nat):Int)) 2) (eK n1) 0 [] st1 with
     |mk s2 r2=>
      cases r2 with
      |none=>rw [O6 (decide_eq_true (by decide)) hf2] at h;cases h
      |some q2=>
       obtain⟨n2,st2⟩:=q2
       rw [O5 (decide_eq_true (by decide)) hf2,O7 (decide_eq_false (by decide))] at h
       cases h
       have htx:s.cg≤s1.cg:=by rw [hR.same.cg];exact ZC1 _
       have ZW:=uk ht.snd htx hR.kp ho
       have ht1:oJ s1 t dt:=⟨ht.dep,ht.le,ZW.1⟩
       have agR:∀q∈eK n1,rv s1 1 q:=λq hq=>by
        rw [yK] at hq
        rcases ZB4.1 hq with hq |hq
        ·exact hR.sub q hq
        ·rw [show q=bM from (ZD6.1 hq).2];exact ku s1 1
       have hA1:∀(x:ay) (m:List Pt) (r:Nat),bn (m.flatMap (im x 1)) r=bn m r+bn (m.flatMap (lz x 0)) r:=λx m r=>by
        have:=vR (f:=im x 1) (g:=λq=>[q]) (h:=lz x 0) (r:=r) (l:=m) λq _=>by
         show bn (q::(lz x 0 q).flatMap (im x 0)) r=_
         rw [acx,dP]
        rw [this,rj]
       have ajw:∀r,bn ((eK n1).flatMap (im s1 1)) r≤O r+bn fr r:=λr=>by
        rw [hA1,yK,List.flatMap_append,bI,bI,hR.lz,fN,hj,bI,fN]
        rw [tM (f:=lz s1 0) (m:=4) (ot rfl),fN]
        have h1:=hR.num r
        have h2:=(hR.dom.trans (rV.trans (b:=dL s t (((2:Nat):Int)) (((1:Nat):Int))++dL s t (((2:Nat):Int)) (((2:Nat):Int))) (λf=>by rw [List.countP_append];exact ZD3 _ _) (SC ht))).bn r
        have h3:=hc r
        omega
       have hR2:=tR (n:=1) ak6 hf2 hR.acc (by omega) (by omega) (by rw [Nat.mul_zero,ZF0];exact agR) (λr=>by
        rw [Nat.mul_zero,ZF0];exact ajw r) (λi=>(so (d:=2) (lv:=1) ht1 (.inl rfl) (by omega) i).1) (λi r=>by
        have h1:=(so (d:=2) (lv:=1) ht1 (.inl rfl) (by omega) i).2 r
        rw [ZW.2.1] at h1
        have:=ho r
        exact ZB0 h1 (by omega))
       obtain⟨ps2,ks2,fr2,e21,e22,e23,hR2⟩:=hR2
       rw [Nat.mul_zero,ZF0,ZF0] at hR2
       match ps2,e23 with
       |[p2],_=>
        rw [e21,e22]
        simp only [ZD0]
        have hb:=hR2.lz
        rw [ZD5,List.flatMap_nil,ZE5] at hb
        have akP:s1.cg≤u.cg:=by rw [hR2.same.cg];exact ZC1 _
        have EX:∀q∈eK n1,xj u 1 q=xj s1 1 q:=λq hq=>
         (uk (agR q hq) akP hR2.kp λr=>ZB0 (fZ hq) (ajw r)).2.2.1
        refine⟨2,fr++fr2,ζ,by omega,⟨?_,?_,hR.same.trans hR2.same,hR2.sub p2 (by simp),⟨j+j2*4,?_⟩,λr=>?_,?_⟩⟩
        ·exact hR2.acc.mono λr=>by show O r+bn (fr++fr2) r≤O r+bn fr r+bn fr2 r;rw [bI];omega
        ·exact hR.kp.trans (hR2.kp.mono λr=>ZD3 _ _)
        ·rw [sY]
         show (lz u 1 p2).flatMap (xj u 1)=_
         rw [hb,jA EX,jA λq _=>YN s1 q,yK,List.flatMap_append,hR.lz,hj,tM (f:=lz s1 0) (m:=4) (ot rfl),ZD2]
         congr 1
         show List.replicate j bM++List.replicate (j2*4) bM=_
         rw [List.replicate_append_replicate];rfl
        ·rw [sY,show uJ u 2 p2=p2::eK n1 by show p2::(lz u 1 p2).flatMap (uJ u 1)=_;rw [acw,hb]]
         rw [dP,yK,bI,fN,bI,bI]
         have h1:=hR.num r
         have h2:=hR2.num r
         omega
        ·exact (rV.append hR.dom hR2.dom).trans (SC ht)
