/- A drawn law returns true for every code (its row lists package variables, tied by the card): part 26. -/
import Derived.Test.YtnkbdhldiinfdaaGreatDoorPar
import Derived.Test.YtnkbdhldiinfdaaGreatDoorPat
set_option maxHeartbeats 20000000
set_option maxRecDepth 100000
set_option linter.all false
namespace Go.Proofs.YtnkbdhldiinfdaaGreatDoor
namespace GL
abbrev lb (s:ByteArray):List UInt8:=s.data.toList
theorem vx {s t:ByteArray}(h:lb s=lb t):s=t:=by
 cases s;cases t;simp only [lb] at h;congr 1;exact Array.toList_inj.1 h
theorem wL (s t:ByteArray):lb (s++t)=lb s++lb t:=by
 show (s++t).data.toList=_
 rw [ByteArray.data_append,Array.toList_append]
theorem fo (s:ByteArray):s.size=(lb s).length:=by
 show s.data.size=s.data.toList.length
 rw [ZE4]
theorem adI:lb ⟨#[]⟩=[]:=rfl
theorem ai3:lb ByteArray.empty=[]:=rfl
theorem mT (s:ByteArray) (a b:Nat):lb (s.extract a b)=((lb s).take b).drop a:=by
 simp only [lb,ByteArray.data_extract,Array.toList_extract]
 rw [List.extract_eq_take_drop,List.drop_take]
theorem ni (s:ByteArray) (k:Nat):bL s k=(match (lb s)[k]? with |some b=>(b.toNat:Int) |none=>0):=by
 unfold bL
 have e:s[k]?=(lb s)[k]?:=by
  by_cases h:k<s.size
  ·have h':k<(lb s).length:=by rw [←fo];exact h
   rw [getElem?_pos s k h,ZB1 h']
   rfl
  ·have h':¬k<(lb s).length:=by rw [←fo];exact h
   rw [getElem?_neg s k h,ZD8 (by omega)]
 rw [e]
 cases (lb s)[k]?<;>rfl
theorem S4:∀(l:List Int) (r:ByteArray),lb (l.foldl (fun r n=>r.push (UInt8.ofNat n.toNat)) r)=lb r++l.map (fun n=>UInt8.ofNat n.toNat)
 |[],r=>by simp
 |n::l,r=>by
  rw [List.foldl_cons,S4 l]
  simp [lb,ByteArray.push]
theorem L7 (l:List Int):lb (fa l)=l.map (fun n=>UInt8.ofNat n.toNat):=by
 rw [fa,S4];rfl
def mj (c:UInt8):List UInt8→List (List UInt8)
 |[]=>[[]]
 |x::l=>if x=c then []::mj c l else
  match mj c l with
  |h::t=>(x::h)::t
  |[]=>[[x]]
theorem r4 (c x:UInt8) (l:List UInt8):mj c (x::l)=if x=c then []::mj c l else
  match mj c l with
  |h::t=>(x::h)::t
  |[]=>[[x]]:=rfl
theorem zh (c:UInt8) (l:List UInt8):mj c l≠[]:=by
 cases l with
 |nil=>simp [mj]
 |cons x l=>
  unfold mj;split
  ·simp
  ·split<;>simp
theorem wy (c x:UInt8):∀(l:List UInt8) (a:List (List UInt8)) (r:List UInt8),mj c l=a++[r]→mj c (l++[x])=if x=c then a++[r]++[[]] else a++[r++[x]]
 |[],a,r,h=>by
  have h:[[]]=a++[r]:=h
  cases a with
  |nil=>
   simp only [ZD0,ZG9,and_true] at h
   subst h
   by_cases hx:x=c
   ·simp [mj,hx]
   ·simp [mj,hx]
  |cons y a=>simp at h
 |y::l,a,r,h=>by
  rw [ZG7]
  rw [r4] at h ⊢
  by_cases hy:y=c
  ·rw [if_pos hy] at h ⊢
   cases a with
   |nil=>
    simp only [ZD0,ZG9] at h
    exact absurd h.2 (zh c l)
   |cons z a=>
    simp only [ZG7,ZG9] at h
    obtain⟨hz,h⟩:=h
    rw [wy c x l a r h,←hz]
    by_cases hx:x=c<;>simp [hx]
  ·rw [if_neg hy] at h ⊢
   cases e:mj c l with
   |nil=>exact absurd e (zh c l)
   |cons w t=>
    rw [e] at h
    cases a with
    |nil=>
     simp only [ZD0,ZG9] at h
     obtain⟨hr,ht⟩:=h
     subst ht
     have:=wy c x l [] w (by simpa using e)
     rw [this,←hr]
     by_cases hx:x=c<;>simp [hx]
    |cons z a=>
     simp only [ZG7,ZG9] at h
     obtain⟨hz,ht⟩:=h
     have:=wy c x l (w::a) r (by rw [e,ht];rfl)
     rw [this,←hz]
     by_cases hx:x=c<;>simp [hx]
theorem ze {s:ByteArray}{k:Nat}(h:k<(lb s).length):(lb s).take (k+1)=(lb s).take k++[(lb s)[k]]:=by
 rw [List.take_add_one,ZB1 h];rfl
theorem NF (s:ByteArray) (c:UInt8):∀k,k≤(lb s).length→(iZ s c.toNat k).2≤k∧mj c ((lb s).take k)=(iZ s c.toNat k).1.map lb++[((lb s).take k).drop (iZ s c.toNat k).2]
 |0,_=>⟨ZB5 _,by simp [iZ,mj]⟩
 |k+1,hk=>by
  obtain⟨h1,h2⟩:=NF s c k (by omega)
  have bU:k<(lb s).length:=by omega
  have hb:bL s k=(((lb s)[k]).toNat:Int):=by rw [ni,ZB1 bU]
  have hs:=wy c ((lb s)[k]) _ _ _ h2
  rw [ze bU,hs]
  rw [show iZ s ((c.toNat:Nat):Int) (k+1)=bif decide (bL s k=((c.toNat:Nat):Int)) then ((iZ s c.toNat k).1++[s.extract (iZ s c.toNat k).2 k],k+1) else iZ s c.toNat k from rfl]
  have hd:decide (bL s k=((c.toNat:Nat):Int))=decide ((lb s)[k]=c):=by
   rw [hb]
   by_cases e:(lb s)[k]=c
   ·simp [e]
   ·have:¬(((lb s)[k]).toNat:Int)=(c.toNat:Int):=fun h=>e (UInt8.toNat_inj.1 (by omega))
    rw [decide_eq_false this,decide_eq_false e]
  rw [hd]
  by_cases e:(lb s)[k]=c
  ·rw [decide_eq_true e,if_pos e]
   simp only [cond_true]
   refine⟨ZB5 _,?_⟩
   rw [List.map_append,ZE7,List.map_nil,mT]
   congr 1
   have:((lb s).take k++[(lb s)[k]]).length=k+1:=by rw [ZA0,ZB9,List.length_singleton];omega
   rw [ZB3 (ZA8 this)]
  ·rw [decide_eq_false e,if_neg e]
   simp only [cond_false]
   refine⟨by omega,?_⟩
   congr 2
   rw [List.drop_append_of_le_length (by rw [ZB9];omega)]
theorem JR (s:ByteArray) (c:UInt8):(bm s c.toNat).map lb=mj c (lb s):=by
 have h:=NF s c (lb s).length (ZB5 _)
 rw [ZD1 (ZB5 _)] at h
 rw [h.2,bm,List.map_append,ZE7,List.map_nil,mT,fo]
 rw [ZD1 (ZB5 _)]
theorem lB (c:UInt8):∀(a b:List UInt8),mj c (a++c::b)=mj c a++mj c b
 |[],b=>by simp [mj]
 |x::a,b=>by
  rw [ZG7]
  have ih:=lB c a b
  rw [r4,r4]
  by_cases hx:x=c
  ·rw [if_pos hx,if_pos hx,ih];rfl
  ·rw [if_neg hx,if_neg hx,ih]
   cases e:mj c a with
   |nil=>exact absurd e (zh c a)
   |cons h t=>rfl
theorem gj (c:UInt8):∀(a:List UInt8),c∉a→mj c a=[a]
 |[],_=>rfl
 |x::a,h=>by
  have hx:¬x=c:=fun e=>h (by simp [e])
  rw [r4,if_neg hx,gj c a (fun hh=>h (by simp [hh]))]
theorem mU {k:Nat}(h:k<10):lb (dec k)=[UInt8.ofNat (48+k)]:=by
 rw [dec_lt h,L7]
 simp only [ZE7,List.map_nil]
 congr 2
theorem pb {k:Nat}(h:¬k<10):lb (dec k)=lb (dec (k / 10))++[UInt8.ofNat (48+k % 10)]:=by
 rw [X0 h,wL,L7]
 simp only [ZE7,List.map_nil]
 congr 3
theorem ss {d:Nat}(h:d<10):(UInt8.ofNat (48+d)).toNat=48+d:=by
 rw [UInt8.toNat_ofNat'];omega
theorem tV:∀(k:Nat),∀b∈lb (dec k),48≤b.toNat∧b.toNat≤57:=by
 intro k
 induction k using Nat.strongRecOn with
 |_ k ih=>
  intro b hb
  by_cases h:k<10
  ·rw [mU h] at hb
   rw [ZC7.1 hb,ss h];omega
  ·rw [pb h] at hb
   rcases ZB4.1 hb with hb |hb
   ·exact ih (k / 10) (by omega) b hb
   ·rw [ZC7.1 hb,ss (by omega)];omega
theorem xe:∀(k:Nat),∃b l,lb (dec k)=b::l∧(b.toNat=48→l=[]):=by
 intro k
 induction k using Nat.strongRecOn with
 |_ k ih=>
  by_cases h:k<10
  ·exact⟨_,_,mU h,fun _=>rfl⟩
  ·obtain⟨b,l,e,hb⟩:=ih (k / 10) (by omega)
   refine⟨b,l++[UInt8.ofNat (48+k % 10)],by rw [pb h,e];rfl,fun h48=>?_⟩
   exfalso
   have hl:=hb h48
   subst hl
   by_cases h2:k / 10<10
   ·rw [mU h2] at e
    simp only [ZG9,and_true] at e
    have:=ss h2
    rw [e] at this
    omega
   ·rw [pb h2] at e
    have:=congrArg List.length e
    have h3:1≤(lb (dec (k / 10 / 10))).length:=by
     obtain⟨b',l',e',_⟩:=ih (k / 10 / 10) (by omega)
     rw [e'];simp
    simp only [ZA0,ZA1,ZA4] at this
    omega
def qL (l:List UInt8):Int:=l.foldl (fun n b=>10*n+((b.toNat:Int)-48)) 0
theorem wu (l:List UInt8) (b:UInt8):qL (l++[b])=10*qL l+((b.toNat:Int)-48):=by simp [qL]
theorem QB:∀(k:Nat),qL (lb (dec k))=k:=by
 intro k
 induction k using Nat.strongRecOn with
 |_ k ih=>
  by_cases h:k<10
  ·rw [mU h]
   have:=ss h
   simp only [qL,List.foldl_cons,List.foldl_nil];omega
  ·rw [pb h,wu,ih (k / 10) (by omega),ss (by omega)];omega
theorem CD (s:ByteArray):∀k,k≤(lb s).length→iN s k=qL ((lb s).take k)
 |0,_=>by simp [iN,qL]
 |k+1,h=>by
  have bU:k<(lb s).length:=by omega
  rw [ze bU,wu,iN,CD s k (by omega),ni,ZB1 bU]
theorem ZK {s:ByteArray}:∀{j f k:Nat},j+k≤9→f+k=9→(∀i,k≤i→i<k+j→C9 s i=true)→sA f s k=sA (f-j) s (k+j)
 |0,f,k,_,_,_=>by rw [Nat.sub_zero];rfl
 |j+1,f,k,h,hf,hd=>by
  obtain⟨g,rfl⟩:∃g,f=g+1:=⟨f-1,by omega⟩
  rw [sA,hd k (ZB5 _) (by omega),cond_true,ZK (j:=j) (by omega) (by omega) (fun i h1 h2=>hd i (by omega) (by omega))]
  rw [show g+1-(j+1)=g-j by omega,show k+1+j=k+(j+1) by omega]
theorem ZR {s:ByteArray}{n:Nat}{rest:List UInt8}(hn:n<1000000000) (hs:lb s=lb (dec n)++rest) (hr:∀b,rest.head?=some b→¬(48≤b.toNat∧b.toNat≤57)):CN s=((n:Int),((lb (dec n)).length:Int)):=by
 have hlen:(lb (dec n)).length≤9:=by rw [←fo];exact JM 8 n (by show n<10 ^ 9;omega)
 have dj:s.size=(lb (dec n)).length+rest.length:=by rw [fo,hs,ZA0]
 have xD:∀i,i<(lb (dec n)).length→bL s i=(match (lb (dec n))[i]? with |some b=>(b.toNat:Int) |none=>0):=fun i hi=>by
  rw [ni,hs,ZC2 hi]
 have aga:∀i,i<(lb (dec n)).length→C9 s i=true:=fun i hi=>by
  have h1:=xD i hi
  rw [ZB1 hi] at h1
  have h2:=tV n _ (List.getElem_mem hi)
  have h3:bL s i=(((lb (dec n))[i]).toNat:Int):=h1
  unfold C9
  rw [decide_eq_true (by omega),decide_eq_true (by omega),decide_eq_true (by omega),decide_eq_true (by omega)];rfl
 have ajc:C9 s (lb (dec n)).length=false:=by
  cases ad7:rest with
  |nil=>
   rw [ad7] at dj
   exact ag3 (decide_eq_false (by rw [dj];simp))
  |cons b r=>
   have hb:=hr b (by rw [ad7];rfl)
   have h1:bL s (lb (dec n)).length=(b.toNat:Int):=by
    rw [ni,hs,ZC6 (ZB5 _),Nat.sub_self,ad7];rfl
   unfold C9
   by_cases h48:48≤b.toNat
   ·rw [decide_eq_false (p:=bL s (lb (dec n)).length≤57) (by omega),ZD7,ZD7,ZD7]
   ·rw [decide_eq_false (p:=bL s (lb (dec n)).length≥48) (by omega),Bool.false_and,ZD7,ZD7]
 have hnl:cW s=(lb (dec n)).length:=by
  refine S2 hlen ajc ?_
  have:=ZK (s:=s) (j:=(lb (dec n)).length) (f:=9) (k:=0) (by omega) (by omega) (fun i _ h2=>aga i (by omega))
  rw [ZA6] at this
  exact this.symm
 have af1:iN s (lb (dec n)).length=n:=by
  rw [CD s _ (by rw [hs,ZA0];omega),hs,List.take_append_of_le_length (ZB5 _),ZD1 (ZB5 _),QB]
 by_cases h1:1<(lb (dec n)).length
 ·obtain⟨b,l,e,hb⟩:=xe n
  have h0:bL s 0=(b.toNat:Int):=by rw [xD 0 (by omega),e];rfl
  have h2:¬b.toNat=48:=fun h=>by
   have:=hb h;rw [e,this] at h1;simp at h1
  rw [agL hnl (decide_eq_false (by omega)),af1]
 ·rw [agM hnl (decide_eq_false (by omega)),af1]
theorem SI {n:Nat}(hn:n<1000000000):aD (dec n)=((n:Int),true):=by
 have h:=ZR (s:=dec n) (rest:=[]) hn (by simp) (by simp)
 have oU:1≤(lb (dec n)).length:=by obtain⟨b,l,e,_⟩:=xe n;rw [e];simp
 unfold aD
 rw [h]
 simp only
 rw [decide_eq_false (p:=((lb (dec n)).length:Int)=0) (by omega),decide_eq_false (p:=((lb (dec n)).length:Int)≠((dec n).size:Int)) (by rw [fo];simp)];rfl
theorem eu {n:Int}(h0:0≤n) (hn:n<1000000000):aD (bX n)=(n,true):=by
 unfold bX
 rw [SI (by omega),show ((n.toNat:Nat):Int)=n by omega]
theorem aeX {n:Nat}{c:UInt8}(hc:¬(48≤c.toNat∧c.toNat≤57)):c∉lb (dec n):=fun h=>hc (tV n c h)
end GL
namespace GL
theorem yz:∀{l m:List ByteArray},l.map lb=m.map lb→l=m
 |[],[],_=>rfl
 |[],_::_,h=>by cases h
 |_::_,[],h=>by cases h
 |x::l,y::m,h=>by
  simp only [ZE7,ZG9] at h
  rw [vx h.1,yz h.2]
theorem aas {s:ByteArray}{l:List ByteArray}(c:UInt8) (h:mj c (lb s)=l.map lb):bm s c.toNat=l:=
 yz ((JR s c).trans h)
theorem po {n:Int}{c:UInt8}(hc:¬(48≤c.toNat∧c.toNat≤57)):c∉lb (bX n):=aeX hc
theorem ND (n:Int):∃b l,lb (bX n)=b::l∧48≤b.toNat∧b.toNat≤57:=by
 obtain⟨b,l,e,_⟩:=xe n.toNat
 exact⟨b,l,e,tV n.toNat b (by rw [e];simp)⟩
theorem wK {p:Pt}(h:aZ p=true) (h2:au p=false):lb (bc p)=lb (bX p.1)++46::(lb (bX p.2.1)++46::(lb (bX p.2.2.1)++46::(lb (bX p.2.2.2.1)++46::lb (bX p.2.2.2.2)))):=by
 unfold bc
 rw [h,h2]
 simp only [cond_true,cond_false,wL]
 simp only [ZD2]
 rfl
theorem qV {p:Pt}(h2:au p=true):bc p=⟨#[45]⟩:=by
 have h:aZ p=true:=by unfold aZ;rw [h2];rfl
 unfold bc;rw [h,h2];rfl
theorem iu {p:Pt}(h:au p=true):p=bM:=by
 unfold au at h
 simp only [ZA9,decide_eq_true_eq] at h
 obtain⟨a,b,c,d,e⟩:=p
 obtain⟨h1,h2,h3,h4,h5⟩:=h
 simp only at h1 h2 h3 h4 h5
 subst h1 h2 h3 h4 h5;rfl
theorem RN {p:Pt}{c:UInt8}(h:aZ p=true) (hc:¬(48≤c.toNat∧c.toNat≤57)) (h1:c≠46) (h2:c≠45):c∉lb (bc p):=by
 cases hh:au p with
 |true=>rw [qV hh];show c∉[45];simp [h2]
 |false=>
  rw [wK h hh]
  simp only [ZB4,ZB8,not_or]
  exact⟨po hc,h1,po hc,h1,po hc,h1,po hc,h1,po hc⟩
theorem nK {p:Pt}(h:aZ p=true):bP (bc p)=(p,true):=by
 cases hh:au p with
 |true=>rw [qV hh,wD (by decide),iu hh]
 |false=>
  have hl:=wK h hh
  obtain⟨b,l,e,hb1,hb2⟩:=ND p.1
  have fA:¬bc p=⟨#[45]⟩:=fun heq=>by
   rw [heq,e] at hl
   have:(45:UInt8)=b:=by
    have h1:=congrArg List.head? hl
    rw [show lb ⟨#[45]⟩=[45] from rfl,ZG7] at h1
    exact ZG8 h1
   rw [←this] at hb1;exact absurd hb1 (by decide)
  have h46:∀n:Int,(46:UInt8)∉lb (bX n):=fun n=>po (by decide)
  have TP:bm (bc p) 46=[bX p.1,bX p.2.1,bX p.2.2.1,bX p.2.2.2.1,bX p.2.2.2.2]:=by
   refine aas 46 ?_
   rw [hl,lB,lB,lB,lB,gj _ _ (h46 _),gj _ _ (h46 _),gj _ _ (h46 _),gj _ _ (h46 _),gj _ _ (h46 _)]
   rfl
  have hbd:=pT h
  rw [sa (decide_eq_false fA) (by rw [TP];rfl),TP]
  have e1:=eu (n:=p.1) (by omega) (by omega)
  have e2:=eu (n:=p.2.1) (by omega) (by omega)
  have e3:=eu (n:=p.2.2.1) (by omega) (by omega)
  have e4:=eu (n:=p.2.2.2.1) (by omega) (by omega)
  have e5:=eu (n:=p.2.2.2.2) (by omega) (by omega)
  have hn:lg [bX p.1,bX p.2.1,bX p.2.2.1,bX p.2.2.2.1,bX p.2.2.2.2] []=some [p.1,p.2.1,p.2.2.1,p.2.2.2.1,p.2.2.2.2]:=by
   simp [lg,e1,e2,e3,e4,e5]
  rw [BY hn]
  exact G6 (n:=[p.1,p.2.1,p.2.2.1,p.2.2.2.1,p.2.2.2.2]) (by show (!(aZ p))=false;rw [h];rfl) hh
theorem l7 {l:List Pt}(h:(bE l).2=true):∃a b c d,l=[a,b,c,d]∧aZ a=true∧aZ b=true∧aZ c=true∧aZ d=true∧(false|| !(au a)|| !(au b)|| !(au c)|| !(au d))=true∧lb (bE l).1=lb (bc a)++44::(lb (bc b)++44::(lb (bc c)++44::lb (bc d))):=by
 cases h4:decide ((l.length:Int)≠4) with
 |true=>rw [wY h4] at h;cases h
 |false=>
  have hl:l.length=4:=by have:=aA h4;omega
  rw [wX h4] at h ⊢
  match l,hl with
  |[a,b,c,d],_=>
   refine⟨a,b,c,d,rfl,?_⟩
   cases ha:aZ a with
   |false=>rw [pj (by simp [gX,ha])] at h;cases h
   |true=>cases hb:aZ b with
    |false=>rw [pj (by simp [gX,ha,hb])] at h;cases h
    |true=>cases hc:aZ c with
     |false=>rw [pj (by simp [gX,ha,hb,hc])] at h;cases h
     |true=>cases hd:aZ d with
      |false=>rw [pj (by simp [gX,ha,hb,hc,hd])] at h;cases h
      |true=>
       have e:gX [a,b,c,d] 0 ⟨#[]⟩ false=some ((⟨#[]⟩++bc a)++⟨#[44]⟩++bc b++⟨#[44]⟩++bc c++⟨#[44]⟩++bc d,(false|| !(au a)|| !(au b)|| !(au c)|| !(au d))):=by
        simp [gX,ha,hb,hc,hd]
       rw [sF e] at h ⊢
       cases hs: !(false|| !(au a)|| !(au b)|| !(au c)|| !(au d)) with
       |true=>rw [C5 hs] at h;cases h
       |false=>
        rw [wZ hs]
        refine⟨rfl,rfl,rfl,rfl,oH hs,?_⟩
        simp only [wL,adI,ZD0,ZD2]
        rfl
theorem EC {l:List Pt}(h:(bE l).2=true):bl (bE l).1=(l,true):=by
 obtain⟨a,b,c,d,rfl,ha,hb,hc,hd,hs,hl⟩:=l7 h
 have h44:∀p:Pt,aZ p=true→(44:UInt8)∉lb (bc p):=fun p hp=>RN hp (by decide) (by decide) (by decide)
 have TP:bm (bE [a,b,c,d]).1 44=[bc a,bc b,bc c,bc d]:=by
  refine aas 44 ?_
  rw [hl,lB,lB,lB,gj _ _ (h44 a ha),gj _ _ (h44 b hb),gj _ _ (h44 c hc),gj _ _ (h44 d hd)]
  rfl
 have e:oh (bm (bE [a,b,c,d]).1 44) [] false=some ([a,b,c,d],false|| !(au a)|| !(au b)|| !(au c)|| !(au d)):=by
  rw [TP]
  simp [oh,nK ha,nK hb,nK hc,nK hd]
 rw [jX e]
 exact vM rfl (by rw [hs];rfl)
theorem vK {l:List Pt}(h4:l.length=4) (cG:∀p∈l,aZ p=true) (hn:(!(l.any fun p=> !(au p)))=false):(bE l).2=true:=by
 match l,h4 with
 |[a,b,c,d],_=>
  have ha:=cG a (by simp);have hb:=cG b (by simp);have hc:=cG c (by simp);have hd:=cG d (by simp)
  have e:gX [a,b,c,d] 0 ⟨#[]⟩ false=some ((⟨#[]⟩++bc a)++⟨#[44]⟩++bc b++⟨#[44]⟩++bc c++⟨#[44]⟩++bc d,(false|| !(au a)|| !(au b)|| !(au c)|| !(au d))):=by
   simp [gX,ha,hb,hc,hd]
  rw [wX rfl,sF e,wZ]
  simp only [List.any_cons,List.any_nil,Bool.not_eq_false'] at hn
  rw [Bool.or_false] at hn
  simp only [Bool.false_or,Bool.or_assoc];rw [hn];rfl
def C8:List ByteArray→List UInt8
 |[]=>[]
 |x::l=>lb (bX x.size)++58::(lb x++C8 l)
theorem D9:∀{l:List ByteArray}{out:ByteArray},(dB l out).2=true→lb (dB l out).1=lb out++C8 l∧(∀x∈l,x.size≤2048)∧((dB l out).1.size≤2048∨l=[])
 |[],out,_=>⟨by simp [dB,C8],by simp,.inr rfl⟩
 |x::l,out,h=>by
  unfold dB at h ⊢
  cases h1:decide ((x.size:Int)>2048) with
  |true=>rw [h1] at h;cases h
  |false=>
   rw [h1] at h
   simp only [cond_false] at h ⊢
   cases h2:decide (((out++bX x.size++⟨#[58]⟩++x).size:Int)>2048) with
   |true=>rw [h2] at h;cases h
   |false=>
    rw [h2] at h
    simp only [cond_false] at h ⊢
    obtain⟨e1,e2,e3⟩:=D9 h
    refine⟨?_,?_,.inl ?_⟩
    ·rw [e1]
     simp only [wL,C8,ZD2]
     rfl
    ·intro y hy
     rcases ZB8.1 hy with rfl |hy
     ·have:=aA h1;omega
     ·exact e2 y hy
    ·rcases e3 with e3 |rfl
     ·exact e3
     ·have:=aA h2
      show (dB [] _).1.size≤2048
      simp only [dB];omega
theorem D8:∀{l:List ByteArray}{out:ByteArray},out.size+(l.map fun x=>x.size+13).sum≤2048→(dB l out).2=true
 |[],_,_=>rfl
 |x::l,out,h=>by
  simp only [ZE7,List.sum_cons] at h
  have hd:=db (n:=(x.size:Int)) (by omega)
  have dj:(out++bX x.size++⟨#[58]⟩++x).size=out.size+(bX x.size).size+1+x.size:=by
   simp only [ZB2];rfl
  unfold dB
  rw [decide_eq_false (by omega),cond_false,decide_eq_false (by rw [dj];omega),cond_false]
  exact D8 (by rw [dj];omega)
theorem afV {s:ByteArray}{x:ByteArray}{tail:List UInt8}(hx:x.size≤2048) (hs:lb s=lb (bX x.size)++58::tail):CN s=((x.size:Int),((lb (bX x.size)).length:Int)):=by
 have:=ZR (s:=s) (n:=x.size) (rest:=58::tail) (by omega) hs (fun b hb=>by
  simp only [List.head?_cons,Option.some.injEq] at hb
  rw [←hb];decide)
 exact this
theorem Z8 {s:ByteArray}:∀{l:List ByteArray}{f:Nat}{pre:List UInt8}{out:List ByteArray},lb s=pre++C8 l→(∀x∈l,x.size≤2048)→l.length<f→JB f s pre.length out=some (out++l)
 |[],f,pre,out,hs,_,hf=>by
  obtain⟨g,rfl⟩:∃g,f=g+1:=⟨f-1,by simp at hf;omega⟩
  have dj:s.size=pre.length:=by rw [fo,hs];simp [C8]
  rw [aeA (decide_eq_false (by rw [dj];omega)),ZE5]
 |x::l,f,pre,out,hs,hx,hf=>by
  obtain⟨g,rfl⟩:∃g,f=g+1:=⟨f-1,by simp at hf;omega⟩
  have hx1:=hx x (by simp)
  have hs2:lb s=pre++(lb (bX x.size)++58::(lb x++C8 l)):=hs
  have dj:s.size=pre.length+((lb (bX x.size)).length+(1+(x.size+(C8 l).length))):=by
   rw [fo,hs2];simp only [ZA0,ZA1,←fo];omega
  obtain⟨b0,l0,e0,_⟩:=ND (x.size:Int)
  have hd1:1≤(lb (bX x.size)).length:=by rw [e0];simp
  have hex:lb (s.extract (pre.length:Int).toNat s.size)=lb (bX x.size)++58::(lb x++C8 l):=by
   rw [mT,fo,ZD1 (ZB5 _),hs2,ZA5,List.drop_left]
  have hr:tQ s (pre.length:Int)=((x.size:Int),((lb (bX x.size)).length:Int)):=afV hx1 hex
  have xD:bL s ((pre.length:Int)+((lb (bX x.size)).length:Int)).toNat=58:=by
   rw [ni,hs2,show ((pre.length:Int)+((lb (bX x.size)).length:Int)).toNat=pre.length+(lb (bX x.size)).length by omega]
   rw [ZC6 (by omega),ZG4,ZC6 (ZB5 _),Nat.sub_self]
   rfl
  have iC:qt s (pre.length:Int) (tQ s (pre.length:Int))=false:=by
   rw [hr]
   exact aad (decide_eq_false (by simp only;omega)) (decide_eq_false (by simp only;omega)) (decide_eq_false (by simp only;rw [xD];simp)) (decide_eq_false (by simp only;omega))
  rw [ag0 (decide_eq_true (by omega)) iC,hr]
  have ahO:s.extract ((pre.length:Int)+((lb (bX x.size)).length:Int)+1).toNat ((pre.length:Int)+((lb (bX x.size)).length:Int)+1+(x.size:Int)).toNat=x:=by
   refine vx ?_
   rw [mT,hs2]
   rw [show ((pre.length:Int)+((lb (bX x.size)).length:Int)+1+(x.size:Int)).toNat=pre.length+((lb (bX x.size)).length+(1+x.size)) by omega,show ((pre.length:Int)+((lb (bX x.size)).length:Int)+1).toNat=pre.length+((lb (bX x.size)).length+1) by omega]
   rw [List.take_length_add_append,ZF5,List.take_length_add_append,ZF5]
   rw [show 1+x.size=x.size+1 by omega,List.take_succ_cons,List.drop_succ_cons,ZF0,fo,List.take_left]
  show JB g s ((pre.length:Int)+((lb (bX x.size)).length:Int)+1+(x.size:Int)) _=_
  simp only
  rw [ahO]
  have:=Z8 (s:=s) (l:=l) (f:=g) (pre:=pre++(lb (bX x.size)++58::lb x)) (out:=out++[x]) (by rw [hs2];simp [ZD2]) (fun y hy=>hx y (by simp [hy])) (by simp at hf;omega)
  rw [show ((pre++(lb (bX x.size)++58::lb x)).length:Int)=(pre.length:Int)+((lb (bX x.size)).length:Int)+1+(x.size:Int) by simp only [ZA0,ZA1,←fo];omega] at this
  rw [this,ZD2];rfl
theorem UE:∀(l:List ByteArray),l.length≤(C8 l).length
 |[]=>ZB5 _
 |x::l=>by
  have:=UE l
  simp only [C8,ZA0,ZA1];omega
theorem I9 {l:List ByteArray}(h:(cE l).2=true):bq (cE l).1=(l,true):=by
 cases h60:decide ((l.length:Int)≤60) with
 |false=>rw [tP h60] at h;cases h
 |true=>
  have h0:=h
  rw [gE h60] at h
  obtain⟨e1,e2,e3⟩:=D9 h
  rw [gE h60]
  generalize hs:(dB l ⟨#[]⟩).1=s at e1 e3 ⊢
  have e1:lb s=C8 l:=by simpa [adI] using e1
  have dj:s.size≤2048:=by
   rcases e3 with e3 |rfl
   ·exact e3
   ·rw [fo,e1];simp [C8]
  have hlen:=UE l
  have hg:=Z8 (s:=s) (l:=l) (f:=s.size+1) (pre:=[]) (out:=[]) (by simpa using e1) e2 (by rw [fo,e1];omega)
  unfold bq
  rw [decide_eq_true (by omega),cond_true]
  rw [show ((([]:List UInt8).length:Nat):Int)=0 from rfl] at hg
  rw [hg]
  show vJ s ([]++l)=(l,true)
  rw [ZD0]
  unfold vJ
  rw [h0,gE h60,hs]
  simp
theorem tB {n:fu}(h:cy n=true):bz (aC n)=(n,true):=by
 have hb:=lh h
 have hp:aC n=(cE [bX n.1,bX n.2.1,bX n.2.2.1,bc n.root,bX n.2.2.2.2.2.2.2.2.1,bX n.2.2.2.2.2.2.2.2.2,⟨#[101,110,100]⟩]).1:=by unfold aC;rw [h];rfl
 have hf:(cE [bX n.1,bX n.2.1,bX n.2.2.1,bc n.root,bX n.2.2.2.2.2.2.2.2.1,bX n.2.2.2.2.2.2.2.2.2,⟨#[101,110,100]⟩]).2=true:=by
  rw [gE rfl]
  refine D8 ?_
  have d1:=db (n:=n.1) (by omega)
  have d2:=db (n:=n.2.1) (by omega)
  have d3:=db (n:=n.2.2.1) (by omega)
  have d4:=gu n.root
  have d5:=db (n:=n.2.2.2.2.2.2.2.2.1) (by omega)
  have d6:=db (n:=n.2.2.2.2.2.2.2.2.2) (by omega)
  simp only [ZE7,List.map_nil,List.sum_cons,List.sum_nil]
  rw [show (⟨#[101,110,100]⟩:ByteArray).size=3 from rfl,show (⟨#[]⟩:ByteArray).size=0 from rfl]
  omega
 have hg:=I9 hf
 rw [←hp] at hg
 have e1:=eu (n:=n.1) (by omega) (by omega)
 have e2:=eu (n:=n.2.1) (by omega) (by omega)
 have e3:=eu (n:=n.2.2.1) (by omega) (by omega)
 have e4:=nK hb.2.2.2.2.2.1
 have e5:=eu (n:=n.2.2.2.2.2.2.2.2.1) (by omega) (by omega)
 have e6:=eu (n:=n.2.2.2.2.2.2.2.2.2) (by omega) (by omega)
 have uy:mS [bX n.1,bX n.2.1,bX n.2.2.1,bc n.root,bX n.2.2.2.2.2.2.2.2.1,bX n.2.2.2.2.2.2.2.2.2,⟨#[101,110,100]⟩]=n:=by
  show ((aD (bX n.1)).1,(aD (bX n.2.1)).1,(aD (bX n.2.2.1)).1,(bP (bc n.root)).1.1,(bP (bc n.root)).1.2.1,(bP (bc n.root)).1.2.2.1,(bP (bc n.root)).1.2.2.2.1,(bP (bc n.root)).1.2.2.2.2,(aD (bX n.2.2.2.2.2.2.2.2.1)).1,(aD (bX n.2.2.2.2.2.2.2.2.2)).1)=n
  rw [e1,e2,e3,e4,e5,e6]
 unfold bz
 rw [hg,uy,h]
 simp
end GL
namespace GL
abbrev at' (p:Pt):Nat:=p.1.toNat
def K2 (r:Nat) (p:Pt):Bool:= !(au p)&&decide (at' p=r)
def bn (l:List Pt) (r:Nat):Nat:=l.countP (K2 r)
theorem rq (r:Nat):bn [] r=0:=rfl
theorem bI (l m:List Pt) (r:Nat):bn (l++m) r=bn l r+bn m r:=List.countP_append
theorem dP (p:Pt) (l:List Pt) (r:Nat):bn (p::l) r=bn [p] r+bn l r:=bI [p] l r
theorem PU {l m:List Pt}(h:l.Sublist m) (r:Nat):bn l r≤bn m r:=h.countP_le
theorem l9 {p:Pt}(h:au p=true) (r:Nat):bn [p] r=0:=by
 simp [bn,K2,h]
theorem rM {p:Pt}(h:au p=false):bn [p] (at' p)=1:=by
 simp [bn,K2,h]
theorem yU {p:Pt}{r:Nat}(h:at' p≠r):bn [p] r=0:=by
 simp [bn,K2,h]
theorem akf (p:Pt) (r:Nat):bn [p] r≤1:=by
 have:bn [p] r≤[p].length:=List.countP_le_length
 simpa using this
theorem tX {l:List Pt}{p:Pt}(hp:p∈l) (h:au p=false):0<bn l (at' p):=by
 unfold bn
 rw [List.countP_pos_iff]
 exact⟨p,hp,by simp [K2,h]⟩
theorem X4 (f:Pt→Bool) (l:List Pt) (r:Nat):bn (l.filter f) r≤bn l r:=PU List.filter_sublist r
def qI (s:ay) (r:Nat):Int:=nth ag s.refs r
structure Acc (s:ay) (O:Nat→Nat):Prop where
 wf:s.wf
 up:∀r,qI s r≤1000000
 cg:1≤s.cg∧s.cg≤1000000
 sl:∀r,((bn s.gone r+bn s.dead r+O r:Nat):Int)≤qI s r
 ok:∀p∈s.gone++s.dead,aZ p=true∧au p=false
theorem Acc.mono {s:ay}{O O':Nat→Nat}(h:Acc s O) (hO:∀r,O' r≤O r):Acc s O':=
 ⟨h.wf,h.up,h.cg,fun r=>by have:=h.sl r;have:=hO r;omega,h.ok⟩
def Kp (O:Nat→Nat) (s u:ay):Prop:=∀r,0<O r→nth ab u.rows r=nth ab s.rows r
theorem Kp.refl (O:Nat→Nat) (s:ay):Kp O s s:=fun _ _=>rfl
theorem Kp.trans {O:Nat→Nat}{a b c:ay}(h:Kp O a b) (h2:Kp O b c):Kp O a c:=fun r hr=>(h2 r hr).trans (h r hr)
theorem Kp.mono {O O':Nat→Nat}{a b:ay}(h:Kp O a b) (hO:∀r,O' r≤O r):Kp O' a b:=fun r hr=>h r (ZG3 hr (hO r))
structure dQ (s u:ay):Prop where
 cg:u.cg=s.cg
 bZ:u.bZ=s.bZ
 same:u.same=s.same
theorem dQ.refl (s:ay):dQ s s:=⟨rfl,rfl,rfl⟩
theorem dQ.trans {a b c:ay}(h:dQ a b) (h2:dQ b c):dQ a c:=⟨h2.cg.trans h.cg,h2.bZ.trans h.bZ,h2.same.trans h.same⟩
theorem ix {ek:EK}{l:List (EK.Ty ek)}{k r:Nat}{x:EK.Ty ek}(h:k≠r):nth ek (l.set k x) r=nth ek l r:=by
 unfold nth;rw [List.getElem?_set_ne h]
theorem tz {ek:EK}{l:List (EK.Ty ek)}{k:Nat}(h:l.length≤k):nth ek l k=EK.zero ek:=by
 unfold nth;rw [ZD8 h]
theorem FX {n:Int}(h0: -1000000000≤n) (h1:n≤1000000000):xu n=n:=oQ (by simp only [gK];omega) (by simp only [imax];omega)
theorem sr {p:Pt}(h:aZ p=true):at' p<64:=by have:=pT h;unfold at';omega
theorem C2 {s:ay}{O O':Nat→Nat}{p:Pt}(h:Acc s O) (hp:aZ p=true) (hO:∀r,O' r+bn [p] r≤O r):Acc (cM s p) O'∧Kp O' s (cM s p)∧dQ s (cM s p):=by
 have oN:=qq (p:=p) h.wf
 cases hh:au p with
 |true=>
  rw [yO hh]
  exact⟨h.mono fun r=>by have:=hO r;omega,Kp.refl _ _,dQ.refl _⟩
 |false=>
  cases h1:decide (p.2.1≤s.bZ) with
  |true=>
   rw [yR hh h1] at oN ⊢
   refine⟨⟨oN,h.up,h.cg,fun r=>?_,fun q hq=>?_⟩,Kp.refl _ _,⟨rfl,rfl,rfl⟩⟩
   ·show ((bn s.gone r+bn (s.dead++[p]) r+O' r:Nat):Int)≤qI s r
    rw [bI];have:=h.sl r;have:=hO r;omega
   ·have hq:q∈s.gone++(s.dead++[p]):=hq
    rw [←ZD2] at hq
    rcases ZB4.1 hq with hq |hq
    ·exact h.ok q hq
    ·rw [ZC7.1 hq];exact⟨hp,hh⟩
  |false=>
   cases h2:decide (p.2.1<s.cg) with
   |true=>
    rw [yP hh h1 h2] at oN ⊢
    refine⟨⟨oN,h.up,h.cg,fun r=>?_,fun q hq=>?_⟩,Kp.refl _ _,⟨rfl,rfl,rfl⟩⟩
    ·show ((bn (s.gone++[p]) r+bn s.dead r+O' r:Nat):Int)≤qI s r
     rw [bI];have:=h.sl r;have:=hO r;omega
    ·have hq:q∈(s.gone++[p])++s.dead:=hq
     simp only [ZB4,ZC7] at hq
     rcases hq with (hq |hq) |hq
     ·exact h.ok q (by simp [hq])
     ·rw [hq];exact⟨hp,hh⟩
     ·exact h.ok q (by simp [hq])
   |false=>
    rw [yQ hh h1 h2] at oN ⊢
    have xD:=sr hp
    have hlen:at' p<s.refs.length:=by rw [h.wf.n.2.1];exact xD
    have hsl:=h.sl (at' p)
    have hOa:=hO (at' p)
    rw [rM hh] at hOa
    have hup:=h.up (at' p)
    have hw:xu (qI s (at' p)-1)=qI s (at' p)-1:=FX (by omega) (by omega)
    have hrf:(gf s p.1.toNat).refs=s.refs.set (at' p) (qI s (at' p)-1):=by
     show s.refs.set (at' p) (xu (qI s (at' p)-1))=_
     rw [hw]
    have vE:∀r,qI (gf s p.1.toNat) r=qI s r-bn [p] r:=fun r=>by
     show nth ag (gf s p.1.toNat).refs r=nth ag s.refs r-_
     rw [hrf]
     by_cases e:at' p=r
     ·subst e;rw [nu (ek:=ag) hlen,rM hh];rfl
     ·rw [ix (ek:=ag) e,yU e];simp
    refine⟨⟨oN,fun r=>?_,h.cg,fun r=>?_,h.ok⟩,fun r hr=>?_,⟨rfl,rfl,rfl⟩⟩
    ·rw [vE];have:=h.up r;omega
    ·rw [vE]
     show ((bn s.gone r+bn s.dead r+O' r:Nat):Int)≤_
     have:=h.sl r;have:=hO r;omega
    ·show nth ab (bif uC s p.1.toNat then s.rows.set p.1.toNat ByteArray.empty else s.rows) r=_
     cases hb:uC s p.1.toNat with
     |false=>rfl
     |true=>
      have hz:qI (gf s p.1.toNat) (at' p)=0:=aJ hb
      rw [vE,rM hh] at hz
      by_cases e:at' p=r
      ·subst e;omega
      ·exact ix (ek:=ab) e
theorem yM:∀{l:List Pt}{s:ay}{O O':Nat→Nat},Acc s O→(∀p∈l,aZ p=true)→(∀r,O' r+bn l r≤O r)→Acc (l.foldl cM s) O'∧Kp O' s (l.foldl cM s)∧dQ s (l.foldl cM s)
 |[],s,O,O',h,_,hO=>⟨h.mono fun r=>by have:=hO r;rw [rq] at this;omega,Kp.refl _ _,dQ.refl _⟩
 |p::l,s,O,O',h,hl,hO=>by
  have h1:=C2 (O':=fun r=>O' r+bn l r) h (hl p (by simp)) (fun r=>by have:=hO r;rw [dP] at this;show O' r+bn l r+_≤_;omega)
  have h2:=yM (l:=l) (O':=O') h1.1 (fun q hq=>hl q (by simp [hq])) (fun r=>ZB5 _)
  exact⟨h2.1,(h1.2.1.mono fun r=>ZD3 _ _).trans h2.2.1,h1.2.2.trans h2.2.2⟩
theorem I8:∀(f i:Nat) (rf:List Int),findF f i rf= -1∨nth ag rf (findF f i rf).toNat=0
 |0,_,_=>.inl rfl
 |f+1,i,rf=>by
  unfold findF
  cases hd:decide (nth ag rf i=0) with
  |true=>right;simp only [cond_true,ZA5];exact aJ hd
  |false=>exact I8 f (i+1) rf
theorem H4:∀(f i:Nat) (s:ay) (text:ByteArray),sx f i s text= -1∨vr s text (sx f i s text).toNat=true
 |0,_,_,_=>.inl rfl
 |f+1,i,s,text=>by
  unfold sx
  cases hd:vr s text i with
  |true=>right;simp only [cond_true,ZA5];exact hd
  |false=>exact H4 f (i+1) s text
theorem NQ (s:ay) (text:ByteArray) (lv:Int):da s text lv<0∨(8≤da s text lv∧da s text lv<64)∧(nth ag s.refs (da s text lv).toNat=0∨nth ab s.rows (da s text lv).toNat=text∧nth ag s.refs (da s text lv).toNat<s.cg):=by
 have hf:oe s.refs<0∨(8≤oe s.refs∧oe s.refs<64)∧nth ag s.refs (oe s.refs).toNat=0:=by
  rcases T1 s.refs with h |h
  ·left;omega
  ·right
   refine⟨h,?_⟩
   rcases I8 56 8 s.refs with h2 |h2
   ·have:oe s.refs= -1:=h2
    omega
   ·exact h2
 have key:∀a,a=oe s.refs→a<0∨(8≤a∧a<64)∧(nth ag s.refs a.toNat=0∨nth ab s.rows a.toNat=text∧nth ag s.refs a.toNat<s.cg):=fun a e=>by
  rw [e]
  rcases hf with h |h
  ·exact .inl h
  ·exact .inr ⟨h.1,.inl h.2⟩
 cases h1:s.same with
 |false=>exact key _ (wk h1)
 |true=>
  cases h2:decide (lv=0) with
  |false=>exact key _ (wm h2)
  |true=>
   cases h3:decide (re s text<0) with
   |true=>exact key _ (wo h1 h2 h3)
   |false=>
    rw [AZ h1 h2 h3]
    have h3:=aA h3
    right
    rcases SX s text with h |h
    ·omega
    ·refine⟨h,.inr ?_⟩
     rcases H4 56 8 s text with h4 |h4
     ·have:re s text= -1:=h4
      omega
     ·have h4:vr s text (re s text).toNat=true:=h4
      unfold vr at h4
      simp only [ZA9,decide_eq_true_eq] at h4
      exact⟨h4.1,h4.2.2⟩
structure aj8 (s u:ay) (p:Pt) (text:ByteArray) (lv:Int):Prop where
 ok:aZ p=true
 nh:au p=false
 lv:p.2.2.2.2=lv
 EI:p.2.1=s.cg
 row:nth ab u.rows (at' p)=text
 fits:iX p text=true
theorem xJ {s:ay}{O:Nat→Nat}{text:ByteArray}{lv:Int}(h:Acc s O) (hz:(bd s text lv).2.2=true):
  Acc (bd s text lv).1 (fun r=>O r+bn [(bd s text lv).2.1] r)∧Kp O s (bd s text lv).1∧dQ s (bd s text lv).1∧(bd s text lv).1.gone=s.gone∧(bd s text lv).1.dead=s.dead∧aj8 s (bd s text lv).1 (bd s text lv).2.1 text lv:=by
 have oN:=AY (text:=text) (lv:=lv) h.wf
 cases hd:decide (da s text lv<0) with
 |true=>rw [nA rfl hd] at hz;cases hz
 |false=>
  cases h2: !(gv (da s text lv) s.cg lv text).2 with
  |true=>rw [mz rfl hd h2] at hz;cases hz
  |false=>
   rw [o8 rfl hd h2] at oN ⊢
   have hd:=aA hd
   have h2:=oH h2
   have hw:=NQ s text lv
   generalize ha:da s text lv=a at *
   have hpo:ik text.size 1 128=true∧aZ (a,s.cg,(text.size:Int),qN text,lv)=true:=by
    cases hi:ik text.size 1 128 with
    |false=>rw [BX hi] at h2;cases h2
    |true=>cases hj:aZ (a,s.cg,(text.size:Int),qN text,lv) with
     |false=>rw [BW hj] at h2;cases h2
     |true=>exact⟨rfl,rfl⟩
   rw [BV hpo.1 hpo.2] at *
   obtain⟨⟨h8,h64⟩,sE⟩:=hw.resolve_left hd
   have hnh:au (a,s.cg,(text.size:Int),qN text,lv)=false:=by
    unfold au;rw [decide_eq_false (by show¬a=0;omega)];rfl
   have hlr:a.toNat<s.refs.length:=by rw [h.wf.n.2.1];omega
   have bU:a.toNat<s.rows.length:=by rw [h.wf.n.1];omega
   have hup:=h.up a.toNat
   have hsl:=h.sl a.toNat
   have hw2:xu (qI s a.toNat+1)=qI s a.toNat+1:=FX (by omega) (by omega)
   have sE:qI s a.toNat=0∨nth ab s.rows a.toNat=text∧qI s a.toNat<s.cg:=sE
   have vE:∀r,qI (uO s text a.toNat) r=qI s r+bn [((a,s.cg,(text.size:Int),qN text,lv):Pt)] r:=fun r=>by
    show nth ag (s.refs.set a.toNat (xu (qI s a.toNat+1))) r=nth ag s.refs r+_
    rw [hw2]
    by_cases e:a.toNat=r
    ·subst e
     rw [nu (ek:=ag) hlr]
     rw [show bn [((a,s.cg,(text.size:Int),qN text,lv):Pt)] a.toNat=1 from rM hnh];rfl
    ·rw [ix (ek:=ag) e,yU (p:=(a,s.cg,(text.size:Int),qN text,lv)) e];simp
   refine⟨⟨oN,fun r=>?_,h.cg,fun r=>?_,h.ok⟩,fun r hr=>?_,⟨rfl,rfl,rfl⟩,rfl,rfl,⟨hpo.2,hnh,rfl,rfl,?_,?_⟩⟩
   ·rw [vE]
    by_cases e:a.toNat=r
    ·subst e
     rw [show bn [((a,s.cg,(text.size:Int),qN text,lv):Pt)] a.toNat=1 from rM hnh]
     have:=h.cg
     rcases sE with hc |hc<;>omega
    ·rw [yU (p:=(a,s.cg,(text.size:Int),qN text,lv)) e];have:=h.up r;omega
   ·rw [vE]
    show ((bn s.gone r+bn s.dead r+(O r+bn [((a,s.cg,(text.size:Int),qN text,lv):Pt)] r):Nat):Int)≤_
    have:=h.sl r;omega
   ·show nth ab (s.rows.set a.toNat text) r=_
    by_cases e:a.toNat=r
    ·subst e
     rw [nu (ek:=ab) bU]
     rcases sE with hc |hc
     ·omega
     ·exact hc.1.symm
    ·exact ix (ek:=ab) e
   ·exact nu (ek:=ab) bU
   ·unfold iX
    rw [hpo.2,hnh]
    simp
end GL
end Go.Proofs.YtnkbdhldiinfdaaGreatDoor
