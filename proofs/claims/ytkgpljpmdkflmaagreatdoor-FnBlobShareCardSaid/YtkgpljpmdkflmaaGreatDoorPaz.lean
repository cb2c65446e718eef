/- A drawn law returns true for every code (its row lists package variables, tied by the card): part 26. -/
import Derived.Test.YtkgpljpmdkflmaaGreatDoorPar
import Derived.Test.YtkgpljpmdkflmaaGreatDoorPat
set_option maxHeartbeats 20000000
set_option maxRecDepth 100000
set_option linter.all false
namespace Go.Proofs.YtkgpljpmdkflmaaGreatDoor
namespace GL
abbrev lb (s:ByteArray):List UInt8:=s.data.toList
theorem vB {s t:ByteArray}(h:lb s=lb t):s=t:=by
 cases s;cases t;simp only [lb] at h;congr 1;exact Array.toList_inj.1 h
theorem wO (s t:ByteArray):lb (s++t)=lb s++lb t:=by
 show (s++t).data.toList=_
 rw [ByteArray.data_append,Array.toList_append]
theorem fo (s:ByteArray):s.size=(lb s).length:=by
 show s.data.size=s.data.toList.length
 rw [ZE4]
theorem adE:lb ⟨#[]⟩=[]:=rfl
theorem aiY:lb ByteArray.empty=[]:=rfl
theorem mW (s:ByteArray) (a b:Nat):lb (s.extract a b)=((lb s).take b).drop a:=by
 simp only [lb,ByteArray.data_extract,Array.toList_extract]
 rw [List.extract_eq_take_drop,List.drop_take]
theorem np (s:ByteArray) (k:Nat):bM s k=(match (lb s)[k]? with |some b=>(b.toNat:Int) |none=>0):=by
 unfold bM
 have e:s[k]?=(lb s)[k]?:=by
  by_cases h:k<s.size
  ·have h':k<(lb s).length:=by rw [←fo];exact h
   rw [getElem?_pos s k h,ZB1 h']
   rfl
  ·have h':¬k<(lb s).length:=by rw [←fo];exact h
   rw [getElem?_neg s k h,ZD8 (by omega)]
 rw [e]
 cases (lb s)[k]?<;>rfl
theorem S1:∀(l:List Int) (r:ByteArray),lb (l.foldl (fun r n=>r.push (UInt8.ofNat n.toNat)) r)=lb r++l.map (fun n=>UInt8.ofNat n.toNat)
 |[],r=>by simp
 |n::l,r=>by
  rw [List.foldl_cons,S1 l]
  simp [lb,ByteArray.push]
theorem L5 (l:List Int):lb (fb l)=l.map (fun n=>UInt8.ofNat n.toNat):=by
 rw [fb,S1];rfl
def mo (c:UInt8):List UInt8→List (List UInt8)
 |[]=>[[]]
 |x::l=>if x=c then []::mo c l else
  match mo c l with
  |h::t=>(x::h)::t
  |[]=>[[x]]
theorem r7 (c x:UInt8) (l:List UInt8):mo c (x::l)=if x=c then []::mo c l else
  match mo c l with
  |h::t=>(x::h)::t
  |[]=>[[x]]:=rfl
theorem zj (c:UInt8) (l:List UInt8):mo c l≠[]:=by
 cases l with
 |nil=>simp [mo]
 |cons x l=>
  unfold mo;split
  ·simp
  ·split<;>simp
theorem wB (c x:UInt8):∀(l:List UInt8) (a:List (List UInt8)) (r:List UInt8),mo c l=a++[r]→mo c (l++[x])=if x=c then a++[r]++[[]] else a++[r++[x]]
 |[],a,r,h=>by
  have h:[[]]=a++[r]:=h
  cases a with
  |nil=>
   simp only [ZC9,ZG6,and_true] at h
   subst h
   by_cases hx:x=c
   ·simp [mo,hx]
   ·simp [mo,hx]
  |cons y a=>simp at h
 |y::l,a,r,h=>by
  rw [ZG4]
  rw [r7] at h ⊢
  by_cases hy:y=c
  ·rw [if_pos hy] at h ⊢
   cases a with
   |nil=>
    simp only [ZC9,ZG6] at h
    exact absurd h.2 (zj c l)
   |cons z a=>
    simp only [ZG4,ZG6] at h
    obtain⟨hz,h⟩:=h
    rw [wB c x l a r h,←hz]
    by_cases hx:x=c<;>simp [hx]
  ·rw [if_neg hy] at h ⊢
   cases e:mo c l with
   |nil=>exact absurd e (zj c l)
   |cons w t=>
    rw [e] at h
    cases a with
    |nil=>
     simp only [ZC9,ZG6] at h
     obtain⟨hr,ht⟩:=h
     subst ht
     have:=wB c x l [] w (by simpa using e)
     rw [this,←hr]
     by_cases hx:x=c<;>simp [hx]
    |cons z a=>
     simp only [ZG4,ZG6] at h
     obtain⟨hz,ht⟩:=h
     have:=wB c x l (w::a) r (by rw [e,ht];rfl)
     rw [this,←hz]
     by_cases hx:x=c<;>simp [hx]
theorem zg {s:ByteArray}{k:Nat}(h:k<(lb s).length):(lb s).take (k+1)=(lb s).take k++[(lb s)[k]]:=by
 rw [List.take_add_one,ZB1 h];rfl
theorem NC (s:ByteArray) (c:UInt8):∀k,k≤(lb s).length→(jb s c.toNat k).2≤k∧mo c ((lb s).take k)=(jb s c.toNat k).1.map lb++[((lb s).take k).drop (jb s c.toNat k).2]
 |0,_=>⟨ZB5 _,by simp [jb,mo]⟩
 |k+1,hk=>by
  obtain⟨h1,h2⟩:=NC s c k (by omega)
  have bV:k<(lb s).length:=by omega
  have hb:bM s k=(((lb s)[k]).toNat:Int):=by rw [np,ZB1 bV]
  have hs:=wB c ((lb s)[k]) _ _ _ h2
  rw [zg bV,hs]
  rw [show jb s ((c.toNat:Nat):Int) (k+1)=bif decide (bM s k=((c.toNat:Nat):Int)) then ((jb s c.toNat k).1++[s.extract (jb s c.toNat k).2 k],k+1) else jb s c.toNat k from rfl]
  have hd:decide (bM s k=((c.toNat:Nat):Int))=decide ((lb s)[k]=c):=by
   rw [hb]
   by_cases e:(lb s)[k]=c
   ·simp [e]
   ·have:¬(((lb s)[k]).toNat:Int)=(c.toNat:Int):=fun h=>e (UInt8.toNat_inj.1 (by omega))
    rw [decide_eq_false this,decide_eq_false e]
  rw [hd]
  by_cases e:(lb s)[k]=c
  ·rw [decide_eq_true e,if_pos e]
   simp only [cond_true]
   refine⟨ZB5 _,?_⟩
   rw [List.map_append,ZE7,List.map_nil,mW]
   congr 1
   have:((lb s).take k++[(lb s)[k]]).length=k+1:=by rw [ZA0,ZC0,List.length_singleton];omega
   rw [ZB3 (ZA8 this)]
  ·rw [decide_eq_false e,if_neg e]
   simp only [cond_false]
   refine⟨by omega,?_⟩
   congr 2
   rw [List.drop_append_of_le_length (by rw [ZC0];omega)]
theorem JQ (s:ByteArray) (c:UInt8):(bn s c.toNat).map lb=mo c (lb s):=by
 have h:=NC s c (lb s).length (ZB5 _)
 rw [ZD1 (ZB5 _)] at h
 rw [h.2,bn,List.map_append,ZE7,List.map_nil,mW,fo]
 rw [ZD1 (ZB5 _)]
theorem lE (c:UInt8):∀(a b:List UInt8),mo c (a++c::b)=mo c a++mo c b
 |[],b=>by simp [mo]
 |x::a,b=>by
  rw [ZG4]
  have ih:=lE c a b
  rw [r7,r7]
  by_cases hx:x=c
  ·rw [if_pos hx,if_pos hx,ih];rfl
  ·rw [if_neg hx,if_neg hx,ih]
   cases e:mo c a with
   |nil=>exact absurd e (zj c a)
   |cons h t=>rfl
theorem gj (c:UInt8):∀(a:List UInt8),c∉a→mo c a=[a]
 |[],_=>rfl
 |x::a,h=>by
  have hx:¬x=c:=fun e=>h (by simp [e])
  rw [r7,if_neg hx,gj c a (fun hh=>h (by simp [hh]))]
theorem mX {k:Nat}(h:k<10):lb (dec k)=[UInt8.ofNat (48+k)]:=by
 rw [dec_lt h,L5]
 simp only [ZE7,List.map_nil]
 congr 2
theorem pd {k:Nat}(h:¬k<10):lb (dec k)=lb (dec (k / 10))++[UInt8.ofNat (48+k % 10)]:=by
 rw [XX h,wO,L5]
 simp only [ZE7,List.map_nil]
 congr 3
theorem sx {d:Nat}(h:d<10):(UInt8.ofNat (48+d)).toNat=48+d:=by
 rw [UInt8.toNat_ofNat'];omega
theorem tX:∀(k:Nat),∀b∈lb (dec k),48≤b.toNat∧b.toNat≤57:=by
 intro k
 induction k using Nat.strongRecOn with
 |_ k ih=>
  intro b hb
  by_cases h:k<10
  ·rw [mX h] at hb
   rw [ZC7.1 hb,sx h];omega
  ·rw [pd h] at hb
   rcases ZB4.1 hb with hb |hb
   ·exact ih (k / 10) (by omega) b hb
   ·rw [ZC7.1 hb,sx (by omega)];omega
theorem xh:∀(k:Nat),∃b l,lb (dec k)=b::l∧(b.toNat=48→l=[]):=by
 intro k
 induction k using Nat.strongRecOn with
 |_ k ih=>
  by_cases h:k<10
  ·exact⟨_,_,mX h,fun _=>rfl⟩
  ·obtain⟨b,l,e,hb⟩:=ih (k / 10) (by omega)
   refine⟨b,l++[UInt8.ofNat (48+k % 10)],by rw [pd h,e];rfl,fun h48=>?_⟩
   exfalso
   have hl:=hb h48
   subst hl
   by_cases h2:k / 10<10
   ·rw [mX h2] at e
    simp only [ZG6,and_true] at e
    have:=sx h2
    rw [e] at this
    omega
   ·rw [pd h2] at e
    have:=congrArg List.length e
    have h3:1≤(lb (dec (k / 10 / 10))).length:=by
     obtain⟨b',l',e',_⟩:=ih (k / 10 / 10) (by omega)
     rw [e'];simp
    simp only [ZA0,ZA1,ZA4] at this
    omega
def qO (l:List UInt8):Int:=l.foldl (fun n b=>10*n+((b.toNat:Int)-48)) 0
theorem wy (l:List UInt8) (b:UInt8):qO (l++[b])=10*qO l+((b.toNat:Int)-48):=by simp [qO]
theorem P9:∀(k:Nat),qO (lb (dec k))=k:=by
 intro k
 induction k using Nat.strongRecOn with
 |_ k ih=>
  by_cases h:k<10
  ·rw [mX h]
   have:=sx h
   simp only [qO,List.foldl_cons,List.foldl_nil];omega
  ·rw [pd h,wy,ih (k / 10) (by omega),sx (by omega)];omega
theorem CD (s:ByteArray):∀k,k≤(lb s).length→iO s k=qO ((lb s).take k)
 |0,_=>by simp [iO,qO]
 |k+1,h=>by
  have bV:k<(lb s).length:=by omega
  rw [zg bV,wy,iO,CD s k (by omega),np,ZB1 bV]
theorem ZH {s:ByteArray}:∀{j f k:Nat},j+k≤9→f+k=9→(∀i,k≤i→i<k+j→DA s i=true)→sD f s k=sD (f-j) s (k+j)
 |0,f,k,_,_,_=>by rw [Nat.sub_zero];rfl
 |j+1,f,k,h,hf,hd=>by
  obtain⟨g,rfl⟩:∃g,f=g+1:=⟨f-1,by omega⟩
  rw [sD,hd k (ZB5 _) (by omega),cond_true,ZH (j:=j) (by omega) (by omega) (fun i h1 h2=>hd i (by omega) (by omega))]
  rw [show g+1-(j+1)=g-j by omega,show k+1+j=k+(j+1) by omega]
theorem ZO {s:ByteArray}{n:Nat}{rest:List UInt8}(hn:n<1000000000) (hs:lb s=lb (dec n)++rest) (hr:∀b,rest.head?=some b→¬(48≤b.toNat∧b.toNat≤57)):CN s=((n:Int),((lb (dec n)).length:Int)):=by
 have hlen:(lb (dec n)).length≤9:=by rw [←fo];exact JL 8 n (by show n<10 ^ 9;omega)
 have dj:s.size=(lb (dec n)).length+rest.length:=by rw [fo,hs,ZA0]
 have xF:∀i,i<(lb (dec n)).length→bM s i=(match (lb (dec n))[i]? with |some b=>(b.toNat:Int) |none=>0):=fun i hi=>by
  rw [np,hs,ZC2 hi]
 have af4:∀i,i<(lb (dec n)).length→DA s i=true:=fun i hi=>by
  have h1:=xF i hi
  rw [ZB1 hi] at h1
  have h2:=tX n _ (List.getElem_mem hi)
  have h3:bM s i=(((lb (dec n))[i]).toNat:Int):=h1
  unfold DA
  rw [decide_eq_true (by omega),decide_eq_true (by omega),decide_eq_true (by omega),decide_eq_true (by omega)];rfl
 have ai7:DA s (lb (dec n)).length=false:=by
  cases ad3:rest with
  |nil=>
   rw [ad3] at dj
   exact agX (decide_eq_false (by rw [dj];simp))
  |cons b r=>
   have hb:=hr b (by rw [ad3];rfl)
   have h1:bM s (lb (dec n)).length=(b.toNat:Int):=by
    rw [np,hs,ZC6 (ZB5 _),Nat.sub_self,ad3];rfl
   unfold DA
   by_cases h48:48≤b.toNat
   ·rw [decide_eq_false (p:=bM s (lb (dec n)).length≤57) (by omega),ZD7,ZD7,ZD7]
   ·rw [decide_eq_false (p:=bM s (lb (dec n)).length≥48) (by omega),Bool.false_and,ZD7,ZD7]
 have hnl:cX s=(lb (dec n)).length:=by
  refine SZ hlen ai7 ?_
  have:=ZH (s:=s) (j:=(lb (dec n)).length) (f:=9) (k:=0) (by omega) (by omega) (fun i _ h2=>af4 i (by omega))
  rw [ZA6] at this
  exact this.symm
 have afV:iO s (lb (dec n)).length=n:=by
  rw [CD s _ (by rw [hs,ZA0];omega),hs,List.take_append_of_le_length (ZB5 _),ZD1 (ZB5 _),P9]
 by_cases h1:1<(lb (dec n)).length
 ·obtain⟨b,l,e,hb⟩:=xh n
  have h0:bM s 0=(b.toNat:Int):=by rw [xF 0 (by omega),e];rfl
  have h2:¬b.toNat=48:=fun h=>by
   have:=hb h;rw [e,this] at h1;simp at h1
  rw [agF hnl (decide_eq_false (by omega)),afV]
 ·rw [agG hnl (decide_eq_false (by omega)),afV]
theorem SF {n:Nat}(hn:n<1000000000):aD (dec n)=((n:Int),true):=by
 have h:=ZO (s:=dec n) (rest:=[]) hn (by simp) (by simp)
 have oW:1≤(lb (dec n)).length:=by obtain⟨b,l,e,_⟩:=xh n;rw [e];simp
 unfold aD
 rw [h]
 simp only
 rw [decide_eq_false (p:=((lb (dec n)).length:Int)=0) (by omega),decide_eq_false (p:=((lb (dec n)).length:Int)≠((dec n).size:Int)) (by rw [fo];simp)];rfl
theorem ew {n:Int}(h0:0≤n) (hn:n<1000000000):aD (bY n)=(n,true):=by
 unfold bY
 rw [SF (by omega),show ((n.toNat:Nat):Int)=n by omega]
theorem aeT {n:Nat}{c:UInt8}(hc:¬(48≤c.toNat∧c.toNat≤57)):c∉lb (dec n):=fun h=>hc (tX n c h)
end GL
namespace GL
theorem yB:∀{l m:List ByteArray},l.map lb=m.map lb→l=m
 |[],[],_=>rfl
 |[],_::_,h=>by cases h
 |_::_,[],h=>by cases h
 |x::l,y::m,h=>by
  simp only [ZE7,ZG6] at h
  rw [vB h.1,yB h.2]
theorem aap {s:ByteArray}{l:List ByteArray}(c:UInt8) (h:mo c (lb s)=l.map lb):bn s c.toNat=l:=
 yB ((JQ s c).trans h)
theorem pv {n:Int}{c:UInt8}(hc:¬(48≤c.toNat∧c.toNat≤57)):c∉lb (bY n):=aeT hc
theorem NB (n:Int):∃b l,lb (bY n)=b::l∧48≤b.toNat∧b.toNat≤57:=by
 obtain⟨b,l,e,_⟩:=xh n.toNat
 exact⟨b,l,e,tX n.toNat b (by rw [e];simp)⟩
theorem wN {p:Pt}(h:aZ p=true) (h2:au p=false):lb (bc p)=lb (bY p.1)++46::(lb (bY p.2.1)++46::(lb (bY p.2.2.1)++46::(lb (bY p.2.2.2.1)++46::lb (bY p.2.2.2.2)))):=by
 unfold bc
 rw [h,h2]
 simp only [cond_true,cond_false,wO]
 simp only [ZD2]
 rfl
theorem qY {p:Pt}(h2:au p=true):bc p=⟨#[45]⟩:=by
 have h:aZ p=true:=by unfold aZ;rw [h2];rfl
 unfold bc;rw [h,h2];rfl
theorem ir {p:Pt}(h:au p=true):p=bN:=by
 unfold au at h
 simp only [ZA9,decide_eq_true_eq] at h
 obtain⟨a,b,c,d,e⟩:=p
 obtain⟨h1,h2,h3,h4,h5⟩:=h
 simp only at h1 h2 h3 h4 h5
 subst h1 h2 h3 h4 h5;rfl
theorem RL {p:Pt}{c:UInt8}(h:aZ p=true) (hc:¬(48≤c.toNat∧c.toNat≤57)) (h1:c≠46) (h2:c≠45):c∉lb (bc p):=by
 cases hh:au p with
 |true=>rw [qY hh];show c∉[45];simp [h2]
 |false=>
  rw [wN h hh]
  simp only [ZB4,ZB8,not_or]
  exact⟨pv hc,h1,pv hc,h1,pv hc,h1,pv hc,h1,pv hc⟩
theorem nN {p:Pt}(h:aZ p=true):bQ (bc p)=(p,true):=by
 cases hh:au p with
 |true=>rw [qY hh,wG (by decide),ir hh]
 |false=>
  have hl:=wN h hh
  obtain⟨b,l,e,hb1,hb2⟩:=NB p.1
  have fB:¬bc p=⟨#[45]⟩:=fun heq=>by
   rw [heq,e] at hl
   have:(45:UInt8)=b:=by
    have h1:=congrArg List.head? hl
    rw [show lb ⟨#[45]⟩=[45] from rfl,ZG4] at h1
    exact ZG5 h1
   rw [←this] at hb1;exact absurd hb1 (by decide)
  have h46:∀n:Int,(46:UInt8)∉lb (bY n):=fun n=>pv (by decide)
  have TM:bn (bc p) 46=[bY p.1,bY p.2.1,bY p.2.2.1,bY p.2.2.2.1,bY p.2.2.2.2]:=by
   refine aap 46 ?_
   rw [hl,lE,lE,lE,lE,gj _ _ (h46 _),gj _ _ (h46 _),gj _ _ (h46 _),gj _ _ (h46 _),gj _ _ (h46 _)]
   rfl
  have hbd:=pV h
  rw [sd (decide_eq_false fB) (by rw [TM];rfl),TM]
  have e1:=ew (n:=p.1) (by omega) (by omega)
  have e2:=ew (n:=p.2.1) (by omega) (by omega)
  have e3:=ew (n:=p.2.2.1) (by omega) (by omega)
  have e4:=ew (n:=p.2.2.2.1) (by omega) (by omega)
  have e5:=ew (n:=p.2.2.2.2) (by omega) (by omega)
  have hn:lk [bY p.1,bY p.2.1,bY p.2.2.1,bY p.2.2.2.1,bY p.2.2.2.2] []=some [p.1,p.2.1,p.2.2.1,p.2.2.2.1,p.2.2.2.2]:=by
   simp [lk,e1,e2,e3,e4,e5]
  rw [BY hn]
  exact G5 (n:=[p.1,p.2.1,p.2.2.1,p.2.2.2.1,p.2.2.2.2]) (by show (!(aZ p))=false;rw [h];rfl) hh
theorem ma {l:List Pt}(h:(bF l).2=true):∃a b c d,l=[a,b,c,d]∧aZ a=true∧aZ b=true∧aZ c=true∧aZ d=true∧(false|| !(au a)|| !(au b)|| !(au c)|| !(au d))=true∧lb (bF l).1=lb (bc a)++44::(lb (bc b)++44::(lb (bc c)++44::lb (bc d))):=by
 cases h4:decide ((l.length:Int)≠4) with
 |true=>rw [xa h4] at h;cases h
 |false=>
  have hl:l.length=4:=by have:=aA h4;omega
  rw [w0 h4] at h ⊢
  match l,hl with
  |[a,b,c,d],_=>
   refine⟨a,b,c,d,rfl,?_⟩
   cases ha:aZ a with
   |false=>rw [po (by simp [gZ,ha])] at h;cases h
   |true=>cases hb:aZ b with
    |false=>rw [po (by simp [gZ,ha,hb])] at h;cases h
    |true=>cases hc:aZ c with
     |false=>rw [po (by simp [gZ,ha,hb,hc])] at h;cases h
     |true=>cases hd:aZ d with
      |false=>rw [po (by simp [gZ,ha,hb,hc,hd])] at h;cases h
      |true=>
       have e:gZ [a,b,c,d] 0 ⟨#[]⟩ false=some ((⟨#[]⟩++bc a)++⟨#[44]⟩++bc b++⟨#[44]⟩++bc c++⟨#[44]⟩++bc d,(false|| !(au a)|| !(au b)|| !(au c)|| !(au d))):=by
        simp [gZ,ha,hb,hc,hd]
       rw [sI e] at h ⊢
       cases hs: !(false|| !(au a)|| !(au b)|| !(au c)|| !(au d)) with
       |true=>rw [C6 hs] at h;cases h
       |false=>
        rw [xc hs]
        refine⟨rfl,rfl,rfl,rfl,oJ hs,?_⟩
        simp only [wO,adE,ZC9,ZD2]
        rfl
theorem ED {l:List Pt}(h:(bF l).2=true):bm (bF l).1=(l,true):=by
 obtain⟨a,b,c,d,rfl,ha,hb,hc,hd,hs,hl⟩:=ma h
 have h44:∀p:Pt,aZ p=true→(44:UInt8)∉lb (bc p):=fun p hp=>RL hp (by decide) (by decide) (by decide)
 have TM:bn (bF [a,b,c,d]).1 44=[bc a,bc b,bc c,bc d]:=by
  refine aap 44 ?_
  rw [hl,lE,lE,lE,gj _ _ (h44 a ha),gj _ _ (h44 b hb),gj _ _ (h44 c hc),gj _ _ (h44 d hd)]
  rfl
 have e:oo (bn (bF [a,b,c,d]).1 44) [] false=some ([a,b,c,d],false|| !(au a)|| !(au b)|| !(au c)|| !(au d)):=by
  rw [TM]
  simp [oo,nN ha,nN hb,nN hc,nN hd]
 rw [jZ e]
 exact vP rfl (by rw [hs];rfl)
theorem vN {l:List Pt}(h4:l.length=4) (cH:∀p∈l,aZ p=true) (hn:(!(l.any fun p=> !(au p)))=false):(bF l).2=true:=by
 match l,h4 with
 |[a,b,c,d],_=>
  have ha:=cH a (by simp);have hb:=cH b (by simp);have hc:=cH c (by simp);have hd:=cH d (by simp)
  have e:gZ [a,b,c,d] 0 ⟨#[]⟩ false=some ((⟨#[]⟩++bc a)++⟨#[44]⟩++bc b++⟨#[44]⟩++bc c++⟨#[44]⟩++bc d,(false|| !(au a)|| !(au b)|| !(au c)|| !(au d))):=by
   simp [gZ,ha,hb,hc,hd]
  rw [w0 rfl,sI e,xc]
  simp only [List.any_cons,List.any_nil,Bool.not_eq_false'] at hn
  rw [Bool.or_false] at hn
  simp only [Bool.false_or,Bool.or_assoc];rw [hn];rfl
def C9:List ByteArray→List UInt8
 |[]=>[]
 |x::l=>lb (bY x.size)++58::(lb x++C9 l)
theorem EA:∀{l:List ByteArray}{out:ByteArray},(dB l out).2=true→lb (dB l out).1=lb out++C9 l∧(∀x∈l,x.size≤2048)∧((dB l out).1.size≤2048∨l=[])
 |[],out,_=>⟨by simp [dB,C9],by simp,.inr rfl⟩
 |x::l,out,h=>by
  unfold dB at h ⊢
  cases h1:decide ((x.size:Int)>2048) with
  |true=>rw [h1] at h;cases h
  |false=>
   rw [h1] at h
   simp only [cond_false] at h ⊢
   cases h2:decide (((out++bY x.size++⟨#[58]⟩++x).size:Int)>2048) with
   |true=>rw [h2] at h;cases h
   |false=>
    rw [h2] at h
    simp only [cond_false] at h ⊢
    obtain⟨e1,e2,e3⟩:=EA h
    refine⟨?_,?_,.inl ?_⟩
    ·rw [e1]
     simp only [wO,C9,ZD2]
     rfl
    ·intro y hy
     rcases ZB8.1 hy with rfl |hy
     ·have:=aA h1;omega
     ·exact e2 y hy
    ·rcases e3 with e3 |rfl
     ·exact e3
     ·have:=aA h2
      show (dB [] _).1.size≤2048
      simp only [dB];omega
theorem D9:∀{l:List ByteArray}{out:ByteArray},out.size+(l.map fun x=>x.size+13).sum≤2048→(dB l out).2=true
 |[],_,_=>rfl
 |x::l,out,h=>by
  simp only [ZE7,List.sum_cons] at h
  have hd:=dc (n:=(x.size:Int)) (by omega)
  have dj:(out++bY x.size++⟨#[58]⟩++x).size=out.size+(bY x.size).size+1+x.size:=by
   simp only [ZB2];rfl
  unfold dB
  rw [decide_eq_false (by omega),cond_false,decide_eq_false (by rw [dj];omega),cond_false]
  exact D9 (by rw [dj];omega)
theorem afP {s:ByteArray}{x:ByteArray}{tail:List UInt8}(hx:x.size≤2048) (hs:lb s=lb (bY x.size)++58::tail):CN s=((x.size:Int),((lb (bY x.size)).length:Int)):=by
 have:=ZO (s:=s) (n:=x.size) (rest:=58::tail) (by omega) hs (fun b hb=>by
  simp only [List.head?_cons,Option.some.injEq] at hb
  rw [←hb];decide)
 exact this
theorem Z5 {s:ByteArray}:∀{l:List ByteArray}{f:Nat}{pre:List UInt8}{out:List ByteArray},lb s=pre++C9 l→(∀x∈l,x.size≤2048)→l.length<f→JA f s pre.length out=some (out++l)
 |[],f,pre,out,hs,_,hf=>by
  obtain⟨g,rfl⟩:∃g,f=g+1:=⟨f-1,by simp at hf;omega⟩
  have dj:s.size=pre.length:=by rw [fo,hs];simp [C9]
  rw [aew (decide_eq_false (by rw [dj];omega)),ZE5]
 |x::l,f,pre,out,hs,hx,hf=>by
  obtain⟨g,rfl⟩:∃g,f=g+1:=⟨f-1,by simp at hf;omega⟩
  have hx1:=hx x (by simp)
  have hs2:lb s=pre++(lb (bY x.size)++58::(lb x++C9 l)):=hs
  have dj:s.size=pre.length+((lb (bY x.size)).length+(1+(x.size+(C9 l).length))):=by
   rw [fo,hs2];simp only [ZA0,ZA1,←fo];omega
  obtain⟨b0,l0,e0,_⟩:=NB (x.size:Int)
  have hd1:1≤(lb (bY x.size)).length:=by rw [e0];simp
  have hex:lb (s.extract (pre.length:Int).toNat s.size)=lb (bY x.size)++58::(lb x++C9 l):=by
   rw [mW,fo,ZD1 (ZB5 _),hs2,ZA5,List.drop_left]
  have hr:tS s (pre.length:Int)=((x.size:Int),((lb (bY x.size)).length:Int)):=afP hx1 hex
  have xF:bM s ((pre.length:Int)+((lb (bY x.size)).length:Int)).toNat=58:=by
   rw [np,hs2,show ((pre.length:Int)+((lb (bY x.size)).length:Int)).toNat=pre.length+(lb (bY x.size)).length by omega]
   rw [ZC6 (by omega),Nat.add_sub_cancel_left,ZC6 (ZB5 _),Nat.sub_self]
   rfl
  have iC:qv s (pre.length:Int) (tS s (pre.length:Int))=false:=by
   rw [hr]
   exact aaa (decide_eq_false (by simp only;omega)) (decide_eq_false (by simp only;omega)) (decide_eq_false (by simp only;rw [xF];simp)) (decide_eq_false (by simp only;omega))
  rw [agU (decide_eq_true (by omega)) iC,hr]
  have ahG:s.extract ((pre.length:Int)+((lb (bY x.size)).length:Int)+1).toNat ((pre.length:Int)+((lb (bY x.size)).length:Int)+1+(x.size:Int)).toNat=x:=by
   refine vB ?_
   rw [mW,hs2]
   rw [show ((pre.length:Int)+((lb (bY x.size)).length:Int)+1+(x.size:Int)).toNat=pre.length+((lb (bY x.size)).length+(1+x.size)) by omega,show ((pre.length:Int)+((lb (bY x.size)).length:Int)+1).toNat=pre.length+((lb (bY x.size)).length+1) by omega]
   rw [List.take_length_add_append,ZF5,List.take_length_add_append,ZF5]
   rw [show 1+x.size=x.size+1 by omega,List.take_succ_cons,List.drop_succ_cons,ZF0,fo,List.take_left]
  show JA g s ((pre.length:Int)+((lb (bY x.size)).length:Int)+1+(x.size:Int)) _=_
  simp only
  rw [ahG]
  have:=Z5 (s:=s) (l:=l) (f:=g) (pre:=pre++(lb (bY x.size)++58::lb x)) (out:=out++[x]) (by rw [hs2];simp [ZD2]) (fun y hy=>hx y (by simp [hy])) (by simp at hf;omega)
  rw [show ((pre++(lb (bY x.size)++58::lb x)).length:Int)=(pre.length:Int)+((lb (bY x.size)).length:Int)+1+(x.size:Int) by simp only [ZA0,ZA1,←fo];omega] at this
  rw [this,ZD2];rfl
theorem UA:∀(l:List ByteArray),l.length≤(C9 l).length
 |[]=>ZB5 _
 |x::l=>by
  have:=UA l
  simp only [C9,ZA0,ZA1];omega
theorem I8 {l:List ByteArray}(h:(cF l).2=true):bw (cF l).1=(l,true):=by
 cases h60:decide ((l.length:Int)≤60) with
 |false=>rw [tR h60] at h;cases h
 |true=>
  have h0:=h
  rw [gF h60] at h
  obtain⟨e1,e2,e3⟩:=EA h
  rw [gF h60]
  generalize hs:(dB l ⟨#[]⟩).1=s at e1 e3 ⊢
  have e1:lb s=C9 l:=by simpa [adE] using e1
  have dj:s.size≤2048:=by
   rcases e3 with e3 |rfl
   ·exact e3
   ·rw [fo,e1];simp [C9]
  have hlen:=UA l
  have hg:=Z5 (s:=s) (l:=l) (f:=s.size+1) (pre:=[]) (out:=[]) (by simpa using e1) e2 (by rw [fo,e1];omega)
  unfold bw
  rw [decide_eq_true (by omega),cond_true]
  rw [show ((([]:List UInt8).length:Nat):Int)=0 from rfl] at hg
  rw [hg]
  show vM s ([]++l)=(l,true)
  rw [ZC9]
  unfold vM
  rw [h0,gF h60,hs]
  simp
theorem tD {n:fv}(h:cy n=true):bA (aC n)=(n,true):=by
 have hb:=ll h
 have hp:aC n=(cF [bY n.1,bY n.2.1,bY n.2.2.1,bc n.root,bY n.2.2.2.2.2.2.2.2.1,bY n.2.2.2.2.2.2.2.2.2,⟨#[101,110,100]⟩]).1:=by unfold aC;rw [h];rfl
 have hf:(cF [bY n.1,bY n.2.1,bY n.2.2.1,bc n.root,bY n.2.2.2.2.2.2.2.2.1,bY n.2.2.2.2.2.2.2.2.2,⟨#[101,110,100]⟩]).2=true:=by
  rw [gF rfl]
  refine D9 ?_
  have d1:=dc (n:=n.1) (by omega)
  have d2:=dc (n:=n.2.1) (by omega)
  have d3:=dc (n:=n.2.2.1) (by omega)
  have d4:=gv n.root
  have d5:=dc (n:=n.2.2.2.2.2.2.2.2.1) (by omega)
  have d6:=dc (n:=n.2.2.2.2.2.2.2.2.2) (by omega)
  simp only [ZE7,List.map_nil,List.sum_cons,List.sum_nil]
  rw [show (⟨#[101,110,100]⟩:ByteArray).size=3 from rfl,show (⟨#[]⟩:ByteArray).size=0 from rfl]
  omega
 have hg:=I8 hf
 rw [←hp] at hg
 have e1:=ew (n:=n.1) (by omega) (by omega)
 have e2:=ew (n:=n.2.1) (by omega) (by omega)
 have e3:=ew (n:=n.2.2.1) (by omega) (by omega)
 have e4:=nN hb.2.2.2.2.2.1
 have e5:=ew (n:=n.2.2.2.2.2.2.2.2.1) (by omega) (by omega)
 have e6:=ew (n:=n.2.2.2.2.2.2.2.2.2) (by omega) (by omega)
 have uA:mV [bY n.1,bY n.2.1,bY n.2.2.1,bc n.root,bY n.2.2.2.2.2.2.2.2.1,bY n.2.2.2.2.2.2.2.2.2,⟨#[101,110,100]⟩]=n:=by
  show ((aD (bY n.1)).1,(aD (bY n.2.1)).1,(aD (bY n.2.2.1)).1,(bQ (bc n.root)).1.1,(bQ (bc n.root)).1.2.1,(bQ (bc n.root)).1.2.2.1,(bQ (bc n.root)).1.2.2.2.1,(bQ (bc n.root)).1.2.2.2.2,(aD (bY n.2.2.2.2.2.2.2.2.1)).1,(aD (bY n.2.2.2.2.2.2.2.2.2)).1)=n
  rw [e1,e2,e3,e4,e5,e6]
 unfold bA
 rw [hg,uA,h]
 simp
end GL
namespace GL
abbrev at' (p:Pt):Nat:=p.1.toNat
def K0 (r:Nat) (p:Pt):Bool:= !(au p)&&decide (at' p=r)
def bo (l:List Pt) (r:Nat):Nat:=l.countP (K0 r)
theorem rv (r:Nat):bo [] r=0:=rfl
theorem bJ (l m:List Pt) (r:Nat):bo (l++m) r=bo l r+bo m r:=List.countP_append
theorem dQ (p:Pt) (l:List Pt) (r:Nat):bo (p::l) r=bo [p] r+bo l r:=bJ [p] l r
theorem PS {l m:List Pt}(h:l.Sublist m) (r:Nat):bo l r≤bo m r:=h.countP_le
theorem mc {p:Pt}(h:au p=true) (r:Nat):bo [p] r=0:=by
 simp [bo,K0,h]
theorem rP {p:Pt}(h:au p=false):bo [p] (at' p)=1:=by
 simp [bo,K0,h]
theorem yW {p:Pt}{r:Nat}(h:at' p≠r):bo [p] r=0:=by
 simp [bo,K0,h]
theorem aj9 (p:Pt) (r:Nat):bo [p] r≤1:=by
 have:bo [p] r≤[p].length:=List.countP_le_length
 simpa using this
theorem tZ {l:List Pt}{p:Pt}(hp:p∈l) (h:au p=false):0<bo l (at' p):=by
 unfold bo
 rw [List.countP_pos_iff]
 exact⟨p,hp,by simp [K0,h]⟩
theorem X1 (f:Pt→Bool) (l:List Pt) (r:Nat):bo (l.filter f) r≤bo l r:=PS List.filter_sublist r
def qL (s:ay) (r:Nat):Int:=nth ag s.refs r
structure Acc (s:ay) (O:Nat→Nat):Prop where
 wf:s.wf
 up:∀r,qL s r≤1000000
 cj:1≤s.cj∧s.cj≤1000000
 sl:∀r,((bo s.gone r+bo s.dead r+O r:Nat):Int)≤qL s r
 ok:∀p∈s.gone++s.dead,aZ p=true∧au p=false
theorem Acc.mono {s:ay}{O O':Nat→Nat}(h:Acc s O) (hO:∀r,O' r≤O r):Acc s O':=
 ⟨h.wf,h.up,h.cj,fun r=>by have:=h.sl r;have:=hO r;omega,h.ok⟩
def Kp (O:Nat→Nat) (s u:ay):Prop:=∀r,0<O r→nth ab u.rows r=nth ab s.rows r
theorem Kp.refl (O:Nat→Nat) (s:ay):Kp O s s:=fun _ _=>rfl
theorem Kp.trans {O:Nat→Nat}{a b c:ay}(h:Kp O a b) (h2:Kp O b c):Kp O a c:=fun r hr=>(h2 r hr).trans (h r hr)
theorem Kp.mono {O O':Nat→Nat}{a b:ay}(h:Kp O a b) (hO:∀r,O' r≤O r):Kp O' a b:=fun r hr=>h r (ZG1 hr (hO r))
structure dR (s u:ay):Prop where
 cj:u.cj=s.cj
 ca:u.ca=s.ca
 same:u.same=s.same
theorem dR.refl (s:ay):dR s s:=⟨rfl,rfl,rfl⟩
theorem dR.trans {a b c:ay}(h:dR a b) (h2:dR b c):dR a c:=⟨h2.cj.trans h.cj,h2.ca.trans h.ca,h2.same.trans h.same⟩
theorem iw {ek:EK}{l:List (EK.Ty ek)}{k r:Nat}{x:EK.Ty ek}(h:k≠r):nth ek (l.set k x) r=nth ek l r:=by
 unfold nth;rw [List.getElem?_set_ne h]
theorem tB {ek:EK}{l:List (EK.Ty ek)}{k:Nat}(h:l.length≤k):nth ek l k=EK.zero ek:=by
 unfold nth;rw [ZD8 h]
theorem FW {n:Int}(h0: -1000000000≤n) (h1:n≤1000000000):xx n=n:=oS (by simp only [gL];omega) (by simp only [imax];omega)
theorem sw {p:Pt}(h:aZ p=true):at' p<64:=by have:=pV h;unfold at';omega
theorem C3 {s:ay}{O O':Nat→Nat}{p:Pt}(h:Acc s O) (hp:aZ p=true) (hO:∀r,O' r+bo [p] r≤O r):Acc (cN s p) O'∧Kp O' s (cN s p)∧dR s (cN s p):=by
 have oP:=qt (p:=p) h.wf
 cases hh:au p with
 |true=>
  rw [yQ hh]
  exact⟨h.mono fun r=>by have:=hO r;omega,Kp.refl _ _,dR.refl _⟩
 |false=>
  cases h1:decide (p.2.1≤s.ca) with
  |true=>
   rw [yT hh h1] at oP ⊢
   refine⟨⟨oP,h.up,h.cj,fun r=>?_,fun q hq=>?_⟩,Kp.refl _ _,⟨rfl,rfl,rfl⟩⟩
   ·show ((bo s.gone r+bo (s.dead++[p]) r+O' r:Nat):Int)≤qL s r
    rw [bJ];have:=h.sl r;have:=hO r;omega
   ·have hq:q∈s.gone++(s.dead++[p]):=hq
    rw [←ZD2] at hq
    rcases ZB4.1 hq with hq |hq
    ·exact h.ok q hq
    ·rw [ZC7.1 hq];exact⟨hp,hh⟩
  |false=>
   cases h2:decide (p.2.1<s.cj) with
   |true=>
    rw [yR hh h1 h2] at oP ⊢
    refine⟨⟨oP,h.up,h.cj,fun r=>?_,fun q hq=>?_⟩,Kp.refl _ _,⟨rfl,rfl,rfl⟩⟩
    ·show ((bo (s.gone++[p]) r+bo s.dead r+O' r:Nat):Int)≤qL s r
     rw [bJ];have:=h.sl r;have:=hO r;omega
    ·have hq:q∈(s.gone++[p])++s.dead:=hq
     simp only [ZB4,ZC7] at hq
     rcases hq with (hq |hq) |hq
     ·exact h.ok q (by simp [hq])
     ·rw [hq];exact⟨hp,hh⟩
     ·exact h.ok q (by simp [hq])
   |false=>
    rw [yS hh h1 h2] at oP ⊢
    have xF:=sw hp
    have hlen:at' p<s.refs.length:=by rw [h.wf.n.2.1];exact xF
    have hsl:=h.sl (at' p)
    have hOa:=hO (at' p)
    rw [rP hh] at hOa
    have hup:=h.up (at' p)
    have hw:xx (qL s (at' p)-1)=qL s (at' p)-1:=FW (by omega) (by omega)
    have hrf:(gf s p.1.toNat).refs=s.refs.set (at' p) (qL s (at' p)-1):=by
     show s.refs.set (at' p) (xx (qL s (at' p)-1))=_
     rw [hw]
    have vH:∀r,qL (gf s p.1.toNat) r=qL s r-bo [p] r:=fun r=>by
     show nth ag (gf s p.1.toNat).refs r=nth ag s.refs r-_
     rw [hrf]
     by_cases e:at' p=r
     ·subst e;rw [ny (ek:=ag) hlen,rP hh];rfl
     ·rw [iw (ek:=ag) e,yW e];simp
    refine⟨⟨oP,fun r=>?_,h.cj,fun r=>?_,h.ok⟩,fun r hr=>?_,⟨rfl,rfl,rfl⟩⟩
    ·rw [vH];have:=h.up r;omega
    ·rw [vH]
     show ((bo s.gone r+bo s.dead r+O' r:Nat):Int)≤_
     have:=h.sl r;have:=hO r;omega
    ·show nth ab (bif uE s p.1.toNat then s.rows.set p.1.toNat ByteArray.empty else s.rows) r=_
     cases hb:uE s p.1.toNat with
     |false=>rfl
     |true=>
      have hz:qL (gf s p.1.toNat) (at' p)=0:=aJ hb
      rw [vH,rP hh] at hz
      by_cases e:at' p=r
      ·subst e;omega
      ·exact iw (ek:=ab) e
theorem yO:∀{l:List Pt}{s:ay}{O O':Nat→Nat},Acc s O→(∀p∈l,aZ p=true)→(∀r,O' r+bo l r≤O r)→Acc (l.foldl cN s) O'∧Kp O' s (l.foldl cN s)∧dR s (l.foldl cN s)
 |[],s,O,O',h,_,hO=>⟨h.mono fun r=>by have:=hO r;rw [rv] at this;omega,Kp.refl _ _,dR.refl _⟩
 |p::l,s,O,O',h,hl,hO=>by
  have h1:=C3 (O':=fun r=>O' r+bo l r) h (hl p (by simp)) (fun r=>by have:=hO r;rw [dQ] at this;show O' r+bo l r+_≤_;omega)
  have h2:=yO (l:=l) (O':=O') h1.1 (fun q hq=>hl q (by simp [hq])) (fun r=>ZB5 _)
  exact⟨h2.1,(h1.2.1.mono fun r=>ZD3 _ _).trans h2.2.1,h1.2.2.trans h2.2.2⟩
theorem I7:∀(f i:Nat) (rf:List Int),findF f i rf= -1∨nth ag rf (findF f i rf).toNat=0
 |0,_,_=>.inl rfl
 |f+1,i,rf=>by
  unfold findF
  cases hd:decide (nth ag rf i=0) with
  |true=>right;simp only [cond_true,ZA5];exact aJ hd
  |false=>exact I7 f (i+1) rf
theorem H3:∀(f i:Nat) (s:ay) (text:ByteArray),sC f i s text= -1∨vx s text (sC f i s text).toNat=true
 |0,_,_,_=>.inl rfl
 |f+1,i,s,text=>by
  unfold sC
  cases hd:vx s text i with
  |true=>right;simp only [cond_true,ZA5];exact hd
  |false=>exact H3 f (i+1) s text
theorem NO (s:ay) (text:ByteArray) (lv:Int):db s text lv<0∨(8≤db s text lv∧db s text lv<64)∧(nth ag s.refs (db s text lv).toNat=0∨nth ab s.rows (db s text lv).toNat=text∧nth ag s.refs (db s text lv).toNat<s.cj):=by
 have hf:oj s.refs<0∨(8≤oj s.refs∧oj s.refs<64)∧nth ag s.refs (oj s.refs).toNat=0:=by
  rcases TX s.refs with h |h
  ·left;omega
  ·right
   refine⟨h,?_⟩
   rcases I7 56 8 s.refs with h2 |h2
   ·have:oj s.refs= -1:=h2
    omega
   ·exact h2
 have key:∀a,a=oj s.refs→a<0∨(8≤a∧a<64)∧(nth ag s.refs a.toNat=0∨nth ab s.rows a.toNat=text∧nth ag s.refs a.toNat<s.cj):=fun a e=>by
  rw [e]
  rcases hf with h |h
  ·exact .inl h
  ·exact .inr ⟨h.1,.inl h.2⟩
 cases h1:s.same with
 |false=>exact key _ (wq h1)
 |true=>
  cases h2:decide (lv=0) with
  |false=>exact key _ (wu h2)
  |true=>
   cases h3:decide (rj s text<0) with
   |true=>exact key _ (wv h1 h2 h3)
   |false=>
    rw [AZ h1 h2 h3]
    have h3:=aA h3
    right
    rcases SS s text with h |h
    ·omega
    ·refine⟨h,.inr ?_⟩
     rcases H3 56 8 s text with h4 |h4
     ·have:rj s text= -1:=h4
      omega
     ·have h4:vx s text (rj s text).toNat=true:=h4
      unfold vx at h4
      simp only [ZA9,decide_eq_true_eq] at h4
      exact⟨h4.1,h4.2.2⟩
structure aj2 (s u:ay) (p:Pt) (text:ByteArray) (lv:Int):Prop where
 ok:aZ p=true
 nh:au p=false
 lv:p.2.2.2.2=lv
 EJ:p.2.1=s.cj
 row:nth ab u.rows (at' p)=text
 fits:iZ p text=true
theorem xL {s:ay}{O:Nat→Nat}{text:ByteArray}{lv:Int}(h:Acc s O) (hz:(bd s text lv).2.2=true):
  Acc (bd s text lv).1 (fun r=>O r+bo [(bd s text lv).2.1] r)∧Kp O s (bd s text lv).1∧dR s (bd s text lv).1∧(bd s text lv).1.gone=s.gone∧(bd s text lv).1.dead=s.dead∧aj2 s (bd s text lv).1 (bd s text lv).2.1 text lv:=by
 have oP:=AY (text:=text) (lv:=lv) h.wf
 cases hd:decide (db s text lv<0) with
 |true=>rw [nD rfl hd] at hz;cases hz
 |false=>
  cases h2: !(gw (db s text lv) s.cj lv text).2 with
  |true=>rw [mC rfl hd h2] at hz;cases hz
  |false=>
   rw [pb rfl hd h2] at oP ⊢
   have hd:=aA hd
   have h2:=oJ h2
   have hw:=NO s text lv
   generalize ha:db s text lv=a at *
   have hpo:iB text.size 1 128=true∧aZ (a,s.cj,(text.size:Int),qQ text,lv)=true:=by
    cases hi:iB text.size 1 128 with
    |false=>rw [BX hi] at h2;cases h2
    |true=>cases hj:aZ (a,s.cj,(text.size:Int),qQ text,lv) with
     |false=>rw [BW hj] at h2;cases h2
     |true=>exact⟨rfl,rfl⟩
   rw [BV hpo.1 hpo.2] at *
   obtain⟨⟨h8,h64⟩,sH⟩:=hw.resolve_left hd
   have hnh:au (a,s.cj,(text.size:Int),qQ text,lv)=false:=by
    unfold au;rw [decide_eq_false (by show¬a=0;omega)];rfl
   have hlr:a.toNat<s.refs.length:=by rw [h.wf.n.2.1];omega
   have bV:a.toNat<s.rows.length:=by rw [h.wf.n.1];omega
   have hup:=h.up a.toNat
   have hsl:=h.sl a.toNat
   have hw2:xx (qL s a.toNat+1)=qL s a.toNat+1:=FW (by omega) (by omega)
   have sH:qL s a.toNat=0∨nth ab s.rows a.toNat=text∧qL s a.toNat<s.cj:=sH
   have vH:∀r,qL (uR s text a.toNat) r=qL s r+bo [((a,s.cj,(text.size:Int),qQ text,lv):Pt)] r:=fun r=>by
    show nth ag (s.refs.set a.toNat (xx (qL s a.toNat+1))) r=nth ag s.refs r+_
    rw [hw2]
    by_cases e:a.toNat=r
    ·subst e
     rw [ny (ek:=ag) hlr]
     rw [show bo [((a,s.cj,(text.size:Int),qQ text,lv):Pt)] a.toNat=1 from rP hnh];rfl
    ·rw [iw (ek:=ag) e,yW (p:=(a,s.cj,(text.size:Int),qQ text,lv)) e];simp
   refine⟨⟨oP,fun r=>?_,h.cj,fun r=>?_,h.ok⟩,fun r hr=>?_,⟨rfl,rfl,rfl⟩,rfl,rfl,⟨hpo.2,hnh,rfl,rfl,?_,?_⟩⟩
   ·rw [vH]
    by_cases e:a.toNat=r
    ·subst e
     rw [show bo [((a,s.cj,(text.size:Int),qQ text,lv):Pt)] a.toNat=1 from rP hnh]
     have:=h.cj
     rcases sH with hc |hc<;>omega
    ·rw [yW (p:=(a,s.cj,(text.size:Int),qQ text,lv)) e];have:=h.up r;omega
   ·rw [vH]
    show ((bo s.gone r+bo s.dead r+(O r+bo [((a,s.cj,(text.size:Int),qQ text,lv):Pt)] r):Nat):Int)≤_
    have:=h.sl r;omega
   ·show nth ab (s.rows.set a.toNat text) r=_
    by_cases e:a.toNat=r
    ·subst e
     rw [ny (ek:=ab) bV]
     rcases sH with hc |hc
     ·omega
     ·exact hc.1.symm
    ·exact iw (ek:=ab) e
   ·exact ny (ek:=ab) bV
   ·unfold iZ
    rw [hpo.2,hnh]
    simp
end GL
end Go.Proofs.YtkgpljpmdkflmaaGreatDoor
