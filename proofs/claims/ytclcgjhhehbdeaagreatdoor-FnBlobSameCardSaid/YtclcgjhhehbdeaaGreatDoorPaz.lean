/- A drawn law returns true for every code (its row lists package variables, tied by the card): part 26. -/
import Derived.Test.YtclcgjhhehbdeaaGreatDoorPar
import Derived.Test.YtclcgjhhehbdeaaGreatDoorPat
set_option maxHeartbeats 20000000
set_option maxRecDepth 100000
set_option linter.all false
namespace Go.Proofs.YtclcgjhhehbdeaaGreatDoor
namespace GL
abbrev lb (s:ByteArray):List UInt8:=s.data.toList
theorem vq {s t:ByteArray}(h:lb s=lb t):s=t:=by
 cases s;cases t;simp only [lb] at h;congr 1;exact Array.toList_inj.1 h
theorem wH (s t:ByteArray):lb (s++t)=lb s++lb t:=by
 show (s++t).data.toList=_
 rw [ByteArray.data_append,Array.toList_append]
theorem fm (s:ByteArray):s.size=(lb s).length:=by
 show s.data.size=s.data.toList.length
 rw [ZE4]
theorem adA:lb ⟨#[]⟩=[]:=rfl
theorem aiV:lb ByteArray.empty=[]:=rfl
theorem mP (s:ByteArray) (a b:Nat):lb (s.extract a b)=((lb s).take b).drop a:=by
 simp only [lb,ByteArray.data_extract,Array.toList_extract]
 rw [List.extract_eq_take_drop,List.drop_take]
theorem na (s:ByteArray) (k:Nat):bL s k=(match (lb s)[k]? with |some b=>(b.toNat:Int) |none=>0):=by
 unfold bL
 have e:s[k]?=(lb s)[k]?:=by
  by_cases h:k<s.size
  ·have h':k<(lb s).length:=by rw [←fm];exact h
   rw [getElem?_pos s k h,ZB1 h']
   rfl
  ·have h':¬k<(lb s).length:=by rw [←fm];exact h
   rw [getElem?_neg s k h,ZD8 (by omega)]
 rw [e]
 cases (lb s)[k]?<;>rfl
theorem SY:∀(l:List Int) (r:ByteArray),lb (l.foldl (fun r n=>r.push (UInt8.ofNat n.toNat)) r)=lb r++l.map (fun n=>UInt8.ofNat n.toNat)
 |[],r=>by simp
 |n::l,r=>by
  rw [List.foldl_cons,SY l]
  simp [lb,ByteArray.push]
theorem L1 (l:List Int):lb (eZ l)=l.map (fun n=>UInt8.ofNat n.toNat):=by
 rw [eZ,SY];rfl
def me (c:UInt8):List UInt8→List (List UInt8)
 |[]=>[[]]
 |x::l=>if x=c then []::me c l else
  match me c l with
  |h::t=>(x::h)::t
  |[]=>[[x]]
theorem rX (c x:UInt8) (l:List UInt8):me c (x::l)=if x=c then []::me c l else
  match me c l with
  |h::t=>(x::h)::t
  |[]=>[[x]]:=rfl
theorem zb (c:UInt8) (l:List UInt8):me c l≠[]:=by
 cases l with
 |nil=>simp [me]
 |cons x l=>
  unfold me;split
  ·simp
  ·split<;>simp
theorem wq (c x:UInt8):∀(l:List UInt8) (a:List (List UInt8)) (r:List UInt8),me c l=a++[r]→me c (l++[x])=if x=c then a++[r]++[[]] else a++[r++[x]]
 |[],a,r,h=>by
  have h:[[]]=a++[r]:=h
  cases a with
  |nil=>
   simp only [ZC9,ZG6,and_true] at h
   subst h
   by_cases hx:x=c
   ·simp [me,hx]
   ·simp [me,hx]
  |cons y a=>simp at h
 |y::l,a,r,h=>by
  rw [ZG4]
  rw [rX] at h ⊢
  by_cases hy:y=c
  ·rw [if_pos hy] at h ⊢
   cases a with
   |nil=>
    simp only [ZC9,ZG6] at h
    exact absurd h.2 (zb c l)
   |cons z a=>
    simp only [ZG4,ZG6] at h
    obtain⟨hz,h⟩:=h
    rw [wq c x l a r h,←hz]
    by_cases hx:x=c<;>simp [hx]
  ·rw [if_neg hy] at h ⊢
   cases e:me c l with
   |nil=>exact absurd e (zb c l)
   |cons w t=>
    rw [e] at h
    cases a with
    |nil=>
     simp only [ZC9,ZG6] at h
     obtain⟨hr,ht⟩:=h
     subst ht
     have:=wq c x l [] w (by simpa using e)
     rw [this,←hr]
     by_cases hx:x=c<;>simp [hx]
    |cons z a=>
     simp only [ZG4,ZG6] at h
     obtain⟨hz,ht⟩:=h
     have:=wq c x l (w::a) r (by rw [e,ht];rfl)
     rw [this,←hz]
     by_cases hx:x=c<;>simp [hx]
theorem y8 {s:ByteArray}{k:Nat}(h:k<(lb s).length):(lb s).take (k+1)=(lb s).take k++[(lb s)[k]]:=by
 rw [List.take_add_one,ZB1 h];rfl
theorem M8 (s:ByteArray) (c:UInt8):∀k,k≤(lb s).length→(iX s c.toNat k).2≤k∧me c ((lb s).take k)=(iX s c.toNat k).1.map lb++[((lb s).take k).drop (iX s c.toNat k).2]
 |0,_=>⟨ZB5 _,by simp [iX,me]⟩
 |k+1,hk=>by
  obtain⟨h1,h2⟩:=M8 s c k (by omega)
  have bU:k<(lb s).length:=by omega
  have hb:bL s k=(((lb s)[k]).toNat:Int):=by rw [na,ZB1 bU]
  have hs:=wq c ((lb s)[k]) _ _ _ h2
  rw [y8 bU,hs]
  rw [show iX s ((c.toNat:Nat):Int) (k+1)=bif decide (bL s k=((c.toNat:Nat):Int)) then ((iX s c.toNat k).1++[s.extract (iX s c.toNat k).2 k],k+1) else iX s c.toNat k from rfl]
  have hd:decide (bL s k=((c.toNat:Nat):Int))=decide ((lb s)[k]=c):=by
   rw [hb]
   by_cases e:(lb s)[k]=c
   ·simp [e]
   ·have:¬(((lb s)[k]).toNat:Int)=(c.toNat:Int):=fun h=>e (UInt8.toNat_inj.1 (by omega))
    rw [decide_eq_false this,decide_eq_false e]
  rw [hd]
  by_cases e:(lb s)[k]=c
  ·rw [decide_eq_true e,if_pos e]
   simp only [cond_true]
   refine⟨ZB5 _,?_⟩
   rw [List.map_append,ZE7,List.map_nil,mP]
   congr 1
   have:((lb s).take k++[(lb s)[k]]).length=k+1:=by rw [ZA0,ZC0,List.length_singleton];omega
   rw [ZB3 (ZA8 this)]
  ·rw [decide_eq_false e,if_neg e]
   simp only [cond_false]
   refine⟨by omega,?_⟩
   congr 2
   rw [List.drop_append_of_le_length (by rw [ZC0];omega)]
theorem JL (s:ByteArray) (c:UInt8):(bm s c.toNat).map lb=me c (lb s):=by
 have h:=M8 s c (lb s).length (ZB5 _)
 rw [ZD1 (ZB5 _)] at h
 rw [h.2,bm,List.map_append,ZE7,List.map_nil,mP,fm]
 rw [ZD1 (ZB5 _)]
theorem ly (c:UInt8):∀(a b:List UInt8),me c (a++c::b)=me c a++me c b
 |[],b=>by simp [me]
 |x::a,b=>by
  rw [ZG4]
  have ih:=ly c a b
  rw [rX,rX]
  by_cases hx:x=c
  ·rw [if_pos hx,if_pos hx,ih];rfl
  ·rw [if_neg hx,if_neg hx,ih]
   cases e:me c a with
   |nil=>exact absurd e (zb c a)
   |cons h t=>rfl
theorem gi (c:UInt8):∀(a:List UInt8),c∉a→me c a=[a]
 |[],_=>rfl
 |x::a,h=>by
  have hx:¬x=c:=fun e=>h (by simp [e])
  rw [rX,if_neg hx,gi c a (fun hh=>h (by simp [hh]))]
theorem mQ {k:Nat}(h:k<10):lb (dec k)=[UInt8.ofNat (48+k)]:=by
 rw [dec_lt h,L1]
 simp only [ZE7,List.map_nil]
 congr 2
theorem o6 {k:Nat}(h:¬k<10):lb (dec k)=lb (dec (k / 10))++[UInt8.ofNat (48+k % 10)]:=by
 rw [XU h,wH,L1]
 simp only [ZE7,List.map_nil]
 congr 3
theorem sn {d:Nat}(h:d<10):(UInt8.ofNat (48+d)).toNat=48+d:=by
 rw [UInt8.toNat_ofNat'];omega
theorem tR:∀(k:Nat),∀b∈lb (dec k),48≤b.toNat∧b.toNat≤57:=by
 intro k
 induction k using Nat.strongRecOn with
 |_ k ih=>
  intro b hb
  by_cases h:k<10
  ·rw [mQ h] at hb
   rw [ZC7.1 hb,sn h];omega
  ·rw [o6 h] at hb
   rcases ZB4.1 hb with hb |hb
   ·exact ih (k / 10) (by omega) b hb
   ·rw [ZC7.1 hb,sn (by omega)];omega
theorem w0:∀(k:Nat),∃b l,lb (dec k)=b::l∧(b.toNat=48→l=[]):=by
 intro k
 induction k using Nat.strongRecOn with
 |_ k ih=>
  by_cases h:k<10
  ·exact⟨_,_,mQ h,fun _=>rfl⟩
  ·obtain⟨b,l,e,hb⟩:=ih (k / 10) (by omega)
   refine⟨b,l++[UInt8.ofNat (48+k % 10)],by rw [o6 h,e];rfl,fun h48=>?_⟩
   exfalso
   have hl:=hb h48
   subst hl
   by_cases h2:k / 10<10
   ·rw [mQ h2] at e
    simp only [ZG6,and_true] at e
    have:=sn h2
    rw [e] at this
    omega
   ·rw [o6 h2] at e
    have:=congrArg List.length e
    have h3:1≤(lb (dec (k / 10 / 10))).length:=by
     obtain⟨b',l',e',_⟩:=ih (k / 10 / 10) (by omega)
     rw [e'];simp
    simp only [ZA0,ZA1,ZA4] at this
    omega
def qH (l:List UInt8):Int:=l.foldl (fun n b=>10*n+((b.toNat:Int)-48)) 0
theorem wk (l:List UInt8) (b:UInt8):qH (l++[b])=10*qH l+((b.toNat:Int)-48):=by simp [qH]
theorem P5:∀(k:Nat),qH (lb (dec k))=k:=by
 intro k
 induction k using Nat.strongRecOn with
 |_ k ih=>
  by_cases h:k<10
  ·rw [mQ h]
   have:=sn h
   simp only [qH,List.foldl_cons,List.foldl_nil];omega
  ·rw [o6 h,wk,ih (k / 10) (by omega),sn (by omega)];omega
theorem B8 (s:ByteArray):∀k,k≤(lb s).length→iL s k=qH ((lb s).take k)
 |0,_=>by simp [iL,qH]
 |k+1,h=>by
  have bU:k<(lb s).length:=by omega
  rw [y8 bU,wk,iL,B8 s k (by omega),na,ZB1 bU]
theorem ZD {s:ByteArray}:∀{j f k:Nat},j+k≤9→f+k=9→(∀i,k≤i→i<k+j→C5 s i=true)→ss f s k=ss (f-j) s (k+j)
 |0,f,k,_,_,_=>by rw [Nat.sub_zero];rfl
 |j+1,f,k,h,hf,hd=>by
  obtain⟨g,rfl⟩:∃g,f=g+1:=⟨f-1,by omega⟩
  rw [ss,hd k (ZB5 _) (by omega),cond_true,ZD (j:=j) (by omega) (by omega) (fun i h1 h2=>hd i (by omega) (by omega))]
  rw [show g+1-(j+1)=g-j by omega,show k+1+j=k+(j+1) by omega]
theorem ZK {s:ByteArray}{n:Nat}{rest:List UInt8}(hn:n<1000000000) (hs:lb s=lb (dec n)++rest) (hr:∀b,rest.head?=some b→¬(48≤b.toNat∧b.toNat≤57)):CI s=((n:Int),((lb (dec n)).length:Int)):=by
 have hlen:(lb (dec n)).length≤9:=by rw [←fm];exact JG 8 n (by show n<10 ^ 9;omega)
 have dj:s.size=(lb (dec n)).length+rest.length:=by rw [fm,hs,ZA0]
 have xy:∀i,i<(lb (dec n)).length→bL s i=(match (lb (dec n))[i]? with |some b=>(b.toNat:Int) |none=>0):=fun i hi=>by
  rw [na,hs,ZC2 hi]
 have af2:∀i,i<(lb (dec n)).length→C5 s i=true:=fun i hi=>by
  have h1:=xy i hi
  rw [ZB1 hi] at h1
  have h2:=tR n _ (List.getElem_mem hi)
  have h3:bL s i=(((lb (dec n))[i]).toNat:Int):=h1
  unfold C5
  rw [decide_eq_true (by omega),decide_eq_true (by omega),decide_eq_true (by omega),decide_eq_true (by omega)];rfl
 have ai4:C5 s (lb (dec n)).length=false:=by
  cases adZ:rest with
  |nil=>
   rw [adZ] at dj
   exact agV (decide_eq_false (by rw [dj];simp))
  |cons b r=>
   have hb:=hr b (by rw [adZ];rfl)
   have h1:bL s (lb (dec n)).length=(b.toNat:Int):=by
    rw [na,hs,ZC6 (ZB5 _),Nat.sub_self,adZ];rfl
   unfold C5
   by_cases h48:48≤b.toNat
   ·rw [decide_eq_false (p:=bL s (lb (dec n)).length≤57) (by omega),ZD7,ZD7,ZD7]
   ·rw [decide_eq_false (p:=bL s (lb (dec n)).length≥48) (by omega),Bool.false_and,ZD7,ZD7]
 have hnl:cW s=(lb (dec n)).length:=by
  refine SW hlen ai4 ?_
  have:=ZD (s:=s) (j:=(lb (dec n)).length) (f:=9) (k:=0) (by omega) (by omega) (fun i _ h2=>af2 i (by omega))
  rw [ZA6] at this
  exact this.symm
 have afT:iL s (lb (dec n)).length=n:=by
  rw [B8 s _ (by rw [hs,ZA0];omega),hs,List.take_append_of_le_length (ZB5 _),ZD1 (ZB5 _),P5]
 by_cases h1:1<(lb (dec n)).length
 ·obtain⟨b,l,e,hb⟩:=w0 n
  have h0:bL s 0=(b.toNat:Int):=by rw [xy 0 (by omega),e];rfl
  have h2:¬b.toNat=48:=fun h=>by
   have:=hb h;rw [e,this] at h1;simp at h1
  rw [agD hnl (decide_eq_false (by omega)),afT]
 ·rw [agE hnl (decide_eq_false (by omega)),afT]
theorem SC {n:Nat}(hn:n<1000000000):aD (dec n)=((n:Int),true):=by
 have h:=ZK (s:=dec n) (rest:=[]) hn (by simp) (by simp)
 have oQ:1≤(lb (dec n)).length:=by obtain⟨b,l,e,_⟩:=w0 n;rw [e];simp
 unfold aD
 rw [h]
 simp only
 rw [decide_eq_false (p:=((lb (dec n)).length:Int)=0) (by omega),decide_eq_false (p:=((lb (dec n)).length:Int)≠((dec n).size:Int)) (by rw [fm];simp)];rfl
theorem et {n:Int}(h0:0≤n) (hn:n<1000000000):aD (bX n)=(n,true):=by
 unfold bX
 rw [SC (by omega),show ((n.toNat:Nat):Int)=n by omega]
theorem aeP {n:Nat}{c:UInt8}(hc:¬(48≤c.toNat∧c.toNat≤57)):c∉lb (dec n):=fun h=>hc (tR n c h)
end GL
namespace GL
theorem yu:∀{l m:List ByteArray},l.map lb=m.map lb→l=m
 |[],[],_=>rfl
 |[],_::_,h=>by cases h
 |_::_,[],h=>by cases h
 |x::l,y::m,h=>by
  simp only [ZE7,ZG6] at h
  rw [vq h.1,yu h.2]
theorem aal {s:ByteArray}{l:List ByteArray}(c:UInt8) (h:me c (lb s)=l.map lb):bm s c.toNat=l:=
 yu ((JL s c).trans h)
theorem pg {n:Int}{c:UInt8}(hc:¬(48≤c.toNat∧c.toNat≤57)):c∉lb (bX n):=aeP hc
theorem M7 (n:Int):∃b l,lb (bX n)=b::l∧48≤b.toNat∧b.toNat≤57:=by
 obtain⟨b,l,e,_⟩:=w0 n.toNat
 exact⟨b,l,e,tR n.toNat b (by rw [e];simp)⟩
theorem wG {p:Pt}(h:aZ p=true) (h2:au p=false):lb (bc p)=lb (bX p.1)++46::(lb (bX p.2.1)++46::(lb (bX p.2.2.1)++46::(lb (bX p.2.2.2.1)++46::lb (bX p.2.2.2.2)))):=by
 unfold bc
 rw [h,h2]
 simp only [cond_true,cond_false,wH]
 simp only [ZD2]
 rfl
theorem qR {p:Pt}(h2:au p=true):bc p=⟨#[45]⟩:=by
 have h:aZ p=true:=by unfold aZ;rw [h2];rfl
 unfold bc;rw [h,h2];rfl
theorem iq {p:Pt}(h:au p=true):p=bM:=by
 unfold au at h
 simp only [ZA9,decide_eq_true_eq] at h
 obtain⟨a,b,c,d,e⟩:=p
 obtain⟨h1,h2,h3,h4,h5⟩:=h
 simp only at h1 h2 h3 h4 h5
 subst h1 h2 h3 h4 h5;rfl
theorem RG {p:Pt}{c:UInt8}(h:aZ p=true) (hc:¬(48≤c.toNat∧c.toNat≤57)) (h1:c≠46) (h2:c≠45):c∉lb (bc p):=by
 cases hh:au p with
 |true=>rw [qR hh];show c∉[45];simp [h2]
 |false=>
  rw [wG h hh]
  simp only [ZB4,ZB8,not_or]
  exact⟨pg hc,h1,pg hc,h1,pg hc,h1,pg hc,h1,pg hc⟩
theorem nG {p:Pt}(h:aZ p=true):bP (bc p)=(p,true):=by
 cases hh:au p with
 |true=>rw [qR hh,wz (by decide),iq hh]
 |false=>
  have hl:=wG h hh
  obtain⟨b,l,e,hb1,hb2⟩:=M7 p.1
  have fy:¬bc p=⟨#[45]⟩:=fun heq=>by
   rw [heq,e] at hl
   have:(45:UInt8)=b:=by
    have h1:=congrArg List.head? hl
    rw [show lb ⟨#[45]⟩=[45] from rfl,ZG4] at h1
    exact ZG5 h1
   rw [←this] at hb1;exact absurd hb1 (by decide)
  have h46:∀n:Int,(46:UInt8)∉lb (bX n):=fun n=>pg (by decide)
  have TJ:bm (bc p) 46=[bX p.1,bX p.2.1,bX p.2.2.1,bX p.2.2.2.1,bX p.2.2.2.2]:=by
   refine aal 46 ?_
   rw [hl,ly,ly,ly,ly,gi _ _ (h46 _),gi _ _ (h46 _),gi _ _ (h46 _),gi _ _ (h46 _),gi _ _ (h46 _)]
   rfl
  have hbd:=pO h
  rw [r6 (decide_eq_false fy) (by rw [TJ];rfl),TJ]
  have e1:=et (n:=p.1) (by omega) (by omega)
  have e2:=et (n:=p.2.1) (by omega) (by omega)
  have e3:=et (n:=p.2.2.1) (by omega) (by omega)
  have e4:=et (n:=p.2.2.2.1) (by omega) (by omega)
  have e5:=et (n:=p.2.2.2.2) (by omega) (by omega)
  have hn:k9 [bX p.1,bX p.2.1,bX p.2.2.1,bX p.2.2.2.1,bX p.2.2.2.2] []=some [p.1,p.2.1,p.2.2.1,p.2.2.2.1,p.2.2.2.2]:=by
   simp [k9,e1,e2,e3,e4,e5]
  rw [BT hn]
  exact G1 (n:=[p.1,p.2.1,p.2.2.1,p.2.2.2.1,p.2.2.2.2]) (by show (!(aZ p))=false;rw [h];rfl) hh
theorem lZ {l:List Pt}(h:(bE l).2=true):∃a b c d,l=[a,b,c,d]∧aZ a=true∧aZ b=true∧aZ c=true∧aZ d=true∧(false|| !(au a)|| !(au b)|| !(au c)|| !(au d))=true∧lb (bE l).1=lb (bc a)++44::(lb (bc b)++44::(lb (bc c)++44::lb (bc d))):=by
 cases h4:decide ((l.length:Int)≠4) with
 |true=>rw [wU h4] at h;cases h
 |false=>
  have hl:l.length=4:=by have:=aA h4;omega
  rw [wT h4] at h ⊢
  match l,hl with
  |[a,b,c,d],_=>
   refine⟨a,b,c,d,rfl,?_⟩
   cases ha:aZ a with
   |false=>rw [pd (by simp [gW,ha])] at h;cases h
   |true=>cases hb:aZ b with
    |false=>rw [pd (by simp [gW,ha,hb])] at h;cases h
    |true=>cases hc:aZ c with
     |false=>rw [pd (by simp [gW,ha,hb,hc])] at h;cases h
     |true=>cases hd:aZ d with
      |false=>rw [pd (by simp [gW,ha,hb,hc,hd])] at h;cases h
      |true=>
       have e:gW [a,b,c,d] 0 ⟨#[]⟩ false=some ((⟨#[]⟩++bc a)++⟨#[44]⟩++bc b++⟨#[44]⟩++bc c++⟨#[44]⟩++bc d,(false|| !(au a)|| !(au b)|| !(au c)|| !(au d))):=by
        simp [gW,ha,hb,hc,hd]
       rw [sB e] at h ⊢
       cases hs: !(false|| !(au a)|| !(au b)|| !(au c)|| !(au d)) with
       |true=>rw [C1 hs] at h;cases h
       |false=>
        rw [wV hs]
        refine⟨rfl,rfl,rfl,rfl,oD hs,?_⟩
        simp only [wH,adA,ZC9,ZD2]
        rfl
theorem D8 {l:List Pt}(h:(bE l).2=true):bl (bE l).1=(l,true):=by
 obtain⟨a,b,c,d,rfl,ha,hb,hc,hd,hs,hl⟩:=lZ h
 have h44:∀p:Pt,aZ p=true→(44:UInt8)∉lb (bc p):=fun p hp=>RG hp (by decide) (by decide) (by decide)
 have TJ:bm (bE [a,b,c,d]).1 44=[bc a,bc b,bc c,bc d]:=by
  refine aal 44 ?_
  rw [hl,ly,ly,ly,gi _ _ (h44 a ha),gi _ _ (h44 b hb),gi _ _ (h44 c hc),gi _ _ (h44 d hd)]
  rfl
 have e:ob (bm (bE [a,b,c,d]).1 44) [] false=some ([a,b,c,d],false|| !(au a)|| !(au b)|| !(au c)|| !(au d)):=by
  rw [TJ]
  simp [ob,nG ha,nG hb,nG hc,nG hd]
 rw [jU e]
 exact vI rfl (by rw [hs];rfl)
theorem vG {l:List Pt}(h4:l.length=4) (cG:∀p∈l,aZ p=true) (hn:(!(l.any fun p=> !(au p)))=false):(bE l).2=true:=by
 match l,h4 with
 |[a,b,c,d],_=>
  have ha:=cG a (by simp);have hb:=cG b (by simp);have hc:=cG c (by simp);have hd:=cG d (by simp)
  have e:gW [a,b,c,d] 0 ⟨#[]⟩ false=some ((⟨#[]⟩++bc a)++⟨#[44]⟩++bc b++⟨#[44]⟩++bc c++⟨#[44]⟩++bc d,(false|| !(au a)|| !(au b)|| !(au c)|| !(au d))):=by
   simp [gW,ha,hb,hc,hd]
  rw [wT rfl,sB e,wV]
  simp only [List.any_cons,List.any_nil,Bool.not_eq_false'] at hn
  rw [Bool.or_false] at hn
  simp only [Bool.false_or,Bool.or_assoc];rw [hn];rfl
def C4:List ByteArray→List UInt8
 |[]=>[]
 |x::l=>lb (bX x.size)++58::(lb x++C4 l)
theorem D5:∀{l:List ByteArray}{out:ByteArray},(dA l out).2=true→lb (dA l out).1=lb out++C4 l∧(∀x∈l,x.size≤2048)∧((dA l out).1.size≤2048∨l=[])
 |[],out,_=>⟨by simp [dA,C4],by simp,.inr rfl⟩
 |x::l,out,h=>by
  unfold dA at h ⊢
  cases h1:decide ((x.size:Int)>2048) with
  |true=>rw [h1] at h;cases h
  |false=>
   rw [h1] at h
   simp only [cond_false] at h ⊢
   cases h2:decide (((out++bX x.size++⟨#[58]⟩++x).size:Int)>2048) with
   |true=>rw [h2] at h;cases h
   |false=>
    rw [h2] at h
    simp only [cond_false] at h ⊢
    obtain⟨e1,e2,e3⟩:=D5 h
    refine⟨?_,?_,.inl ?_⟩
    ·rw [e1]
     simp only [wH,C4,ZD2]
     rfl
    ·intro y hy
     rcases ZB8.1 hy with rfl |hy
     ·have:=aA h1;omega
     ·exact e2 y hy
    ·rcases e3 with e3 |rfl
     ·exact e3
     ·have:=aA h2
      show (dA [] _).1.size≤2048
      simp only [dA];omega
theorem D4:∀{l:List ByteArray}{out:ByteArray},out.size+(l.map fun x=>x.size+13).sum≤2048→(dA l out).2=true
 |[],_,_=>rfl
 |x::l,out,h=>by
  simp only [ZE7,List.sum_cons] at h
  have hd:=db (n:=(x.size:Int)) (by omega)
  have dj:(out++bX x.size++⟨#[58]⟩++x).size=out.size+(bX x.size).size+1+x.size:=by
   simp only [ZB2];rfl
  unfold dA
  rw [decide_eq_false (by omega),cond_false,decide_eq_false (by rw [dj];omega),cond_false]
  exact D4 (by rw [dj];omega)
theorem afN {s:ByteArray}{x:ByteArray}{tail:List UInt8}(hx:x.size≤2048) (hs:lb s=lb (bX x.size)++58::tail):CI s=((x.size:Int),((lb (bX x.size)).length:Int)):=by
 have:=ZK (s:=s) (n:=x.size) (rest:=58::tail) (by omega) hs (fun b hb=>by
  simp only [List.head?_cons,Option.some.injEq] at hb
  rw [←hb];decide)
 exact this
theorem Z1 {s:ByteArray}:∀{l:List ByteArray}{f:Nat}{pre:List UInt8}{out:List ByteArray},lb s=pre++C4 l→(∀x∈l,x.size≤2048)→l.length<f→I5 f s pre.length out=some (out++l)
 |[],f,pre,out,hs,_,hf=>by
  obtain⟨g,rfl⟩:∃g,f=g+1:=⟨f-1,by simp at hf;omega⟩
  have dj:s.size=pre.length:=by rw [fm,hs];simp [C4]
  rw [aes (decide_eq_false (by rw [dj];omega)),ZE5]
 |x::l,f,pre,out,hs,hx,hf=>by
  obtain⟨g,rfl⟩:∃g,f=g+1:=⟨f-1,by simp at hf;omega⟩
  have hx1:=hx x (by simp)
  have hs2:lb s=pre++(lb (bX x.size)++58::(lb x++C4 l)):=hs
  have dj:s.size=pre.length+((lb (bX x.size)).length+(1+(x.size+(C4 l).length))):=by
   rw [fm,hs2];simp only [ZA0,ZA1,←fm];omega
  obtain⟨b0,l0,e0,_⟩:=M7 (x.size:Int)
  have hd1:1≤(lb (bX x.size)).length:=by rw [e0];simp
  have hex:lb (s.extract (pre.length:Int).toNat s.size)=lb (bX x.size)++58::(lb x++C4 l):=by
   rw [mP,fm,ZD1 (ZB5 _),hs2,ZA5,List.drop_left]
  have hr:tM s (pre.length:Int)=((x.size:Int),((lb (bX x.size)).length:Int)):=afN hx1 hex
  have xy:bL s ((pre.length:Int)+((lb (bX x.size)).length:Int)).toNat=58:=by
   rw [na,hs2,show ((pre.length:Int)+((lb (bX x.size)).length:Int)).toNat=pre.length+(lb (bX x.size)).length by omega]
   rw [ZC6 (by omega),Nat.add_sub_cancel_left,ZC6 (ZB5 _),Nat.sub_self]
   rfl
  have iA:qn s (pre.length:Int) (tM s (pre.length:Int))=false:=by
   rw [hr]
   exact Z6 (decide_eq_false (by simp only;omega)) (decide_eq_false (by simp only;omega)) (decide_eq_false (by simp only;rw [xy];simp)) (decide_eq_false (by simp only;omega))
  rw [agS (decide_eq_true (by omega)) iA,hr]
  have ahF:s.extract ((pre.length:Int)+((lb (bX x.size)).length:Int)+1).toNat ((pre.length:Int)+((lb (bX x.size)).length:Int)+1+(x.size:Int)).toNat=x:=by
   refine vq ?_
   rw [mP,hs2]
   rw [show ((pre.length:Int)+((lb (bX x.size)).length:Int)+1+(x.size:Int)).toNat=pre.length+((lb (bX x.size)).length+(1+x.size)) by omega,show ((pre.length:Int)+((lb (bX x.size)).length:Int)+1).toNat=pre.length+((lb (bX x.size)).length+1) by omega]
   rw [List.take_length_add_append,ZF5,List.take_length_add_append,ZF5]
   rw [show 1+x.size=x.size+1 by omega,List.take_succ_cons,List.drop_succ_cons,ZF0,fm,List.take_left]
  show I5 g s ((pre.length:Int)+((lb (bX x.size)).length:Int)+1+(x.size:Int)) _=_
  simp only
  rw [ahF]
  have:=Z1 (s:=s) (l:=l) (f:=g) (pre:=pre++(lb (bX x.size)++58::lb x)) (out:=out++[x]) (by rw [hs2];simp [ZD2]) (fun y hy=>hx y (by simp [hy])) (by simp at hf;omega)
  rw [show ((pre++(lb (bX x.size)++58::lb x)).length:Int)=(pre.length:Int)+((lb (bX x.size)).length:Int)+1+(x.size:Int) by simp only [ZA0,ZA1,←fm];omega] at this
  rw [this,ZD2];rfl
theorem T7:∀(l:List ByteArray),l.length≤(C4 l).length
 |[]=>ZB5 _
 |x::l=>by
  have:=T7 l
  simp only [C4,ZA0,ZA1];omega
theorem I3 {l:List ByteArray}(h:(cE l).2=true):bq (cE l).1=(l,true):=by
 cases h60:decide ((l.length:Int)≤60) with
 |false=>rw [tL h60] at h;cases h
 |true=>
  have h0:=h
  rw [gD h60] at h
  obtain⟨e1,e2,e3⟩:=D5 h
  rw [gD h60]
  generalize hs:(dA l ⟨#[]⟩).1=s at e1 e3 ⊢
  have e1:lb s=C4 l:=by simpa [adA] using e1
  have dj:s.size≤2048:=by
   rcases e3 with e3 |rfl
   ·exact e3
   ·rw [fm,e1];simp [C4]
  have hlen:=T7 l
  have hg:=Z1 (s:=s) (l:=l) (f:=s.size+1) (pre:=[]) (out:=[]) (by simpa using e1) e2 (by rw [fm,e1];omega)
  unfold bq
  rw [decide_eq_true (by omega),cond_true]
  rw [show ((([]:List UInt8).length:Nat):Int)=0 from rfl] at hg
  rw [hg]
  show vF s ([]++l)=(l,true)
  rw [ZC9]
  unfold vF
  rw [h0,gD h60,hs]
  simp
theorem tu {n:ft}(h:cy n=true):bz (aC n)=(n,true):=by
 have hb:=ld h
 have hp:aC n=(cE [bX n.1,bX n.2.1,bX n.2.2.1,bc n.root,bX n.2.2.2.2.2.2.2.2.1,bX n.2.2.2.2.2.2.2.2.2,⟨#[101,110,100]⟩]).1:=by unfold aC;rw [h];rfl
 have hf:(cE [bX n.1,bX n.2.1,bX n.2.2.1,bc n.root,bX n.2.2.2.2.2.2.2.2.1,bX n.2.2.2.2.2.2.2.2.2,⟨#[101,110,100]⟩]).2=true:=by
  rw [gD rfl]
  refine D4 ?_
  have d1:=db (n:=n.1) (by omega)
  have d2:=db (n:=n.2.1) (by omega)
  have d3:=db (n:=n.2.2.1) (by omega)
  have d4:=gr n.root
  have d5:=db (n:=n.2.2.2.2.2.2.2.2.1) (by omega)
  have d6:=db (n:=n.2.2.2.2.2.2.2.2.2) (by omega)
  simp only [ZE7,List.map_nil,List.sum_cons,List.sum_nil]
  rw [show (⟨#[101,110,100]⟩:ByteArray).size=3 from rfl,show (⟨#[]⟩:ByteArray).size=0 from rfl]
  omega
 have hg:=I3 hf
 rw [←hp] at hg
 have e1:=et (n:=n.1) (by omega) (by omega)
 have e2:=et (n:=n.2.1) (by omega) (by omega)
 have e3:=et (n:=n.2.2.1) (by omega) (by omega)
 have e4:=nG hb.2.2.2.2.2.1
 have e5:=et (n:=n.2.2.2.2.2.2.2.2.1) (by omega) (by omega)
 have e6:=et (n:=n.2.2.2.2.2.2.2.2.2) (by omega) (by omega)
 have uu:mO [bX n.1,bX n.2.1,bX n.2.2.1,bc n.root,bX n.2.2.2.2.2.2.2.2.1,bX n.2.2.2.2.2.2.2.2.2,⟨#[101,110,100]⟩]=n:=by
  show ((aD (bX n.1)).1,(aD (bX n.2.1)).1,(aD (bX n.2.2.1)).1,(bP (bc n.root)).1.1,(bP (bc n.root)).1.2.1,(bP (bc n.root)).1.2.2.1,(bP (bc n.root)).1.2.2.2.1,(bP (bc n.root)).1.2.2.2.2,(aD (bX n.2.2.2.2.2.2.2.2.1)).1,(aD (bX n.2.2.2.2.2.2.2.2.2)).1)=n
  rw [e1,e2,e3,e4,e5,e6]
 unfold bz
 rw [hg,uu,h]
 simp
end GL
namespace GL
abbrev at' (p:Pt):Nat:=p.1.toNat
def KW (r:Nat) (p:Pt):Bool:= !(au p)&&decide (at' p=r)
def bn (l:List Pt) (r:Nat):Nat:=l.countP (KW r)
theorem rk (r:Nat):bn [] r=0:=rfl
theorem bI (l m:List Pt) (r:Nat):bn (l++m) r=bn l r+bn m r:=List.countP_append
theorem dO (p:Pt) (l:List Pt) (r:Nat):bn (p::l) r=bn [p] r+bn l r:=bI [p] l r
theorem PN {l m:List Pt}(h:l.Sublist m) (r:Nat):bn l r≤bn m r:=h.countP_le
theorem l5 {p:Pt}(h:au p=true) (r:Nat):bn [p] r=0:=by
 simp [bn,KW,h]
theorem rI {p:Pt}(h:au p=false):bn [p] (at' p)=1:=by
 simp [bn,KW,h]
theorem yP {p:Pt}{r:Nat}(h:at' p≠r):bn [p] r=0:=by
 simp [bn,KW,h]
theorem aj6 (p:Pt) (r:Nat):bn [p] r≤1:=by
 have:bn [p] r≤[p].length:=List.countP_le_length
 simpa using this
theorem tT {l:List Pt}{p:Pt}(hp:p∈l) (h:au p=false):0<bn l (at' p):=by
 unfold bn
 rw [List.countP_pos_iff]
 exact⟨p,hp,by simp [KW,h]⟩
theorem XY (f:Pt→Bool) (l:List Pt) (r:Nat):bn (l.filter f) r≤bn l r:=PN List.filter_sublist r
def qE (s:ay) (r:Nat):Int:=nth ag s.refs r
structure Acc (s:ay) (O:Nat→Nat):Prop where
 wf:s.wf
 up:∀r,qE s r≤1000000
 cg:1≤s.cg∧s.cg≤1000000
 sl:∀r,((bn s.gone r+bn s.dead r+O r:Nat):Int)≤qE s r
 ok:∀p∈s.gone++s.dead,aZ p=true∧au p=false
theorem Acc.mono {s:ay}{O O':Nat→Nat}(h:Acc s O) (hO:∀r,O' r≤O r):Acc s O':=
 ⟨h.wf,h.up,h.cg,fun r=>by have:=h.sl r;have:=hO r;omega,h.ok⟩
def Kp (O:Nat→Nat) (s u:ay):Prop:=∀r,0<O r→nth ab u.rows r=nth ab s.rows r
theorem Kp.refl (O:Nat→Nat) (s:ay):Kp O s s:=fun _ _=>rfl
theorem Kp.trans {O:Nat→Nat}{a b c:ay}(h:Kp O a b) (h2:Kp O b c):Kp O a c:=fun r hr=>(h2 r hr).trans (h r hr)
theorem Kp.mono {O O':Nat→Nat}{a b:ay}(h:Kp O a b) (hO:∀r,O' r≤O r):Kp O' a b:=fun r hr=>h r (ZG1 hr (hO r))
structure dP (s u:ay):Prop where
 cg:u.cg=s.cg
 bZ:u.bZ=s.bZ
 same:u.same=s.same
theorem dP.refl (s:ay):dP s s:=⟨rfl,rfl,rfl⟩
theorem dP.trans {a b c:ay}(h:dP a b) (h2:dP b c):dP a c:=⟨h2.cg.trans h.cg,h2.bZ.trans h.bZ,h2.same.trans h.same⟩
theorem iv {ek:EK}{l:List (EK.Ty ek)}{k r:Nat}{x:EK.Ty ek}(h:k≠r):nth ek (l.set k x) r=nth ek l r:=by
 unfold nth;rw [List.getElem?_set_ne h]
theorem tn {ek:EK}{l:List (EK.Ty ek)}{k:Nat}(h:l.length≤k):nth ek l k=EK.zero ek:=by
 unfold nth;rw [ZD8 h]
theorem FR {n:Int}(h0: -1000000000≤n) (h1:n≤1000000000):xo n=n:=oM (by simp only [gJ];omega) (by simp only [imax];omega)
theorem sk {p:Pt}(h:aZ p=true):at' p<64:=by have:=pO h;unfold at';omega
theorem CY {s:ay}{O O':Nat→Nat}{p:Pt}(h:Acc s O) (hp:aZ p=true) (hO:∀r,O' r+bn [p] r≤O r):Acc (cM s p) O'∧Kp O' s (cM s p)∧dP s (cM s p):=by
 have oJ:=ql (p:=p) h.wf
 cases hh:au p with
 |true=>
  rw [yJ hh]
  exact⟨h.mono fun r=>by have:=hO r;omega,Kp.refl _ _,dP.refl _⟩
 |false=>
  cases h1:decide (p.2.1≤s.bZ) with
  |true=>
   rw [yM hh h1] at oJ ⊢
   refine⟨⟨oJ,h.up,h.cg,fun r=>?_,fun q hq=>?_⟩,Kp.refl _ _,⟨rfl,rfl,rfl⟩⟩
   ·show ((bn s.gone r+bn (s.dead++[p]) r+O' r:Nat):Int)≤qE s r
    rw [bI];have:=h.sl r;have:=hO r;omega
   ·have hq:q∈s.gone++(s.dead++[p]):=hq
    rw [←ZD2] at hq
    rcases ZB4.1 hq with hq |hq
    ·exact h.ok q hq
    ·rw [ZC7.1 hq];exact⟨hp,hh⟩
  |false=>
   cases h2:decide (p.2.1<s.cg) with
   |true=>
    rw [yK hh h1 h2] at oJ ⊢
    refine⟨⟨oJ,h.up,h.cg,fun r=>?_,fun q hq=>?_⟩,Kp.refl _ _,⟨rfl,rfl,rfl⟩⟩
    ·show ((bn (s.gone++[p]) r+bn s.dead r+O' r:Nat):Int)≤qE s r
     rw [bI];have:=h.sl r;have:=hO r;omega
    ·have hq:q∈(s.gone++[p])++s.dead:=hq
     simp only [ZB4,ZC7] at hq
     rcases hq with (hq |hq) |hq
     ·exact h.ok q (by simp [hq])
     ·rw [hq];exact⟨hp,hh⟩
     ·exact h.ok q (by simp [hq])
   |false=>
    rw [yL hh h1 h2] at oJ ⊢
    have xy:=sk hp
    have hlen:at' p<s.refs.length:=by rw [h.wf.n.2.1];exact xy
    have hsl:=h.sl (at' p)
    have hOa:=hO (at' p)
    rw [rI hh] at hOa
    have hup:=h.up (at' p)
    have hw:xo (qE s (at' p)-1)=qE s (at' p)-1:=FR (by omega) (by omega)
    have hrf:(gd s p.1.toNat).refs=s.refs.set (at' p) (qE s (at' p)-1):=by
     show s.refs.set (at' p) (xo (qE s (at' p)-1))=_
     rw [hw]
    have vA:∀r,qE (gd s p.1.toNat) r=qE s r-bn [p] r:=fun r=>by
     show nth ag (gd s p.1.toNat).refs r=nth ag s.refs r-_
     rw [hrf]
     by_cases e:at' p=r
     ·subst e;rw [nq (ek:=ag) hlen,rI hh];rfl
     ·rw [iv (ek:=ag) e,yP e];simp
    refine⟨⟨oJ,fun r=>?_,h.cg,fun r=>?_,h.ok⟩,fun r hr=>?_,⟨rfl,rfl,rfl⟩⟩
    ·rw [vA];have:=h.up r;omega
    ·rw [vA]
     show ((bn s.gone r+bn s.dead r+O' r:Nat):Int)≤_
     have:=h.sl r;have:=hO r;omega
    ·show nth ab (bif uy s p.1.toNat then s.rows.set p.1.toNat ByteArray.empty else s.rows) r=_
     cases hb:uy s p.1.toNat with
     |false=>rfl
     |true=>
      have hz:qE (gd s p.1.toNat) (at' p)=0:=aJ hb
      rw [vA,rI hh] at hz
      by_cases e:at' p=r
      ·subst e;omega
      ·exact iv (ek:=ab) e
theorem yH:∀{l:List Pt}{s:ay}{O O':Nat→Nat},Acc s O→(∀p∈l,aZ p=true)→(∀r,O' r+bn l r≤O r)→Acc (l.foldl cM s) O'∧Kp O' s (l.foldl cM s)∧dP s (l.foldl cM s)
 |[],s,O,O',h,_,hO=>⟨h.mono fun r=>by have:=hO r;rw [rk] at this;omega,Kp.refl _ _,dP.refl _⟩
 |p::l,s,O,O',h,hl,hO=>by
  have h1:=CY (O':=fun r=>O' r+bn l r) h (hl p (by simp)) (fun r=>by have:=hO r;rw [dO] at this;show O' r+bn l r+_≤_;omega)
  have h2:=yH (l:=l) (O':=O') h1.1 (fun q hq=>hl q (by simp [hq])) (fun r=>ZB5 _)
  exact⟨h2.1,(h1.2.1.mono fun r=>ZD3 _ _).trans h2.2.1,h1.2.2.trans h2.2.2⟩
theorem I2:∀(f i:Nat) (rf:List Int),findF f i rf= -1∨nth ag rf (findF f i rf).toNat=0
 |0,_,_=>.inl rfl
 |f+1,i,rf=>by
  unfold findF
  cases hd:decide (nth ag rf i=0) with
  |true=>right;simp only [cond_true,ZA5];exact aJ hd
  |false=>exact I2 f (i+1) rf
theorem HX:∀(f i:Nat) (s:ay) (text:ByteArray),sr f i s text= -1∨vm s text (sr f i s text).toNat=true
 |0,_,_,_=>.inl rfl
 |f+1,i,s,text=>by
  unfold sr
  cases hd:vm s text i with
  |true=>right;simp only [cond_true,ZA5];exact hd
  |false=>exact HX f (i+1) s text
theorem NK (s:ay) (text:ByteArray) (lv:Int):da s text lv<0∨(8≤da s text lv∧da s text lv<64)∧(nth ag s.refs (da s text lv).toNat=0∨nth ab s.rows (da s text lv).toNat=text∧nth ag s.refs (da s text lv).toNat<s.cg):=by
 have hf:oa s.refs<0∨(8≤oa s.refs∧oa s.refs<64)∧nth ag s.refs (oa s.refs).toNat=0:=by
  rcases TT s.refs with h |h
  ·left;omega
  ·right
   refine⟨h,?_⟩
   rcases I2 56 8 s.refs with h2 |h2
   ·have:oa s.refs= -1:=h2
    omega
   ·exact h2
 have key:∀a,a=oa s.refs→a<0∨(8≤a∧a<64)∧(nth ag s.refs a.toNat=0∨nth ab s.rows a.toNat=text∧nth ag s.refs a.toNat<s.cg):=fun a e=>by
  rw [e]
  rcases hf with h |h
  ·exact .inl h
  ·exact .inr ⟨h.1,.inl h.2⟩
 cases h1:s.same with
 |false=>exact key _ (we h1)
 |true=>
  cases h2:decide (lv=0) with
  |false=>exact key _ (wh h2)
  |true=>
   cases h3:decide (q7 s text<0) with
   |true=>exact key _ (wi h1 h2 h3)
   |false=>
    rw [AT h1 h2 h3]
    have h3:=aA h3
    right
    rcases SO s text with h |h
    ·omega
    ·refine⟨h,.inr ?_⟩
     rcases HX 56 8 s text with h4 |h4
     ·have:q7 s text= -1:=h4
      omega
     ·have h4:vm s text (q7 s text).toNat=true:=h4
      unfold vm at h4
      simp only [ZA9,decide_eq_true_eq] at h4
      exact⟨h4.1,h4.2.2⟩
structure ajZ (s u:ay) (p:Pt) (text:ByteArray) (lv:Int):Prop where
 ok:aZ p=true
 nh:au p=false
 lv:p.2.2.2.2=lv
 EE:p.2.1=s.cg
 row:nth ab u.rows (at' p)=text
 fits:iV p text=true
theorem xE {s:ay}{O:Nat→Nat}{text:ByteArray}{lv:Int}(h:Acc s O) (hz:(bd s text lv).2.2=true):
  Acc (bd s text lv).1 (fun r=>O r+bn [(bd s text lv).2.1] r)∧Kp O s (bd s text lv).1∧dP s (bd s text lv).1∧(bd s text lv).1.gone=s.gone∧(bd s text lv).1.dead=s.dead∧ajZ s (bd s text lv).1 (bd s text lv).2.1 text lv:=by
 have oJ:=AS (text:=text) (lv:=lv) h.wf
 cases hd:decide (da s text lv<0) with
 |true=>rw [nv rfl hd] at hz;cases hz
 |false=>
  cases h2: !(gu (da s text lv) s.cg lv text).2 with
  |true=>rw [mu rfl hd h2] at hz;cases hz
  |false=>
   rw [oZ rfl hd h2] at oJ ⊢
   have hd:=aA hd
   have h2:=oD h2
   have hw:=NK s text lv
   generalize ha:da s text lv=a at *
   have hpo:ig text.size 1 128=true∧aZ (a,s.cg,(text.size:Int),qJ text,lv)=true:=by
    cases hi:ig text.size 1 128 with
    |false=>rw [BS hi] at h2;cases h2
    |true=>cases hj:aZ (a,s.cg,(text.size:Int),qJ text,lv) with
     |false=>rw [BR hj] at h2;cases h2
     |true=>exact⟨rfl,rfl⟩
   rw [BQ hpo.1 hpo.2] at *
   obtain⟨⟨h8,h64⟩,sA⟩:=hw.resolve_left hd
   have hnh:au (a,s.cg,(text.size:Int),qJ text,lv)=false:=by
    unfold au;rw [decide_eq_false (by show¬a=0;omega)];rfl
   have hlr:a.toNat<s.refs.length:=by rw [h.wf.n.2.1];omega
   have bU:a.toNat<s.rows.length:=by rw [h.wf.n.1];omega
   have hup:=h.up a.toNat
   have hsl:=h.sl a.toNat
   have hw2:xo (qE s a.toNat+1)=qE s a.toNat+1:=FR (by omega) (by omega)
   have sA:qE s a.toNat=0∨nth ab s.rows a.toNat=text∧qE s a.toNat<s.cg:=sA
   have vA:∀r,qE (uK s text a.toNat) r=qE s r+bn [((a,s.cg,(text.size:Int),qJ text,lv):Pt)] r:=fun r=>by
    show nth ag (s.refs.set a.toNat (xo (qE s a.toNat+1))) r=nth ag s.refs r+_
    rw [hw2]
    by_cases e:a.toNat=r
    ·subst e
     rw [nq (ek:=ag) hlr]
     rw [show bn [((a,s.cg,(text.size:Int),qJ text,lv):Pt)] a.toNat=1 from rI hnh];rfl
    ·rw [iv (ek:=ag) e,yP (p:=(a,s.cg,(text.size:Int),qJ text,lv)) e];simp
   refine⟨⟨oJ,fun r=>?_,h.cg,fun r=>?_,h.ok⟩,fun r hr=>?_,⟨rfl,rfl,rfl⟩,rfl,rfl,⟨hpo.2,hnh,rfl,rfl,?_,?_⟩⟩
   ·rw [vA]
    by_cases e:a.toNat=r
    ·subst e
     rw [show bn [((a,s.cg,(text.size:Int),qJ text,lv):Pt)] a.toNat=1 from rI hnh]
     have:=h.cg
     rcases sA with hc |hc<;>omega
    ·rw [yP (p:=(a,s.cg,(text.size:Int),qJ text,lv)) e];have:=h.up r;omega
   ·rw [vA]
    show ((bn s.gone r+bn s.dead r+(O r+bn [((a,s.cg,(text.size:Int),qJ text,lv):Pt)] r):Nat):Int)≤_
    have:=h.sl r;omega
   ·show nth ab (s.rows.set a.toNat text) r=_
    by_cases e:a.toNat=r
    ·subst e
     rw [nq (ek:=ab) bU]
     rcases sA with hc |hc
     ·omega
     ·exact hc.1.symm
    ·exact iv (ek:=ab) e
   ·exact nq (ek:=ab) bU
   ·unfold iV
    rw [hpo.2,hnh]
    simp
end GL
end Go.Proofs.YtclcgjhhehbdeaaGreatDoor
