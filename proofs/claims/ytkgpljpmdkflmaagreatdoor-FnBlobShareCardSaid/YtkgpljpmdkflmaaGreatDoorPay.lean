/- A drawn law returns true for every code (its row lists package variables, tied by the card): part 25. -/
import Derived.Test.YtkgpljpmdkflmaaGreatDoorPan
import Derived.Test.YtkgpljpmdkflmaaGreatDoorPav
import Derived.Test.YtkgpljpmdkflmaaGreatDoorPaw
set_option maxHeartbeats 20000000
set_option maxRecDepth 100000
set_option linter.all false
namespace Go.Proofs.YtkgpljpmdkflmaaGreatDoor
namespace GL
def egB (w:List ByteArray) (i:Nat):List ByteArray:=bn (nth ab w i) 61
def egF:Nat→List ByteArray→Nat→List eV→Option (List eV)
 |0,_,_,out=>some out
 |f+1,w,i,out=>bif decide ((i:Int)+1<(w.length:Int)) then
   (bif decide (((egB w i).length:Int)≠2) then none else egF f w (i+1) (out++[(nth ab (egB w i) 0,(aD (nth ab (egB w i) 1)).1)])) else some out
def EG (s:ByteArray) (out:List eV):List eV×Bool:=bif !(eF out)||decide (en out≠s) then ([],false) else (out,true)
def cQ (s:ByteArray):List eV×Bool:=match egF ((bn s 59).length) (bn s 59) 0 [] with
 |none=>([],false)
 |some out=>EG s out
theorem agW {f:Nat}{w:List ByteArray}{i:Nat}{out:List eV}(h:decide ((i:Int)+1<(w.length:Int))=true) (h2:decide (((egB w i).length:Int)≠2)=true):egF (f+1) w i out=none:=by rw [egF,h,h2];rfl
theorem agV {f:Nat}{w:List ByteArray}{i:Nat}{out:List eV}(h:decide ((i:Int)+1<(w.length:Int))=true) (h2:decide (((egB w i).length:Int)≠2)=false):egF (f+1) w i out=egF f w (i+1) (out++[(nth ab (egB w i) 0,(aD (nth ab (egB w i) 1)).1)]):=by rw [egF,h,h2];rfl
theorem aak {f:Nat}{w:List ByteArray}{i:Nat}{out:List eV}(h:decide ((i:Int)+1<(w.length:Int))=false):egF f w i out=some out:=by
 cases f with
 |zero=>rfl
 |succ f=>rw [egF,h];rfl
theorem xI {s:ByteArray}(h:egF ((bn s 59).length) (bn s 59) 0 []=none):cQ s=([],false):=by unfold cQ;rw [h]
theorem nA {s:ByteArray}{out:List eV}(h:egF ((bn s 59).length) (bn s 59) 0 []=some out):cQ s=EG s out:=by unfold cQ;rw [h]
theorem aai {s:ByteArray}{out:List eV}(h:(!(eF out))=true):EG s out=([],false):=by unfold EG;rw [h];rfl
theorem aah {s:ByteArray}{out:List eV}(h:decide (en out≠s)=true):EG s out=([],false):=by unfold EG;rw [h,ZC4];rfl
theorem aaj {s:ByteArray}{out:List eV}(h:(!(eF out))=false) (h2:decide (en out≠s)=false):EG s out=(out,true):=by unfold EG;rw [h,h2];rfl
theorem aad {l:List eV}:∀{f i:Nat},z8 f l i=true→∀k,i≤k→k<i+f→kh l k=false
 |0,i,_,k,h1,h2=>by omega
 |f+1,i,h,k,h1,h2=>by
  cases hb:kh l i with
  |true=>rw [PR hb] at h;cases h
  |false=>
   rw [XR hb] at h
   by_cases e:k=i
   ·rw [e];exact hb
   ·exact aad h k (by omega) (by omega)
theorem xH {l:List eV}(h:eF l=true):l.length≤12∧∀e∈l,fD e.1=true∧1≤e.2∧e.2≤15:=by
 unfold eF at h
 simp only [ZA9,decide_eq_true_eq] at h
 refine⟨by omega,fun e he=>?_⟩
 obtain⟨k,hk,rfl⟩:=List.mem_iff_getElem.1 he
 have hb:=aad h.1 k (ZA7 _) (by omega)
 unfold kh at hb
 simp only [ZE1,Bool.not_eq_false',cD] at hb
 have hn:nth aK l k=l[k]:=by
  have:=oF (ek:=aK) hk
  rw [ZB1 hk] at this
  exact (ZG5 this).symm
 rw [hn] at hb
 exact⟨hb.1,hb.2.1⟩
theorem D0 {s:ByteArray}(h:fD s=true):1≤s.size∧s.size≤4:=by
 unfold fD at h
 simp only [ZA9,cD] at h
 omega
theorem ace.akA {l:List eV}(h:eF l=true):ace l:=by
 obtain⟨h1,h2⟩:=xH h
 refine⟨by omega,fun e he=>?_,fun e he=>?_⟩
 ·have:=D0 (h2 e he).1;omega
 ·have:=(h2 e he).2;omega
theorem aeO {w:List ByteArray}(hw:∀x∈w,x.size≤1000000):∀{f i:Nat}{out o:List eV},egF f w i out=some o→(∀e∈out,e.1.size≤1000000)→∀e∈o,e.1.size≤1000000
 |0,i,out,o,h,ho=>by cases h;exact ho
 |f+1,i,out,o,h,ho=>by
  cases h1:decide ((i:Int)+1<(w.length:Int)) with
  |false=>rw [aak h1] at h;cases h;exact ho
  |true=>
   cases h2:decide (((egB w i).length:Int)≠2) with
   |true=>rw [agW h1 h2] at h;cases h
   |false=>
    rw [agV h1 h2] at h
    refine aeO hw h fun e he=>?_
    rcases ZB4.1 he with he |he
    ·exact ho e he
    ·rw [ZC7.1 he]
     have h3:=aJ h1
     have hx:=hw _ (bS (ek:=ab) (l:=w) (k:=i) (by omega))
     have h4:=aA h2
     exact ZB0 (oZ _ (bS (ek:=ab) (l:=egB w i) (k:=0) (by omega))) hx
def lV (s:ByteArray):Prop:=s.size≤1000000
def et (s:ByteArray):AV:=.t [.s (.xs 0 2 0 (cQ s).1.length),.s (.q (cQ s).2)]
def eZ (s:ByteArray):List AV:=[.rs aK (cQ s).1]
def uk:ct where
 A:=[.s .str]
 B:=[]
 pre:=fun x b=>lV x
 r:=fun x b _=>et x
 o:=fun x b _=>eZ x
 nf:=1
theorem PI:Has Tryz.prog 272 uk:=by
 refine Has.fu zT zF zF (l:=[(196,iD),(171,jH),(284,ot),(255,qB)]) ⟨tI,vD,D5,II,aa⟩ Tryz.func272 ?_
 rintro (s:ByteArray) _ (hp:lV s)
 show vc _ _ _ _ (entry [.str s] []) _
 unfold lV at hp
 have hcl:=tY s 59
 have mw:=oZ (s:=s) (c:=59)
 refine⟨aa,⟨⟨aa,aa,aa⟩,?_⟩,fun x1 w2=>?_⟩
 all_goals first|refine aw ?_|refine ax ?_|exact a8|(dsimp only [iD,iR,jH,gJ,ot,nw,qB,qb];omega)|exact a7|skip
 refine cO (l:=[(196,iD),(171,jH),(284,ot),(255,qB)]) (ex:=zT) (wr:=zF) (pt:=zF) ⟨tI,vD,D5,II,trivial⟩ [.s 0,.s 5,.b 130000] (fun y:Nat×Nat×List eV=>[(.s 4,.s (.xs 1010 2 0 y.2.2.length)),(.s 6,.int y.1),(.b 1010,.rs aK y.2.2)]) (fun y=>(y.1+y.2.1=(bn s 59).length∧1≤y.2.1)∧y.2.2.length=y.1∧(∀e∈y.2.2,e.1.size≤1000000)∧egF y.2.1 (bn s 59) y.1 y.2.2=egF (bn s 59).length (bn s 59) 0 []) (fun y=>y.2.1) (0,(bn s 59).length,[]) [] ⟨⟨ZA6 _,hcl.1⟩,rfl,(fun _ h=>by cases h),rfl⟩ dN ?_
 rintro⟨i,f,out⟩ ⟨⟨(hi:i+f=(bn s 59).length),(hf1:1≤f)⟩,(hlo:out.length=i),(hos:∀e∈out,e.1.size≤1000000),(hr:egF f (bn s 59) i out=egF (bn s 59).length (bn s 59) 0 [])⟩
 have bV:decide ((i:Int)+1<((bn s 59).length:Int))=true→i<(bn s 59).length:=fun h=>by have:=aJ h;omega
 have hxs:i<(bn s 59).length→(nth ab (bn s 59) i).size≤1000000:=fun h=>ZB0 (mw _ (bS (ek:=ab) h)) hp
 have hbl:=tY (nth ab (bn s 59) i) 61
 refine⟨⟨?_,?_⟩,fun w1=>⟨⟨?_,?_⟩,?_,⟨⟨aa,aa,aa⟩,?_⟩,fun x2 w3=>⟨fun w4=>⟨aa,?_⟩,fun w5=>⟨⟨?_,?_⟩,?_,⟨⟨aa,aa⟩,?_⟩,fun x6 w7=>⟨⟨?_,?_⟩,?_,aa,⟨⟨?_,?_⟩,?_,?_⟩,⟨?_,?_⟩,?_⟩⟩⟩⟩,fun w8=>⟨⟨⟨⟨?_,?_⟩,aa⟩,?_⟩,fun x9 dy=>⟨aa,fun kC=>⟨aa,?_⟩,fun dK=>⟨⟨⟨⟨?_,?_⟩,aa⟩,?_⟩,fun rZ gP=>⟨fun qN=>⟨aa,?_⟩,fun ki=>?_⟩⟩⟩⟩⟩
 all_goals first|refine aw ?_|refine ax ?_|exact a8|(dsimp only [iD,iR,jH,gJ,ot,nw,qB,qb];omega)|exact a7|exact bV w1|exact hxs (bV w1)|skip
 ·obtain⟨g,rfl⟩:∃g,f=g+1:=⟨f-1,by have:=bV w1;omega⟩
  have e:cQ s=([],false):=xI (by rw [←hr];exact agW w1 w4)
  refine⟨[1028],[],_,_,_,rfl,az,(),aa,?_,?_,rfl⟩
  ·(show _=et s);unfold et;first|(rw [e];rfl)|rfl
  ·(show _=eZ s);unfold eZ;first|(rw [e];rfl)|rfl
 ·have h2:(bn (nth ab (bn s 59) i) 61).length=2:=by have:=aA (p:=((bn (nth ab (bn s 59) i) 61).length:Int)≠2) w5;omega
  show (1:Int)<((bn (nth ab (bn s 59) i) 61).length:Int);omega
 ·have h2:(bn (nth ab (bn s 59) i) 61).length=2:=by have:=aA (p:=((bn (nth ab (bn s 59) i) 61).length:Int)≠2) w5;omega
  show 1<(bn (nth ab (bn s 59) i) 61).length;omega
 ·have h2:(bn (nth ab (bn s 59) i) 61).length=2:=by have:=aA (p:=((bn (nth ab (bn s 59) i) 61).length:Int)≠2) w5;omega
  have h3:(nth ab (bn (nth ab (bn s 59) i) 61) 1).size≤1000000:=ZB0 (oZ (s:=(nth ab (bn s 59) i)) (c:=61) _ (bS (ek:=ab) (l:=bn (nth ab (bn s 59) i) 61) (k:=1) (by omega))) (hxs (bV w1))
  show ((nth ab (bn (nth ab (bn s 59) i) 61) 1).size:Int)≤1000000000000;omega
 ·obtain⟨g,rfl⟩:∃g,f=g+1:=⟨f-1,by have:=bV w1;omega⟩
  have h2:(bn (nth ab (bn s 59) i) 61).length=2:=by have:=aA (p:=((bn (nth ab (bn s 59) i) 61).length:Int)≠2) w5;omega
  refine⟨(i+1,g,out++[(nth ab (egB (bn s 59) i) 0,(aD (nth ab (egB (bn s 59) i) 1)).1)]),[(1010,1043)],?_,?_,?_⟩
  rotate_right
  ·exact bW
  ·refine⟨⟨by show i+1+g=(bn s 59).length;omega,by show 1≤g;have:=aJ (p:=(i:Int)+1<((bn s 59).length:Int)) w1;omega⟩,by show (out++[_]).length=i+1;rw [ZA0,hlo];rfl,fun e he=>?_,by rw [←hr];exact (agV w1 w5).symm⟩
   rcases ZB4.1 he with he |he
   ·exact hos e he
   ·rw [ZC7.1 he]
    exact ZB0 (oZ (s:=(nth ab (bn s 59) i)) (c:=61) _ (bS (ek:=ab) (l:=bn (nth ab (bn s 59) i) 61) (k:=0) (by omega))) (hxs (bV w1))
  ·exact ZD9 g
 ·exact (⟨by show out.length≤1000000;have:=aA (p:=(i:Int)+1<((bn s 59).length:Int)) w8;omega,hos⟩:afr out)
 ·have e0:egF (bn s 59).length (bn s 59) 0 []=some out:=by rw [←hr];exact aak w8
  have e:cQ s=([],false):=by rw [nA e0];exact aai kC
  refine⟨[1053],[],_,_,_,rfl,az,(),aa,?_,?_,rfl⟩
  ·(show _=et s);unfold et;first|(rw [e];rfl)|rfl
  ·(show _=eZ s);unfold eZ;first|(rw [e];rfl)|rfl
 ·exact ace.akA (cM dK)
 ·have e0:egF (bn s 59).length (bn s 59) 0 []=some out:=by rw [←hr];exact aak w8
  have e:cQ s=([],false):=by rw [nA e0];exact aah qN
  refine⟨[1053],[],_,_,_,rfl,az,(),aa,?_,?_,rfl⟩
  ·(show _=et s);unfold et;first|(rw [e];rfl)|rfl
  ·(show _=eZ s);unfold eZ;first|(rw [e];rfl)|rfl
 ·have e0:egF (bn s 59).length (bn s 59) 0 []=some out:=by rw [←hr];exact aak w8
  have e:cQ s=(out,true):=by rw [nA e0];exact aaj dK ki
  refine⟨[1010],[],_,_,_,rfl,az,(),aa,?_,?_,rfl⟩
  ·(show _=et s);unfold et;first|(rw [e];rfl)|rfl
  ·(show _=eZ s);unfold eZ;first|(rw [e];rfl)|rfl
end GL
namespace GL
def bD (s:ByteArray):List ByteArray:=bif decide (s=⟨#[47]⟩) then [] else (bn s 47).drop 1
theorem SL {s:ByteArray}(h:decide (s=⟨#[47]⟩)=true):bD s=[]:=by unfold bD;rw [h];rfl
theorem adu {s:ByteArray}(h:decide (s=⟨#[47]⟩)=false):bD s=(bn s 47).drop 1:=by unfold bD;rw [h];rfl
theorem CG {s:ByteArray}:∀x∈bD s,x.size≤s.size:=by
 intro x hx
 unfold bD at hx
 cases h:decide (s=⟨#[47]⟩) with
 |true=>rw [h] at hx;cases hx
 |false=>rw [h] at hx;exact oZ x (ZF2 hx)
theorem qn {s:ByteArray}:(bD s).length≤s.size:=by
 unfold bD
 cases h:decide (s=⟨#[47]⟩) with
 |true=>exact ZA7 _
 |false=>have:=tY s 47;simp only [cond_false,ZD0];omega
def fC (s:ByteArray):Prop:=s.size≤1000000
def lI (s:ByteArray):AV:=.s (.vw ab (bD s))
def RY (s:ByteArray):List AV:=[]
def eR:ct where
 A:=[.s .str]
 B:=[]
 pre:=fun x b=>fC x
 r:=fun x b _=>lI x
 o:=fun x b _=>RY x
theorem mY:Has Tryz.prog 231 eR:=by
 refine Has.fu zT zF zF (l:=[(196,iD)]) ⟨tI,aa⟩ Tryz.func231 ?_
 rintro (s:ByteArray) _ (hp:fC s)
 show vc _ _ _ _ (entry [.str s] []) _
 unfold fC at hp
 have hb:=tY s 47
 have hv:(((bn s 47).drop (0+1)).take ((bn s 47).length-1))=(bn s 47).drop 1:=ZD1 (by rw [ZD0];omega)
 refine⟨fun w1=>⟨aa,?_⟩,fun w2=>⟨⟨⟨aa,aa,aa⟩,?_⟩,fun x3 w4=>⟨⟨?_,?_,?_⟩,?_⟩⟩⟩
 all_goals first|refine aw ?_|refine ax ?_|exact a8|(dsimp only [iD,iR];omega)|exact a7|skip
 ·refine⟨[],[],_,_,_,rfl,cg,(),aa,?_,?_,rfl⟩
  ·(show _=lI s);unfold lI;first|(rw [SL w1];rfl)|rfl
  ·rfl
 ·refine⟨[],[],_,_,_,rfl,cg,(),aa,?_,?_,rfl⟩
  ·(show _=lI s);unfold lI;first|(rw [adu w2,←hv];rfl)|rfl
  ·rfl
def G8:Nat→List ByteArray→Nat→Bool
 |0,_,_=>true
 |f+1,l,i=>bif fD (nth ab l i) then G8 f l (i+1) else false
def tz (l:List ByteArray):Bool:=G8 l.length l 0&&decide ((l.length:Int)≤4)
def gb (s:ByteArray):Bool:=bif decide (s=⟨#[47]⟩) then true else bif decide (s=⟨#[]⟩)||decide (bM s 0≠47) then false else tz (bD s)
theorem ahe {f:Nat}{l:List ByteArray}{i:Nat}(h:(!(fD (nth ab l i)))=true):G8 (f+1) l i=false:=by rw [G8,xq h];rfl
theorem ahd {f:Nat}{l:List ByteArray}{i:Nat}(h:(!(fD (nth ab l i)))=false):G8 (f+1) l i=G8 f l (i+1):=by rw [G8,cM h];rfl
theorem aaZ {s:ByteArray}(h:decide (s=⟨#[47]⟩)=true):gb s=true:=by unfold gb;rw [h];rfl
theorem aaY {s:ByteArray}(h:decide (s=⟨#[47]⟩)=false) (h2:decide (s=⟨#[]⟩)=true):gb s=false:=by unfold gb;rw [h,h2];rfl
theorem aaX {s:ByteArray}(h:decide (s=⟨#[47]⟩)=false) (h2:decide (bM s 0≠47)=true):gb s=false:=by unfold gb;rw [h,h2,ZC4];rfl
theorem aaW {s:ByteArray}(h:decide (s=⟨#[47]⟩)=false) (h2:decide (s=⟨#[]⟩)=false) (h3:decide (bM s 0≠47)=false):gb s=tz (bD s):=by unfold gb;rw [h,h2,h3];rfl
def mR (s:ByteArray):Prop:=s.size≤1000000
def fS (s:ByteArray):AV:=.s (.q (gb s))
def abn (s:ByteArray):List AV:=[]
def qG:ct where
 A:=[.s .str]
 B:=[]
 pre:=fun x b=>mR x
 r:=fun x b _=>fS x
 o:=fun x b _=>abn x
theorem IN:Has Tryz.prog 188 qG:=by
 refine Has.fu zT zF zF (l:=[(231,eR),(232,oq)]) ⟨mY,zN,aa⟩ Tryz.func188 ?_
 rintro (s:ByteArray) _ (hp:mR s)
 show vc _ _ _ _ (entry [.str s] []) _
 unfold mR at hp
 have hnl:=qn (s:=s)
 have hns:=CG (s:=s)
 have oW:decide (s=⟨#[]⟩)=false→0<(s.size:Int):=fun h=>by have:=size_pos (aA h);omega
 refine⟨fun w1=>?_,fun w2=>⟨aa,fun w3=>?_,fun w4=>⟨⟨?_,?_⟩,fun w5=>?_,fun w6=>⟨⟨⟨aa,aa⟩,?_⟩,fun x7 w8=>?_⟩⟩⟩⟩
 all_goals first|refine aw ?_|refine ax ?_|exact a8|(dsimp only [eR,fC,oq,mS];omega)|exact a7|exact oW w4|skip
 ·refine⟨[],[],_,_,_,rfl,az,(),aa,?_,?_,rfl⟩
  ·(show _=fS s);unfold fS;first|(rw [aaZ w1];rfl)|rfl
  ·rfl
 ·refine⟨[],[],_,_,_,rfl,az,(),aa,?_,?_,rfl⟩
  ·(show _=fS s);unfold fS;first|(rw [aaY w2 w3];rfl)|rfl
  ·rfl
 ·refine⟨[],[],_,_,_,rfl,az,(),aa,?_,?_,rfl⟩
  ·(show _=fS s);unfold fS;first|(rw [aaX w2 w5];rfl)|rfl
  ·rfl
 ·have hM:=aaW w2 w4 w6
  refine cO (l:=[(231,eR),(232,oq)]) (ex:=zT) (wr:=zF) (pt:=zF) ⟨mY,zN,aa⟩ [.s 0,.s 3] (fun y:Nat×Nat=>[(.s 4,.int y.1)]) (fun y=>y.1+y.2=(bD s).length∧G8 y.2 (bD s) y.1=G8 (bD s).length (bD s) 0) (fun y=>y.2) (0,(bD s).length) [] ⟨ZA6 _,rfl⟩ dN ?_
  rintro⟨k,f⟩ ⟨(hk:k+f=(bD s).length),(he:G8 f (bD s) k=G8 (bD s).length (bD s) 0)⟩
  have bV:decide ((k:Int)<((bD s).length:Int))=true→k<(bD s).length:=fun h=>by have:=aJ h;omega
  have dj:k<(bD s).length→(nth ab (bD s) k).size≤1000000:=fun h=>ZB0 (hns _ (bS (ek:=ab) h)) hp
  refine⟨fun w1=>⟨⟨?_,?_⟩,⟨⟨aa,aa⟩,?_⟩,fun x2 w3=>⟨fun w4=>?_,fun w5=>⟨⟨?_,?_⟩,?_⟩⟩⟩,fun w6=>?_⟩
  all_goals first|refine aw ?_|refine ax ?_|exact a8|(dsimp only [eR,fC,oq,mS];omega)|exact a7|exact bV w1|exact dj (bV w1)|skip
  ·obtain⟨g,rfl⟩:∃g,f=g+1:=⟨f-1,by have:=bV w1;omega⟩
   have e:tz (bD s)=false:=by unfold tz;rw [←he,ahe (show (!(fD (nth ab (bD s) k)))=true from w4)];rfl
   refine⟨[],[],_,_,_,rfl,az,(),aa,?_,?_,rfl⟩
   ·(show _=fS s);unfold fS;first|(rw [hM,e];rfl)|rfl
   ·rfl
  ·obtain⟨g,rfl⟩:∃g,f=g+1:=⟨f-1,by have:=bV w1;omega⟩
   refine⟨(k+1,g),[],?_,?_,?_⟩
   rotate_right
   ·exact bW
   ·exact⟨by show k+1+g=(bD s).length;omega,by rw [←he];exact (ahd w5).symm⟩
   ·exact ZD9 g
  ·have hf:f=0:=by have:=aA (p:=(k:Int)<((bD s).length:Int)) w6;omega
   subst hf
   have e:tz (bD s)=decide (((bD s).length:Int)≤4):=by unfold tz;rw [←he];rfl
   refine⟨[],[],_,_,_,rfl,az,(),aa,?_,?_,rfl⟩
   ·(show _=fS s);unfold fS;first|(rw [hM,e];rfl)|rfl
   ·rfl
def bU (s:ByteArray):List ByteArray×Bool:=bif !(gb s) then ([],false) else (bD s,true)
theorem OH {s:ByteArray}(h:(!(gb s))=true):bU s=([],false):=by unfold bU;rw [h];rfl
theorem OG {s:ByteArray}(h:(!(gb s))=false):bU s=(bD s,true):=by unfold bU;rw [h];rfl
def nu (s:ByteArray):Prop:=s.size≤1000000
def kk (s:ByteArray):AV:=.t [.s (.vw ab (bU s).1),.s (.q (bU s).2)]
def OP (s:ByteArray):List AV:=[]
def vZ:ct where
 A:=[.s .str]
 B:=[]
 pre:=fun x b=>nu x
 r:=fun x b _=>kk x
 o:=fun x b _=>OP x
theorem TB:Has Tryz.prog 259 vZ:=by
 refine Has.fu zT zF zF (l:=[(188,qG),(231,eR)]) ⟨IN,mY,aa⟩ Tryz.func259 ?_
 rintro (s:ByteArray) _ (hp:nu s)
 show vc _ _ _ _ (entry [.str s] []) _
 unfold nu at hp
 have hnl:=qn (s:=s)
 refine⟨⟨⟨aa,aa⟩,?_⟩,fun x1 w2=>⟨fun w3=>⟨aa,?_⟩,fun w4=>⟨aa,⟨⟨aa,aa⟩,?_⟩,fun x5 w6=>⟨⟨⟨?_,?_⟩,aa⟩,?_⟩⟩⟩⟩
 all_goals first|refine aw ?_|refine ax ?_|exact a8|(dsimp only [qG,mR,eR,fC];omega)|exact a7|skip
 ·refine⟨[],[],_,_,_,rfl,cg,(),aa,?_,?_,rfl⟩
  ·(show _=kk s);unfold kk;first|(rw [OH w3];rfl)|rfl
  ·rfl
 ·have hv:([]++bD s)=bD s:=ZC9 _
  refine⟨[],[],_,_,_,rfl,cg,(),aa,?_,?_,rfl⟩
  ·(show _=kk s);unfold kk;first|(show AV.t [A0.s (SV.vw ab (List.take (([]:List ByteArray).length+(bD s).length) (List.drop 0 ([]++bD s)))),A0.s (SV.q true)]=_;simp only [ZC9,ZF0,ZA4,ZA6,List.take_length,OG w4])|rfl
  ·rfl
def jq (o x:ByteArray):ByteArray:=o++⟨#[47]⟩++x
def oU (l:List ByteArray):ByteArray:=bif decide (l.foldl jq ⟨#[]⟩=⟨#[]⟩) then ⟨#[47]⟩ else l.foldl jq ⟨#[]⟩
theorem aa1 {l:List ByteArray}{o:ByteArray}(h:l.foldl jq ⟨#[]⟩=o) (h2:decide (o=⟨#[]⟩)=true):oU l=⟨#[47]⟩:=by unfold oU;rw [h,h2];rfl
theorem aa0 {l:List ByteArray}{o:ByteArray}(h:l.foldl jq ⟨#[]⟩=o) (h2:decide (o=⟨#[]⟩)=false):oU l=o:=by unfold oU;rw [h,h2];rfl
def B4 (l:List ByteArray):Prop:=l.length≤1000∧∀x∈l,x.size≤1000000
def sa (l:List ByteArray):AV:=.s (.str (oU l))
def ac4 (l:List ByteArray):List AV:=[]
def PX:ct where
 A:=[.s (.vz ab)]
 B:=[]
 pre:=fun x b=>B4 x
 r:=fun x b _=>sa x
 o:=fun x b _=>ac4 x
theorem afT:Has Tryz.prog 260 PX:=by
 refine Has.fu zT zF zF (l:=[]) trivial Tryz.func260 ?_
 rintro (l:List ByteArray) _ (hp:B4 l)
 show vc _ _ _ _ (entry [.s (.vz ab l)] []) _
 obtain⟨hlen,dj⟩:=hp
 refine ?_
 all_goals first|refine aw ?_|refine ax ?_|exact a8|exact a7|skip
 refine cO (l:=[]) (ex:=zT) (wr:=zF) (pt:=zF) trivial [.s 0] (fun y:Nat×ByteArray=>[(.s 3,.str y.2),(.s 4,.int y.1)]) (fun y=>y.1≤l.length∧y.2.size≤1000001*y.1∧(l.drop y.1).foldl jq y.2=l.foldl jq ⟨#[]⟩) (fun y=>l.length-y.1) (0,⟨#[]⟩) [] ⟨ZA7 _,ZA7 _,rfl⟩ dN ?_
 rintro⟨i,out⟩ ⟨(hi:i≤l.length),(ho:out.size≤1000001*i),(hr:(l.drop i).foldl jq out=l.foldl jq ⟨#[]⟩)⟩
 have bV:decide ((i:Int)<(l.length:Int))=true→i<l.length:=fun h=>by have:=aJ h;omega
 have hx:i<l.length→(nth ab l i).size≤1000000:=fun h=>dj _ (bS (ek:=ab) h)
 refine⟨fun w1=>⟨?_,⟨⟨?_,?_⟩,⟨?_,⟨⟨?_,?_⟩,?_⟩⟩⟩⟩,fun w2=>⟨fun w3=>?_,fun w4=>?_⟩⟩
 all_goals first|refine aw ?_|refine ax ?_|exact a8|exact a7|exact bV w1|(unfold imax;simp only [ZB2,ZA5,sz1];have:=hx (bV w1);omega)|skip
 ·have mu:=bV w1
  refine⟨(i+1,jq out (nth ab l i)),[],?_,?_,?_⟩
  rotate_right
  ·exact bW
  ·refine⟨mu,?_,by rw [←hr,bX (ek:=ab) mu];rfl⟩
   show (out++⟨#[47]⟩++nth ab l i).size≤1000001*(i+1)
   have a1:=hx mu
   simp only [ZB2]
   rw [show (⟨#[47]⟩:ByteArray).size=1 from rfl];omega
  ·show l.length-(i+1)<l.length-i;omega
 ·have e:l.foldl jq ⟨#[]⟩=out:=by rw [←hr,ZB3 (by have:=aA (p:=(i:Int)<(l.length:Int)) w2;omega)];rfl
  refine⟨[],[],_,_,_,rfl,az,(),aa,?_,?_,rfl⟩
  ·(show _=sa l);unfold sa;first|(rw [aa1 e w3];rfl)|rfl
  ·rfl
 ·have e:l.foldl jq ⟨#[]⟩=out:=by rw [←hr,ZB3 (by have:=aA (p:=(i:Int)<(l.length:Int)) w2;omega)];rfl
  refine⟨[],[],_,_,_,rfl,az,(),aa,?_,?_,rfl⟩
  ·(show _=sa l);unfold sa;first|(rw [aa0 e w4];rfl)|rfl
  ·rfl
def pz (s top:ByteArray):Bool:=
 bif !(bU s).2||(!(bU top).2||decide (((bU s).1.length:Int)<((bU top).1.length:Int))) then false
 else decide (oU ((bU s).1.take (bU top).1.length)=oU (bU top).1)
theorem xB (s:ByteArray):(bU s).1.length≤4∧∀x∈(bU s).1,x.size≤s.size:=by
 unfold bU
 cases h: !(gb s) with
 |true=>exact⟨ZA7 _,fun x hx=>by cases hx⟩
 |false=>
  refine⟨?_,CG⟩
  have h:=cM h
  show (bD s).length≤4
  unfold gb at h
  cases h1:decide (s=⟨#[47]⟩) with
  |true=>rw [SL h1];exact ZA7 _
  |false=>
   rw [h1] at h
   simp only [cond_false] at h
   cases h2:decide (s=⟨#[]⟩)||decide (bM s 0≠47) with
   |true=>rw [h2] at h;cases h
   |false=>
    rw [h2] at h
    simp only [cond_false] at h
    unfold tz at h
    simp only [ZA9,decide_eq_true_eq] at h
    omega
def rJ (s:ByteArray) (top:ByteArray):Prop:=s.size≤1000000∧top.size≤1000000
def eW (s:ByteArray) (top:ByteArray):AV:=.s (.q (pz s top))
def OO (s:ByteArray) (top:ByteArray):List AV:=[]
def vY:ct where
 A:=[.s .str,.s .str]
 B:=[]
 pre:=fun x b=>rJ (x.1) (x.2)
 r:=fun x b _=>eW (x.1) (x.2)
 o:=fun x b _=>OO (x.1) (x.2)
theorem S9:Has Tryz.prog 229 vY:=by
 refine Has.fu zT zF zF (l:=[(259,vZ),(260,PX)]) ⟨TB,afT,aa⟩ Tryz.func229 ?_
 rintro⟨(s:ByteArray),(top:ByteArray)⟩ _ (hp:rJ s top)
 show vc _ _ _ _ (entry [.str s,.str top] []) _
 obtain⟨h1,h2⟩:=hp
 have hb:=xB s
 have hc:=xB top
 have hT:((bU s).1.take (((some ((bU top).1.length:Int)).getD (bU s).1.length).toNat-(((none:Option Int).getD 0).toNat)))=(bU s).1.take (bU top).1.length:=rfl
 have hm:∀x∈(bU s).1.take (bU top).1.length,x.size≤1000000:=fun x hx=>ZB0 (hb.2 x (ZE6 hx)) h1
 refine⟨⟨⟨aa,aa⟩,?_⟩,fun x1 w2=>⟨⟨⟨aa,aa⟩,?_⟩,fun x3 w4=>⟨aa,fun w5=>?_,fun w6=>⟨aa,fun w7=>?_,fun w8=>⟨fun w9=>?_,fun dy=>⟨⟨?_,?_,?_⟩,⟨⟨aa,aa⟩,?_,fun kB dK=>?_⟩,fun rZ gP=>⟨⟨⟨aa,aa⟩,?_,fun kA ki=>?_⟩,fun x17 rV=>?_⟩⟩⟩⟩⟩⟩⟩
 all_goals first|refine aw ?_|refine ax ?_|exact a8|(dsimp only [vZ,nu,PX,B4];omega)|exact a7|(show ((bU s).1.take (bU top).1.length).length≤1000;rw [ZC0];omega)|exact hm _ dK|exact ZB0 (hc.2 _ ki) h2|skip
 ·have e:pz s top=false:=by unfold pz;rw [w5];rfl
  refine⟨[],[],_,_,_,rfl,az,(),aa,?_,?_,rfl⟩
  ·(show _=eW s top);unfold eW;first|(rw [e];rfl)|rfl
  ·rfl
 ·have e:pz s top=false:=by unfold pz;rw [w6,w7];rfl
  refine⟨[],[],_,_,_,rfl,az,(),aa,?_,?_,rfl⟩
  ·(show _=eW s top);unfold eW;first|(rw [e];rfl)|rfl
  ·rfl
 ·have e:pz s top=false:=by unfold pz;rw [w6,w8,w9];rfl
  refine⟨[],[],_,_,_,rfl,az,(),aa,?_,?_,rfl⟩
  ·(show _=eW s top);unfold eW;first|(rw [e];rfl)|rfl
  ·rfl
 ·have e:pz s top=decide (oU ((bU s).1.take (bU top).1.length)=oU (bU top).1):=by unfold pz;rw [w6,w8,dy];rfl
  refine⟨[],[],_,_,_,rfl,az,(),aa,?_,?_,rfl⟩
  ·(show _=eW s top);unfold eW;first|(rw [e];rfl)|rfl
  ·rfl
def lf (s:ByteArray):Prop:=s.size≤1000000∧1≤(bD s).length
def u4 (s:ByteArray):AV:=.s (.str (nth ab (bD s) ((bD s).length-1)))
def VZ (s:ByteArray):List AV:=[]
def j8:ct where
 A:=[.s .str]
 B:=[]
 pre:=fun x b=>lf x
 r:=fun x b _=>u4 x
 o:=fun x b _=>VZ x
theorem wV:Has Tryz.prog 222 j8:=by
 refine Has.fu zT zF zF (l:=[(231,eR)]) ⟨mY,aa⟩ Tryz.func222 ?_
 rintro (s:ByteArray) _ (hp:lf s)
 show vc _ _ _ _ (entry [.str s] []) _
 obtain⟨h1,h2⟩:=hp
 have hnl:=qn (s:=s)
 refine⟨⟨⟨aa,aa⟩,?_⟩,fun x1 w2=>⟨⟨?_,?_⟩,⟨?_,?_⟩,?_⟩⟩
 all_goals first|refine aw ?_|refine ax ?_|exact a8|(dsimp only [eR,fC];omega)|exact a7|(unfold imax;omega)|skip
 refine⟨[],[],_,_,_,rfl,az,(),aa,?_,?_,rfl⟩
 ·(show _=u4 s);unfold u4;first|(exact congrArg (fun k:Nat=>AV.s (SV.str (nth ab (bD s) k))) (show ((bD s).length-1:Int).toNat=(bD s).length-1 by omega))|rfl
 ·rfl
def R7 (o:Opr):Bool:=decide (o.1=6)||decide (o.1=7)
def ahp (o:Opr):Bool:=decide (o.1=3)||decide (o.1=4)
def R8 (tw a:Bool) (o:Opr):Bool:=
 bif !(iB o.1 1 7)||(!(gb o.2.1)||((tw&& !(gb o.2.2.1))||(!tw&&decide (o.2.2.1≠⟨#[]⟩)))) then false
 else bif (decide (o.1≠3)&&decide (o.2.2.2.2≠⟨#[]⟩))||decide ((o.2.2.2.2.size:Int)>24) then false
 else decide (o.2.2.2.1=0)||(a&&iB o.2.2.2.1 0 192)
def Y3 (o:Opr):Bool:=R8 (R7 o) (ahp o) o
def vm (o:Opr):Prop:=o.2.1.size≤1000000∧o.2.2.1.size≤1000000
def GV (o:Opr):AV:=.s (.q (Y3 o))
def afA (o:Opr):List AV:=[]
def y9:ct where
 A:=[.a [.int,.str,.str,.int,.str]]
 B:=[]
 pre:=fun x b=>vm x
 r:=fun x b _=>GV x
 o:=fun x b _=>afA x
theorem W9:Has Tryz.prog 151 y9:=by
 refine Has.ofP 3 zT zF zF (l:=[(95,dE),(188,qG)]) ⟨iz,IN,aa⟩ Tryz.func151 ?_
 rintro⟨(o1:Int),(o2:ByteArray),(o3:ByteArray),(o4:Int),(o5:ByteArray)⟩ _ (hp:vm (o1,o2,o3,o4,o5))
 show vcP _ _ _ _ 3 _ (entry [.a [.int o1,.str o2,.str o3,.int o4,.str o5]] [])
 obtain⟨(h1:o2.size≤1000000),(h2:o3.size≤1000000)⟩:=hp
 refine ze (l:=[(95,dE),(188,qG)]) (ex:=zT) (wr:=zF) (pt:=zF) ⟨iz,IN,aa⟩ (fun y:Bool×Bool=>[(.s 1,.s (.bp 1001 0)),(.s 3,.s (.q y.1)),(.s 4,.s (.q y.2)),(.b 1001,.a [.int o1,.str o2,.str o3,.int o4,.str o5])]) (fun y=>y.1=R7 (o1,o2,o3,o4,o5)∧y.2=ahp (o1,o2,o3,o4,o5)) (xf 3 (J7 Tryz.f151)) ?_ (fun tail=>?_)
 ·rintro⟨tw,at'⟩ ⟨(h3:tw=R7 (o1,o2,o3,o4,o5)),(h4:at'=ahp (o1,o2,o3,o4,o5))⟩
  have e:Y3 (o1,o2,o3,o4,o5)=R8 tw at' (o1,o2,o3,o4,o5):=by rw [h3,h4];rfl
  clear h3 h4
  show vc _ _ _ _ (DY.ap [(.s 1,.s (.bp 1001 0)),(.s 3,.s (.q tw)),(.s 4,.s (.q at')),(.b 1001,.a [.int o1,.str o2,.str o3,.int o4,.str o5])]) _
  refine⟨⟨⟨aa,aa,aa,aa⟩,aa⟩,fun x1 w2=>⟨aa,fun w3=>?_,fun w4=>⟨⟨⟨aa,aa⟩,?_⟩,fun x5 w6=>⟨aa,fun w7=>?_,fun w8=>⟨aa,fun w9=>⟨⟨⟨aa,aa⟩,?_⟩,fun x10 kC=>⟨aa,fun dK=>?_,fun iV=>⟨aa,fun gP=>⟨fun qN=>?_,fun ki=>⟨aa,fun xk=>⟨aa,fun rV=>?_,fun oN=>⟨fun uL=>?_,fun A4=>⟨aa,fun A3=>?_,fun xM=>⟨aa,fun rU=>⟨⟨⟨aa,aa,aa,aa⟩,aa⟩,fun x25 w26=>?_⟩,fun w27=>?_⟩⟩⟩⟩,fun w28=>⟨fun w29=>?_,fun w30=>⟨aa,fun w31=>?_,fun w32=>⟨aa,fun w33=>⟨⟨⟨aa,aa,aa,aa⟩,aa⟩,fun x34 w35=>?_⟩,fun w36=>?_⟩⟩⟩⟩⟩,fun w37=>⟨aa,fun w38=>⟨aa,fun w39=>?_,fun w40=>⟨fun w41=>?_,fun w42=>⟨aa,fun w43=>?_,fun w44=>⟨aa,fun w45=>⟨⟨⟨aa,aa,aa,aa⟩,aa⟩,fun x46 w47=>?_⟩,fun w48=>?_⟩⟩⟩⟩,fun w49=>⟨fun w50=>?_,fun w51=>⟨aa,fun w52=>?_,fun w53=>⟨aa,fun w54=>⟨⟨⟨aa,aa,aa,aa⟩,aa⟩,fun x55 w56=>?_⟩,fun w57=>?_⟩⟩⟩⟩⟩⟩⟩,fun w58=>⟨aa,fun w59=>⟨fun w60=>?_,fun w61=>⟨aa,fun w62=>⟨aa,fun w63=>?_,fun w64=>⟨fun w65=>?_,fun w66=>⟨aa,fun w67=>?_,fun w68=>⟨aa,fun w69=>⟨⟨⟨aa,aa,aa,aa⟩,aa⟩,fun x70 w71=>?_⟩,fun w72=>?_⟩⟩⟩⟩,fun w73=>⟨fun w74=>?_,fun w75=>⟨aa,fun w76=>?_,fun w77=>⟨aa,fun w78=>⟨⟨⟨aa,aa,aa,aa⟩,aa⟩,fun x79 w80=>?_⟩,fun w81=>?_⟩⟩⟩⟩⟩,fun w82=>⟨aa,fun w83=>⟨aa,fun w84=>?_,fun w85=>⟨fun w86=>?_,fun w87=>⟨aa,fun w88=>?_,fun w89=>⟨aa,fun w90=>⟨⟨⟨aa,aa,aa,aa⟩,aa⟩,fun x91 w92=>?_⟩,fun w93=>?_⟩⟩⟩⟩,fun w94=>⟨fun w95=>?_,fun w96=>⟨aa,fun w97=>?_,fun w98=>⟨aa,fun w99=>⟨⟨⟨aa,aa,aa,aa⟩,aa⟩,fun alw ako=>?_⟩,fun al1=>?_⟩⟩⟩⟩⟩⟩⟩⟩⟩⟩
  all_goals first|refine aw ?_|refine ax ?_|exact a8|(dsimp only [qG,mR];omega)|exact a7|exact h1|exact h2|skip
  all_goals
   refine⟨[],[],_,_,_,rfl,az,(),0,aa,?_,?_,rfl⟩
   ·(show _=GV (o1,o2,o3,o4,o5));unfold GV;first|((rw [e];simp only [R8, *];rfl))|((rw [e];simp [R8, *]<;>rfl))|((exfalso;clear e;simp_all))|rfl
   ·rfl
 ·refine⟨aa,fun w1=>⟨aa,fun w2=>?_,fun w3=>?_⟩,fun w4=>⟨aa,fun w5=>?_,fun w6=>?_⟩⟩
  all_goals first|refine aw ?_|refine ax ?_|exact a8|(dsimp only [qG,mR];omega)|exact a7|skip
  ·refine joinTail tail ((true,decide (o1=4))) [] ((⟨by show true=(decide (o1=6)||decide (o1=7));rw [w1];rfl,by show decide (o1=4)=(decide (o1=3)||decide (o1=4));rw [w3];rfl⟩)) ?_
   repeat' (first|exact trivial|rfl|exact rfl|exact fP ZA0.symm|apply And.intro)
  ·refine joinTail tail ((decide (o1=7),true)) [] ((⟨by show decide (o1=7)=(decide (o1=6)||decide (o1=7));rw [w4];rfl,by show true=(decide (o1=3)||decide (o1=4));rw [w5];rfl⟩)) ?_
   repeat' (first|exact trivial|rfl|exact rfl|exact fP ZA0.symm|apply And.intro)
  ·refine joinTail tail ((decide (o1=7),decide (o1=4))) [] ((⟨by show decide (o1=7)=(decide (o1=6)||decide (o1=7));rw [w4];rfl,by show decide (o1=4)=(decide (o1=3)||decide (o1=4));rw [w6];rfl⟩)) ?_
   repeat' (first|exact trivial|rfl|exact rfl|exact fP ZA0.symm|apply And.intro)
end GL
end Go.Proofs.YtkgpljpmdkflmaaGreatDoor
