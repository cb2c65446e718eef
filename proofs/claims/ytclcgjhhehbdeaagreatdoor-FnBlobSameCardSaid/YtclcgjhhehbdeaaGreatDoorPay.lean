/- A drawn law returns true for every code (its row lists package variables, tied by the card): part 25. -/
import Derived.Test.YtclcgjhhehbdeaaGreatDoorPan
import Derived.Test.YtclcgjhhehbdeaaGreatDoorPav
import Derived.Test.YtclcgjhhehbdeaaGreatDoorPaw
set_option maxHeartbeats 20000000
set_option maxRecDepth 100000
set_option linter.all false
namespace Go.Proofs.YtclcgjhhehbdeaaGreatDoor
namespace GL
def egB (w:List ByteArray) (i:Nat):List ByteArray:=bm (nth ab w i) 61
def egF:Nat→List ByteArray→Nat→List eS→Option (List eS)
 |0,_,_,out=>some out
 |f+1,w,i,out=>bif decide ((i:Int)+1<(w.length:Int)) then
   (bif decide (((egB w i).length:Int)≠2) then none else egF f w (i+1) (out++[(nth ab (egB w i) 0,(aD (nth ab (egB w i) 1)).1)])) else some out
def EB (s:ByteArray) (out:List eS):List eS×Bool:=bif !(eD out)||decide (eg out≠s) then ([],false) else (out,true)
def cP (s:ByteArray):List eS×Bool:=match egF ((bm s 59).length) (bm s 59) 0 [] with
 |none=>([],false)
 |some out=>EB s out
theorem agU {f:Nat}{w:List ByteArray}{i:Nat}{out:List eS}(h:decide ((i:Int)+1<(w.length:Int))=true) (h2:decide (((egB w i).length:Int)≠2)=true):egF (f+1) w i out=none:=by rw [egF,h,h2];rfl
theorem agT {f:Nat}{w:List ByteArray}{i:Nat}{out:List eS}(h:decide ((i:Int)+1<(w.length:Int))=true) (h2:decide (((egB w i).length:Int)≠2)=false):egF (f+1) w i out=egF f w (i+1) (out++[(nth ab (egB w i) 0,(aD (nth ab (egB w i) 1)).1)]):=by rw [egF,h,h2];rfl
theorem aag {f:Nat}{w:List ByteArray}{i:Nat}{out:List eS}(h:decide ((i:Int)+1<(w.length:Int))=false):egF f w i out=some out:=by
 cases f with
 |zero=>rfl
 |succ f=>rw [egF,h];rfl
theorem xB {s:ByteArray}(h:egF ((bm s 59).length) (bm s 59) 0 []=none):cP s=([],false):=by unfold cP;rw [h]
theorem ns {s:ByteArray}{out:List eS}(h:egF ((bm s 59).length) (bm s 59) 0 []=some out):cP s=EB s out:=by unfold cP;rw [h]
theorem aae {s:ByteArray}{out:List eS}(h:(!(eD out))=true):EB s out=([],false):=by unfold EB;rw [h];rfl
theorem aad {s:ByteArray}{out:List eS}(h:decide (eg out≠s)=true):EB s out=([],false):=by unfold EB;rw [h,ZC4];rfl
theorem aaf {s:ByteArray}{out:List eS}(h:(!(eD out))=false) (h2:decide (eg out≠s)=false):EB s out=(out,true):=by unfold EB;rw [h,h2];rfl
theorem Z9 {l:List eS}:∀{f i:Nat},zX f l i=true→∀k,i≤k→k<i+f→kb l k=false
 |0,i,_,k,h1,h2=>by omega
 |f+1,i,h,k,h1,h2=>by
  cases hb:kb l i with
  |true=>rw [PM hb] at h;cases h
  |false=>
   rw [XO hb] at h
   by_cases e:k=i
   ·rw [e];exact hb
   ·exact Z9 h k (by omega) (by omega)
theorem xA {l:List eS}(h:eD l=true):l.length≤12∧∀e∈l,fB e.1=true∧1≤e.2∧e.2≤15:=by
 unfold eD at h
 simp only [ZA9,decide_eq_true_eq] at h
 refine⟨by omega,fun e he=>?_⟩
 obtain⟨k,hk,rfl⟩:=List.mem_iff_getElem.1 he
 have hb:=Z9 h.1 k (ZA7 _) (by omega)
 unfold kb at hb
 simp only [ZE1,Bool.not_eq_false',cC] at hb
 have hn:nth aK l k=l[k]:=by
  have:=oz (ek:=aK) hk
  rw [ZB1 hk] at this
  exact (ZG5 this).symm
 rw [hn] at hb
 exact⟨hb.1,hb.2.1⟩
theorem DV {s:ByteArray}(h:fB s=true):1≤s.size∧s.size≤4:=by
 unfold fB at h
 simp only [ZA9,cC] at h
 omega
theorem ab9.akx {l:List eS}(h:eD l=true):ab9 l:=by
 obtain⟨h1,h2⟩:=xA h
 refine⟨by omega,fun e he=>?_,fun e he=>?_⟩
 ·have:=DV (h2 e he).1;omega
 ·have:=(h2 e he).2;omega
theorem aeK {w:List ByteArray}(hw:∀x∈w,x.size≤1000000):∀{f i:Nat}{out o:List eS},egF f w i out=some o→(∀e∈out,e.1.size≤1000000)→∀e∈o,e.1.size≤1000000
 |0,i,out,o,h,ho=>by cases h;exact ho
 |f+1,i,out,o,h,ho=>by
  cases h1:decide ((i:Int)+1<(w.length:Int)) with
  |false=>rw [aag h1] at h;cases h;exact ho
  |true=>
   cases h2:decide (((egB w i).length:Int)≠2) with
   |true=>rw [agU h1 h2] at h;cases h
   |false=>
    rw [agT h1 h2] at h
    refine aeK hw h fun e he=>?_
    rcases ZB4.1 he with he |he
    ·exact ho e he
    ·rw [ZC7.1 he]
     have h3:=aJ h1
     have hx:=hw _ (bR (ek:=ab) (l:=w) (k:=i) (by omega))
     have h4:=aA h2
     exact ZB0 (oT _ (bR (ek:=ab) (l:=egB w i) (k:=0) (by omega))) hx
def lO (s:ByteArray):Prop:=s.size≤1000000
def en (s:ByteArray):AV:=.t [.s (.xs 0 2 0 (cP s).1.length),.s (.q (cP s).2)]
def eX (s:ByteArray):List AV:=[.rs aK (cP s).1]
def ue:cn where
 A:=[.s .str]
 B:=[]
 pre:=fun x b=>lO x
 r:=fun x b _=>en x
 o:=fun x b _=>eX x
 nf:=1
theorem PE:Has Tryz.prog 193 ue:=by
 refine Has.fl zT zF zF (l:=[(166,iB),(125,jD),(202,od),(177,qu)]) ⟨tC,vt,D0,ID,aa⟩ Tryz.func193 ?_
 rintro (s:ByteArray) _ (hp:lO s)
 show vc _ _ _ _ (entry [.str s] []) _
 unfold lO at hp
 have hcl:=tS s 59
 have mj:=oT (s:=s) (c:=59)
 refine⟨aa,⟨tv3,?_⟩,fun x1 w2=>?_⟩
 all_goals first|refine aw ?_|refine ax ?_|exact a8|(dsimp only [iB,iO,jD,gH,od,np,qu,pX];omega)|exact a7|skip
 refine cN (l:=[(166,iB),(125,jD),(202,od),(177,qu)]) (ex:=zT) (wr:=zF) (pt:=zF) ⟨tC,vt,D0,ID,trivial⟩ [.s 0,.s 5,.b 130000] (fun y:Nat×Nat×List eS=>[(.s 4,.s (.xs 1010 2 0 y.2.2.length)),(.s 6,.int y.1),(.b 1010,.rs aK y.2.2)]) (fun y=>(y.1+y.2.1=(bm s 59).length∧1≤y.2.1)∧y.2.2.length=y.1∧(∀e∈y.2.2,e.1.size≤1000000)∧egF y.2.1 (bm s 59) y.1 y.2.2=egF (bm s 59).length (bm s 59) 0 []) (fun y=>y.2.1) (0,(bm s 59).length,[]) [] ⟨⟨ZA6 _,hcl.1⟩,rfl,(fun _ h=>by cases h),rfl⟩ dL ?_
 rintro⟨i,f,out⟩ ⟨⟨(hi:i+f=(bm s 59).length),(hf1:1≤f)⟩,(hlo:out.length=i),(hos:∀e∈out,e.1.size≤1000000),(hr:egF f (bm s 59) i out=egF (bm s 59).length (bm s 59) 0 [])⟩
 have bU:decide ((i:Int)+1<((bm s 59).length:Int))=true→i<(bm s 59).length:=fun h=>by have:=aJ h;omega
 have hxs:i<(bm s 59).length→(nth ab (bm s 59) i).size≤1000000:=fun h=>ZB0 (mj _ (bR (ek:=ab) h)) hp
 have hbl:=tS (nth ab (bm s 59) i) 61
 refine⟨⟨?_,?_⟩,fun w1=>⟨⟨?_,?_⟩,?_,⟨tv3,?_⟩,fun x2 w3=>⟨fun w4=>⟨aa,?_⟩,fun w5=>⟨⟨?_,?_⟩,?_,⟨tv2,?_⟩,fun x6 w7=>⟨⟨?_,?_⟩,?_,aa,⟨⟨?_,?_⟩,?_,?_⟩,⟨?_,?_⟩,?_⟩⟩⟩⟩,fun w8=>⟨⟨⟨⟨?_,?_⟩,aa⟩,?_⟩,fun x9 dx=>⟨aa,fun kx=>⟨aa,?_⟩,fun dI=>⟨⟨⟨⟨?_,?_⟩,aa⟩,?_⟩,fun rS gN=>⟨fun qG=>⟨aa,?_⟩,fun kc=>?_⟩⟩⟩⟩⟩
 all_goals first|refine aw ?_|refine ax ?_|exact a8|(dsimp only [iB,iO,jD,gH,od,np,qu,pX];omega)|exact a7|exact bU w1|exact hxs (bU w1)|skip
 ·obtain⟨g,rfl⟩:∃g,f=g+1:=⟨f-1,by have:=bU w1;omega⟩
  have e:cP s=([],false):=xB (by rw [←hr];exact agU w1 w4)
  refine⟨[1028],[],_,_,_,rfl,az,(),aa,?_,?_,rfl⟩
  ·(show _=en s);unfold en;first|(rw [e];rfl)|rfl
  ·(show _=eX s);unfold eX;first|(rw [e];rfl)|rfl
 ·have h2:(bm (nth ab (bm s 59) i) 61).length=2:=by have:=aA (p:=((bm (nth ab (bm s 59) i) 61).length:Int)≠2) w5;omega
  show (1:Int)<((bm (nth ab (bm s 59) i) 61).length:Int);omega
 ·have h2:(bm (nth ab (bm s 59) i) 61).length=2:=by have:=aA (p:=((bm (nth ab (bm s 59) i) 61).length:Int)≠2) w5;omega
  show 1<(bm (nth ab (bm s 59) i) 61).length;omega
 ·have h2:(bm (nth ab (bm s 59) i) 61).length=2:=by have:=aA (p:=((bm (nth ab (bm s 59) i) 61).length:Int)≠2) w5;omega
  have h3:(nth ab (bm (nth ab (bm s 59) i) 61) 1).size≤1000000:=ZB0 (oT (s:=(nth ab (bm s 59) i)) (c:=61) _ (bR (ek:=ab) (l:=bm (nth ab (bm s 59) i) 61) (k:=1) (by omega))) (hxs (bU w1))
  show ((nth ab (bm (nth ab (bm s 59) i) 61) 1).size:Int)≤1000000000000;omega
 ·obtain⟨g,rfl⟩:∃g,f=g+1:=⟨f-1,by have:=bU w1;omega⟩
  have h2:(bm (nth ab (bm s 59) i) 61).length=2:=by have:=aA (p:=((bm (nth ab (bm s 59) i) 61).length:Int)≠2) w5;omega
  refine⟨(i+1,g,out++[(nth ab (egB (bm s 59) i) 0,(aD (nth ab (egB (bm s 59) i) 1)).1)]),[(1010,1043)],?_,?_,?_⟩
  rotate_right
  ·exact bV
  ·refine⟨⟨by show i+1+g=(bm s 59).length;omega,by show 1≤g;have:=aJ (p:=(i:Int)+1<((bm s 59).length:Int)) w1;omega⟩,by show (out++[_]).length=i+1;rw [ZA0,hlo];rfl,fun e he=>?_,by rw [←hr];exact (agT w1 w5).symm⟩
   rcases ZB4.1 he with he |he
   ·exact hos e he
   ·rw [ZC7.1 he]
    exact ZB0 (oT (s:=(nth ab (bm s 59) i)) (c:=61) _ (bR (ek:=ab) (l:=bm (nth ab (bm s 59) i) 61) (k:=0) (by omega))) (hxs (bU w1))
  ·exact ZD9 g
 ·exact (⟨by show out.length≤1000000;have:=aA (p:=(i:Int)+1<((bm s 59).length:Int)) w8;omega,hos⟩:afp out)
 ·have e0:egF (bm s 59).length (bm s 59) 0 []=some out:=by rw [←hr];exact aag w8
  have e:cP s=([],false):=by rw [ns e0];exact aae kx
  refine⟨[1053],[],_,_,_,rfl,az,(),aa,?_,?_,rfl⟩
  ·(show _=en s);unfold en;first|(rw [e];rfl)|rfl
  ·(show _=eX s);unfold eX;first|(rw [e];rfl)|rfl
 ·exact ab9.akx (cL dI)
 ·have e0:egF (bm s 59).length (bm s 59) 0 []=some out:=by rw [←hr];exact aag w8
  have e:cP s=([],false):=by rw [ns e0];exact aad qG
  refine⟨[1053],[],_,_,_,rfl,az,(),aa,?_,?_,rfl⟩
  ·(show _=en s);unfold en;first|(rw [e];rfl)|rfl
  ·(show _=eX s);unfold eX;first|(rw [e];rfl)|rfl
 ·have e0:egF (bm s 59).length (bm s 59) 0 []=some out:=by rw [←hr];exact aag w8
  have e:cP s=(out,true):=by rw [ns e0];exact aaf dI kc
  refine⟨[1010],[],_,_,_,rfl,az,(),aa,?_,?_,rfl⟩
  ·(show _=en s);unfold en;first|(rw [e];rfl)|rfl
  ·(show _=eX s);unfold eX;first|(rw [e];rfl)|rfl
end GL
namespace GL
def bC (s:ByteArray):List ByteArray:=bif decide (s=⟨#[47]⟩) then [] else (bm s 47).drop 1
theorem SI {s:ByteArray}(h:decide (s=⟨#[47]⟩)=true):bC s=[]:=by unfold bC;rw [h];rfl
theorem adq {s:ByteArray}(h:decide (s=⟨#[47]⟩)=false):bC s=(bm s 47).drop 1:=by unfold bC;rw [h];rfl
theorem CB {s:ByteArray}:∀x∈bC s,x.size≤s.size:=by
 intro x hx
 unfold bC at hx
 cases h:decide (s=⟨#[47]⟩) with
 |true=>rw [h] at hx;cases hx
 |false=>rw [h] at hx;exact oT x (ZF2 hx)
theorem qg {s:ByteArray}:(bC s).length≤s.size:=by
 unfold bC
 cases h:decide (s=⟨#[47]⟩) with
 |true=>exact ZA7 _
 |false=>have:=tS s 47;simp only [cond_false,ZD0];omega
def fA (s:ByteArray):Prop:=s.size≤1000000
def lC (s:ByteArray):AV:=.s (.vw ab (bC s))
def RU (s:ByteArray):List AV:=[]
def eP:cn where
 A:=[.s .str]
 B:=[]
 pre:=fun x b=>fA x
 r:=fun x b _=>lC x
 o:=fun x b _=>RU x
theorem mR:Has Tryz.prog 162 eP:=by
 refine Has.fl zT zF zF (l:=[(166,iB)]) ⟨tC,aa⟩ Tryz.func162 ?_
 rintro (s:ByteArray) _ (hp:fA s)
 show vc _ _ _ _ (entry [.str s] []) _
 unfold fA at hp
 have hb:=tS s 47
 have hv:(((bm s 47).drop (0+1)).take ((bm s 47).length-1))=(bm s 47).drop 1:=ZD1 (by rw [ZD0];omega)
 refine⟨fun w1=>⟨aa,?_⟩,fun w2=>⟨⟨tv3,?_⟩,fun x3 w4=>⟨⟨?_,?_,?_⟩,?_⟩⟩⟩
 all_goals first|refine aw ?_|refine ax ?_|exact a8|(dsimp only [iB,iO];omega)|exact a7|skip
 ·refine⟨[],[],_,_,_,rfl,cf,(),aa,?_,?_,rfl⟩
  ·(show _=lC s);unfold lC;first|(rw [SI w1];rfl)|rfl
  ·rfl
 ·refine⟨[],[],_,_,_,rfl,cf,(),aa,?_,?_,rfl⟩
  ·(show _=lC s);unfold lC;first|(rw [adq w2,←hv];rfl)|rfl
  ·rfl
def G4:Nat→List ByteArray→Nat→Bool
 |0,_,_=>true
 |f+1,l,i=>bif fB (nth ab l i) then G4 f l (i+1) else false
def tl (l:List ByteArray):Bool:=G4 l.length l 0&&decide ((l.length:Int)≤4)
def ga (s:ByteArray):Bool:=bif decide (s=⟨#[47]⟩) then true else bif decide (s=⟨#[]⟩)||decide (bL s 0≠47) then false else tl (bC s)
theorem ahc {f:Nat}{l:List ByteArray}{i:Nat}(h:(!(fB (nth ab l i)))=true):G4 (f+1) l i=false:=by rw [G4,xi h];rfl
theorem ahb {f:Nat}{l:List ByteArray}{i:Nat}(h:(!(fB (nth ab l i)))=false):G4 (f+1) l i=G4 f l (i+1):=by rw [G4,cL h];rfl
theorem aaV {s:ByteArray}(h:decide (s=⟨#[47]⟩)=true):ga s=true:=by unfold ga;rw [h];rfl
theorem aaU {s:ByteArray}(h:decide (s=⟨#[47]⟩)=false) (h2:decide (s=⟨#[]⟩)=true):ga s=false:=by unfold ga;rw [h,h2];rfl
theorem aaT {s:ByteArray}(h:decide (s=⟨#[47]⟩)=false) (h2:decide (bL s 0≠47)=true):ga s=false:=by unfold ga;rw [h,h2,ZC4];rfl
theorem aaS {s:ByteArray}(h:decide (s=⟨#[47]⟩)=false) (h2:decide (s=⟨#[]⟩)=false) (h3:decide (bL s 0≠47)=false):ga s=tl (bC s):=by unfold ga;rw [h,h2,h3];rfl
def mK (s:ByteArray):Prop:=s.size≤1000000
def fR (s:ByteArray):AV:=.s (.q (ga s))
def abj (s:ByteArray):List AV:=[]
def qz:cn where
 A:=[.s .str]
 B:=[]
 pre:=fun x b=>mK x
 r:=fun x b _=>fR x
 o:=fun x b _=>abj x
theorem II:Has Tryz.prog 123 qz:=by
 refine Has.fl zT zF zF (l:=[(162,eP),(163,oc)]) ⟨mR,zH,aa⟩ Tryz.func123 ?_
 rintro (s:ByteArray) _ (hp:mK s)
 show vc _ _ _ _ (entry [.str s] []) _
 unfold mK at hp
 have hnl:=qg (s:=s)
 have hns:=CB (s:=s)
 have oQ:decide (s=⟨#[]⟩)=false→0<(s.size:Int):=fun h=>by have:=size_pos (aA h);omega
 refine⟨fun w1=>?_,fun w2=>⟨aa,fun w3=>?_,fun w4=>⟨⟨?_,?_⟩,fun w5=>?_,fun w6=>⟨⟨tv2,?_⟩,fun x7 w8=>?_⟩⟩⟩⟩
 all_goals first|refine aw ?_|refine ax ?_|exact a8|(dsimp only [eP,fA,oc,mL];omega)|exact a7|exact oQ w4|skip
 ·refine⟨[],[],_,_,_,rfl,az,(),aa,?_,?_,rfl⟩
  ·(show _=fR s);unfold fR;first|(rw [aaV w1];rfl)|rfl
  ·rfl
 ·refine⟨[],[],_,_,_,rfl,az,(),aa,?_,?_,rfl⟩
  ·(show _=fR s);unfold fR;first|(rw [aaU w2 w3];rfl)|rfl
  ·rfl
 ·refine⟨[],[],_,_,_,rfl,az,(),aa,?_,?_,rfl⟩
  ·(show _=fR s);unfold fR;first|(rw [aaT w2 w5];rfl)|rfl
  ·rfl
 ·have hM:=aaS w2 w4 w6
  refine cN (l:=[(162,eP),(163,oc)]) (ex:=zT) (wr:=zF) (pt:=zF) ⟨mR,zH,aa⟩ [.s 0,.s 3] (fun y:Nat×Nat=>[(.s 4,.int y.1)]) (fun y=>y.1+y.2=(bC s).length∧G4 y.2 (bC s) y.1=G4 (bC s).length (bC s) 0) (fun y=>y.2) (0,(bC s).length) [] ⟨ZA6 _,rfl⟩ dL ?_
  rintro⟨k,f⟩ ⟨(hk:k+f=(bC s).length),(he:G4 f (bC s) k=G4 (bC s).length (bC s) 0)⟩
  have bU:decide ((k:Int)<((bC s).length:Int))=true→k<(bC s).length:=fun h=>by have:=aJ h;omega
  have dj:k<(bC s).length→(nth ab (bC s) k).size≤1000000:=fun h=>ZB0 (hns _ (bR (ek:=ab) h)) hp
  refine⟨fun w1=>⟨⟨?_,?_⟩,⟨tv2,?_⟩,fun x2 w3=>⟨fun w4=>?_,fun w5=>⟨⟨?_,?_⟩,?_⟩⟩⟩,fun w6=>?_⟩
  all_goals first|refine aw ?_|refine ax ?_|exact a8|(dsimp only [eP,fA,oc,mL];omega)|exact a7|exact bU w1|exact dj (bU w1)|skip
  ·obtain⟨g,rfl⟩:∃g,f=g+1:=⟨f-1,by have:=bU w1;omega⟩
   have e:tl (bC s)=false:=by unfold tl;rw [←he,ahc (show (!(fB (nth ab (bC s) k)))=true from w4)];rfl
   refine⟨[],[],_,_,_,rfl,az,(),aa,?_,?_,rfl⟩
   ·(show _=fR s);unfold fR;first|(rw [hM,e];rfl)|rfl
   ·rfl
  ·obtain⟨g,rfl⟩:∃g,f=g+1:=⟨f-1,by have:=bU w1;omega⟩
   refine⟨(k+1,g),[],?_,?_,?_⟩
   rotate_right
   ·exact bV
   ·exact⟨by show k+1+g=(bC s).length;omega,by rw [←he];exact (ahb w5).symm⟩
   ·exact ZD9 g
  ·have hf:f=0:=by have:=aA (p:=(k:Int)<((bC s).length:Int)) w6;omega
   subst hf
   have e:tl (bC s)=decide (((bC s).length:Int)≤4):=by unfold tl;rw [←he];rfl
   refine⟨[],[],_,_,_,rfl,az,(),aa,?_,?_,rfl⟩
   ·(show _=fR s);unfold fR;first|(rw [hM,e];rfl)|rfl
   ·rfl
def bT (s:ByteArray):List ByteArray×Bool:=bif !(ga s) then ([],false) else (bC s,true)
theorem OD {s:ByteArray}(h:(!(ga s))=true):bT s=([],false):=by unfold bT;rw [h];rfl
theorem OC {s:ByteArray}(h:(!(ga s))=false):bT s=(bC s,true):=by unfold bT;rw [h];rfl
def nj (s:ByteArray):Prop:=s.size≤1000000
def kf (s:ByteArray):AV:=.t [.s (.vw ab (bT s).1),.s (.q (bT s).2)]
def OL (s:ByteArray):List AV:=[]
def vS:cn where
 A:=[.s .str]
 B:=[]
 pre:=fun x b=>nj x
 r:=fun x b _=>kf x
 o:=fun x b _=>OL x
theorem S7:Has Tryz.prog 182 vS:=by
 refine Has.fl zT zF zF (l:=[(123,qz),(162,eP)]) ⟨II,mR,aa⟩ Tryz.func182 ?_
 rintro (s:ByteArray) _ (hp:nj s)
 show vc _ _ _ _ (entry [.str s] []) _
 unfold nj at hp
 have hnl:=qg (s:=s)
 refine⟨⟨tv2,?_⟩,fun x1 w2=>⟨fun w3=>⟨aa,?_⟩,fun w4=>⟨aa,⟨tv2,?_⟩,fun x5 w6=>⟨⟨⟨?_,?_⟩,aa⟩,?_⟩⟩⟩⟩
 all_goals first|refine aw ?_|refine ax ?_|exact a8|(dsimp only [qz,mK,eP,fA];omega)|exact a7|skip
 ·refine⟨[],[],_,_,_,rfl,cf,(),aa,?_,?_,rfl⟩
  ·(show _=kf s);unfold kf;first|(rw [OD w3];rfl)|rfl
  ·rfl
 ·have hv:([]++bC s)=bC s:=ZC9 _
  refine⟨[],[],_,_,_,rfl,cf,(),aa,?_,?_,rfl⟩
  ·(show _=kf s);unfold kf;first|(show AV.t [A0.s (SV.vw ab (List.take (([]:List ByteArray).length+(bC s).length) (List.drop 0 ([]++bC s)))),A0.s (SV.q true)]=_;simp only [ZC9,ZF0,ZA4,ZA6,List.take_length,OC w4])|rfl
  ·rfl
def jl (o x:ByteArray):ByteArray:=o++⟨#[47]⟩++x
def oO (l:List ByteArray):ByteArray:=bif decide (l.foldl jl ⟨#[]⟩=⟨#[]⟩) then ⟨#[47]⟩ else l.foldl jl ⟨#[]⟩
theorem aaX {l:List ByteArray}{o:ByteArray}(h:l.foldl jl ⟨#[]⟩=o) (h2:decide (o=⟨#[]⟩)=true):oO l=⟨#[47]⟩:=by unfold oO;rw [h,h2];rfl
theorem aaW {l:List ByteArray}{o:ByteArray}(h:l.foldl jl ⟨#[]⟩=o) (h2:decide (o=⟨#[]⟩)=false):oO l=o:=by unfold oO;rw [h,h2];rfl
def BZ (l:List ByteArray):Prop:=l.length≤1000∧∀x∈l,x.size≤1000000
def r3 (l:List ByteArray):AV:=.s (.str (oO l))
def ac0 (l:List ByteArray):List AV:=[]
def PT:cn where
 A:=[.s (.vz ab)]
 B:=[]
 pre:=fun x b=>BZ x
 r:=fun x b _=>r3 x
 o:=fun x b _=>ac0 x
theorem afR:Has Tryz.prog 183 PT:=by
 refine Has.fl zT zF zF (l:=[]) trivial Tryz.func183 ?_
 rintro (l:List ByteArray) _ (hp:BZ l)
 show vc _ _ _ _ (entry [.s (.vz ab l)] []) _
 obtain⟨hlen,dj⟩:=hp
 refine ?_
 all_goals first|refine aw ?_|refine ax ?_|exact a8|exact a7|skip
 refine cN (l:=[]) (ex:=zT) (wr:=zF) (pt:=zF) trivial [.s 0] (fun y:Nat×ByteArray=>[(.s 3,.str y.2),(.s 4,.int y.1)]) (fun y=>y.1≤l.length∧y.2.size≤1000001*y.1∧(l.drop y.1).foldl jl y.2=l.foldl jl ⟨#[]⟩) (fun y=>l.length-y.1) (0,⟨#[]⟩) [] ⟨ZA7 _,ZA7 _,rfl⟩ dL ?_
 rintro⟨i,out⟩ ⟨(hi:i≤l.length),(ho:out.size≤1000001*i),(hr:(l.drop i).foldl jl out=l.foldl jl ⟨#[]⟩)⟩
 have bU:decide ((i:Int)<(l.length:Int))=true→i<l.length:=fun h=>by have:=aJ h;omega
 have hx:i<l.length→(nth ab l i).size≤1000000:=fun h=>dj _ (bR (ek:=ab) h)
 refine⟨fun w1=>⟨?_,⟨⟨?_,?_⟩,⟨?_,⟨⟨?_,?_⟩,?_⟩⟩⟩⟩,fun w2=>⟨fun w3=>?_,fun w4=>?_⟩⟩
 all_goals first|refine aw ?_|refine ax ?_|exact a8|exact a7|exact bU w1|(unfold imax;simp only [ZB2,ZA5,sz1];have:=hx (bU w1);omega)|skip
 ·have mh:=bU w1
  refine⟨(i+1,jl out (nth ab l i)),[],?_,?_,?_⟩
  rotate_right
  ·exact bV
  ·refine⟨mh,?_,by rw [←hr,bW (ek:=ab) mh];rfl⟩
   show (out++⟨#[47]⟩++nth ab l i).size≤1000001*(i+1)
   have a1:=hx mh
   simp only [ZB2]
   rw [show (⟨#[47]⟩:ByteArray).size=1 from rfl];omega
  ·show l.length-(i+1)<l.length-i;omega
 ·have e:l.foldl jl ⟨#[]⟩=out:=by rw [←hr,ZB3 (by have:=aA (p:=(i:Int)<(l.length:Int)) w2;omega)];rfl
  refine⟨[],[],_,_,_,rfl,az,(),aa,?_,?_,rfl⟩
  ·(show _=r3 l);unfold r3;first|(rw [aaX e w3];rfl)|rfl
  ·rfl
 ·have e:l.foldl jl ⟨#[]⟩=out:=by rw [←hr,ZB3 (by have:=aA (p:=(i:Int)<(l.length:Int)) w2;omega)];rfl
  refine⟨[],[],_,_,_,rfl,az,(),aa,?_,?_,rfl⟩
  ·(show _=r3 l);unfold r3;first|(rw [aaW e w4];rfl)|rfl
  ·rfl
def po (s top:ByteArray):Bool:=
 bif !(bT s).2||(!(bT top).2||decide (((bT s).1.length:Int)<((bT top).1.length:Int))) then false
 else decide (oO ((bT s).1.take (bT top).1.length)=oO (bT top).1)
theorem xu (s:ByteArray):(bT s).1.length≤4∧∀x∈(bT s).1,x.size≤s.size:=by
 unfold bT
 cases h: !(ga s) with
 |true=>exact⟨ZA7 _,fun x hx=>by cases hx⟩
 |false=>
  refine⟨?_,CB⟩
  have h:=cL h
  show (bC s).length≤4
  unfold ga at h
  cases h1:decide (s=⟨#[47]⟩) with
  |true=>rw [SI h1];exact ZA7 _
  |false=>
   rw [h1] at h
   simp only [cond_false] at h
   cases h2:decide (s=⟨#[]⟩)||decide (bL s 0≠47) with
   |true=>rw [h2] at h;cases h
   |false=>
    rw [h2] at h
    simp only [cond_false] at h
    unfold tl at h
    simp only [ZA9,decide_eq_true_eq] at h
    omega
def rC (s:ByteArray) (top:ByteArray):Prop:=s.size≤1000000∧top.size≤1000000
def eU (s:ByteArray) (top:ByteArray):AV:=.s (.q (po s top))
def OK (s:ByteArray) (top:ByteArray):List AV:=[]
def vR:cn where
 A:=[.s .str,.s .str]
 B:=[]
 pre:=fun x b=>rC (x.1) (x.2)
 r:=fun x b _=>eU (x.1) (x.2)
 o:=fun x b _=>OK (x.1) (x.2)
theorem S6:Has Tryz.prog 159 vR:=by
 refine Has.fl zT zF zF (l:=[(182,vS),(183,PT)]) ⟨S7,afR,aa⟩ Tryz.func159 ?_
 rintro⟨(s:ByteArray),(top:ByteArray)⟩ _ (hp:rC s top)
 show vc _ _ _ _ (entry [.str s,.str top] []) _
 obtain⟨h1,h2⟩:=hp
 have hb:=xu s
 have hc:=xu top
 have hT:((bT s).1.take (((some ((bT top).1.length:Int)).getD (bT s).1.length).toNat-(((none:Option Int).getD 0).toNat)))=(bT s).1.take (bT top).1.length:=rfl
 have hm:∀x∈(bT s).1.take (bT top).1.length,x.size≤1000000:=fun x hx=>ZB0 (hb.2 x (ZE6 hx)) h1
 refine⟨⟨tv2,?_⟩,fun x1 w2=>⟨⟨tv2,?_⟩,fun x3 w4=>⟨aa,fun w5=>?_,fun w6=>⟨aa,fun w7=>?_,fun w8=>⟨fun w9=>?_,fun dx=>⟨⟨?_,?_,?_⟩,⟨tv2,?_,fun ku dI=>?_⟩,fun rS gN=>⟨⟨tv2,?_,fun kt kc=>?_⟩,fun x17 rO=>?_⟩⟩⟩⟩⟩⟩⟩
 all_goals first|refine aw ?_|refine ax ?_|exact a8|(dsimp only [vS,nj,PT,BZ];omega)|exact a7|(show ((bT s).1.take (bT top).1.length).length≤1000;rw [ZC0];omega)|exact hm _ dI|exact ZB0 (hc.2 _ kc) h2|skip
 ·have e:po s top=false:=by unfold po;rw [w5];rfl
  refine⟨[],[],_,_,_,rfl,az,(),aa,?_,?_,rfl⟩
  ·(show _=eU s top);unfold eU;first|(rw [e];rfl)|rfl
  ·rfl
 ·have e:po s top=false:=by unfold po;rw [w6,w7];rfl
  refine⟨[],[],_,_,_,rfl,az,(),aa,?_,?_,rfl⟩
  ·(show _=eU s top);unfold eU;first|(rw [e];rfl)|rfl
  ·rfl
 ·have e:po s top=false:=by unfold po;rw [w6,w8,w9];rfl
  refine⟨[],[],_,_,_,rfl,az,(),aa,?_,?_,rfl⟩
  ·(show _=eU s top);unfold eU;first|(rw [e];rfl)|rfl
  ·rfl
 ·have e:po s top=decide (oO ((bT s).1.take (bT top).1.length)=oO (bT top).1):=by unfold po;rw [w6,w8,dx];rfl
  refine⟨[],[],_,_,_,rfl,az,(),aa,?_,?_,rfl⟩
  ·(show _=eU s top);unfold eU;first|(rw [e];rfl)|rfl
  ·rfl
def kZ (s:ByteArray):Prop:=s.size≤1000000∧1≤(bC s).length
def uW (s:ByteArray):AV:=.s (.str (nth ab (bC s) ((bC s).length-1)))
def VW (s:ByteArray):List AV:=[]
def j3:cn where
 A:=[.s .str]
 B:=[]
 pre:=fun x b=>kZ x
 r:=fun x b _=>uW x
 o:=fun x b _=>VW x
theorem wO:Has Tryz.prog 152 j3:=by
 refine Has.fl zT zF zF (l:=[(162,eP)]) ⟨mR,aa⟩ Tryz.func152 ?_
 rintro (s:ByteArray) _ (hp:kZ s)
 show vc _ _ _ _ (entry [.str s] []) _
 obtain⟨h1,h2⟩:=hp
 have hnl:=qg (s:=s)
 refine⟨⟨tv2,?_⟩,fun x1 w2=>⟨⟨?_,?_⟩,⟨?_,?_⟩,?_⟩⟩
 all_goals first|refine aw ?_|refine ax ?_|exact a8|(dsimp only [eP,fA];omega)|exact a7|(unfold imax;omega)|skip
 refine⟨[],[],_,_,_,rfl,az,(),aa,?_,?_,rfl⟩
 ·(show _=uW s);unfold uW;first|(exact congrArg (fun k:Nat=>AV.s (SV.str (nth ab (bC s) k))) (show ((bC s).length-1:Int).toNat=(bC s).length-1 by omega))|rfl
 ·rfl
def R4 (o:Opr):Bool:=decide (o.1=6)||decide (o.1=7)
def ahn (o:Opr):Bool:=decide (o.1=3)||decide (o.1=4)
def R5 (tw a:Bool) (o:Opr):Bool:=
 bif !(ig o.1 1 7)||(!(ga o.2.1)||((tw&& !(ga o.2.2.1))||(!tw&&decide (o.2.2.1≠⟨#[]⟩)))) then false
 else bif (decide (o.1≠3)&&decide (o.2.2.2.2≠⟨#[]⟩))||decide ((o.2.2.2.2.size:Int)>24) then false
 else decide (o.2.2.2.1=0)||(a&&ig o.2.2.2.1 0 192)
def YZ (o:Opr):Bool:=R5 (R4 o) (ahn o) o
def vf (o:Opr):Prop:=o.2.1.size≤1000000∧o.2.2.1.size≤1000000
def GQ (o:Opr):AV:=.s (.q (YZ o))
def afy (o:Opr):List AV:=[]
def yX:cn where
 A:=[.a [.int,.str,.str,.int,.str]]
 B:=[]
 pre:=fun x b=>vf x
 r:=fun x b _=>GQ x
 o:=fun x b _=>afy x
theorem W6:Has Tryz.prog 83 yX:=by
 refine Has.ofP 3 zT zF zF (l:=[(40,gZ),(123,qz)]) ⟨iy,II,aa⟩ Tryz.func83 ?_
 rintro⟨(o1:Int),(o2:ByteArray),(o3:ByteArray),(o4:Int),(o5:ByteArray)⟩ _ (hp:vf (o1,o2,o3,o4,o5))
 show vcP _ _ _ _ 3 _ (entry [.a [.int o1,.str o2,.str o3,.int o4,.str o5]] [])
 obtain⟨(h1:o2.size≤1000000),(h2:o3.size≤1000000)⟩:=hp
 refine y5 (l:=[(40,gZ),(123,qz)]) (ex:=zT) (wr:=zF) (pt:=zF) ⟨iy,II,aa⟩ (fun y:Bool×Bool=>[(.s 1,.s (.bp 1001 0)),(.s 3,.s (.q y.1)),(.s 4,.s (.q y.2)),(.b 1001,.a [.int o1,.str o2,.str o3,.int o4,.str o5])]) (fun y=>y.1=R4 (o1,o2,o3,o4,o5)∧y.2=ahn (o1,o2,o3,o4,o5)) (wY 3 (J3 Tryz.f83)) ?_ (fun tail=>?_)
 ·rintro⟨tw,at'⟩ ⟨(h3:tw=R4 (o1,o2,o3,o4,o5)),(h4:at'=ahn (o1,o2,o3,o4,o5))⟩
  have e:YZ (o1,o2,o3,o4,o5)=R5 tw at' (o1,o2,o3,o4,o5):=by rw [h3,h4];rfl
  clear h3 h4
  show vc _ _ _ _ (DT.ap [(.s 1,.s (.bp 1001 0)),(.s 3,.s (.q tw)),(.s 4,.s (.q at')),(.b 1001,.a [.int o1,.str o2,.str o3,.int o4,.str o5])]) _
  refine⟨⟨tv4,aa⟩,fun x1 w2=>⟨aa,fun w3=>?_,fun w4=>⟨⟨tv2,?_⟩,fun x5 w6=>⟨aa,fun w7=>?_,fun w8=>⟨aa,fun w9=>⟨⟨tv2,?_⟩,fun x10 kx=>⟨aa,fun dI=>?_,fun iS=>⟨aa,fun gN=>⟨fun qG=>?_,fun kc=>⟨aa,fun xd=>⟨aa,fun rO=>?_,fun oH=>⟨fun uE=>?_,fun AY=>⟨aa,fun AX=>?_,fun xF=>⟨aa,fun rN=>⟨⟨tv4,aa⟩,fun x25 w26=>?_⟩,fun w27=>?_⟩⟩⟩⟩,fun w28=>⟨fun w29=>?_,fun w30=>⟨aa,fun w31=>?_,fun w32=>⟨aa,fun w33=>⟨⟨tv4,aa⟩,fun x34 w35=>?_⟩,fun w36=>?_⟩⟩⟩⟩⟩,fun w37=>⟨aa,fun w38=>⟨aa,fun w39=>?_,fun w40=>⟨fun w41=>?_,fun w42=>⟨aa,fun w43=>?_,fun w44=>⟨aa,fun w45=>⟨⟨tv4,aa⟩,fun x46 w47=>?_⟩,fun w48=>?_⟩⟩⟩⟩,fun w49=>⟨fun w50=>?_,fun w51=>⟨aa,fun w52=>?_,fun w53=>⟨aa,fun w54=>⟨⟨tv4,aa⟩,fun x55 w56=>?_⟩,fun w57=>?_⟩⟩⟩⟩⟩⟩⟩,fun w58=>⟨aa,fun w59=>⟨fun w60=>?_,fun w61=>⟨aa,fun w62=>⟨aa,fun w63=>?_,fun w64=>⟨fun w65=>?_,fun w66=>⟨aa,fun w67=>?_,fun w68=>⟨aa,fun w69=>⟨⟨tv4,aa⟩,fun x70 w71=>?_⟩,fun w72=>?_⟩⟩⟩⟩,fun w73=>⟨fun w74=>?_,fun w75=>⟨aa,fun w76=>?_,fun w77=>⟨aa,fun w78=>⟨⟨tv4,aa⟩,fun x79 w80=>?_⟩,fun w81=>?_⟩⟩⟩⟩⟩,fun w82=>⟨aa,fun w83=>⟨aa,fun w84=>?_,fun w85=>⟨fun w86=>?_,fun w87=>⟨aa,fun w88=>?_,fun w89=>⟨aa,fun w90=>⟨⟨tv4,aa⟩,fun x91 w92=>?_⟩,fun w93=>?_⟩⟩⟩⟩,fun w94=>⟨fun w95=>?_,fun w96=>⟨aa,fun w97=>?_,fun w98=>⟨aa,fun w99=>⟨⟨tv4,aa⟩,fun als akl=>?_⟩,fun alY=>?_⟩⟩⟩⟩⟩⟩⟩⟩⟩⟩
  all_goals first|refine aw ?_|refine ax ?_|exact a8|(dsimp only [qz,mK];omega)|exact a7|exact h1|exact h2|skip
  all_goals
   refine⟨[],[],_,_,_,rfl,az,(),0,aa,?_,?_,rfl⟩
   ·(show _=GQ (o1,o2,o3,o4,o5));unfold GQ;first|((rw [e];simp only [R5, *];rfl))|((rw [e];simp [R5, *]<;>rfl))|((exfalso;clear e;simp_all))|rfl
   ·rfl
 ·refine⟨aa,fun w1=>⟨aa,fun w2=>?_,fun w3=>?_⟩,fun w4=>⟨aa,fun w5=>?_,fun w6=>?_⟩⟩
  all_goals first|refine aw ?_|refine ax ?_|exact a8|(dsimp only [qz,mK];omega)|exact a7|skip
  ·refine joinTail tail ((true,decide (o1=4))) [] ((⟨by show true=(decide (o1=6)||decide (o1=7));rw [w1];rfl,by show decide (o1=4)=(decide (o1=3)||decide (o1=4));rw [w3];rfl⟩)) ?_
   repeat' (first|exact trivial|rfl|exact rfl|exact fO ZA0.symm|apply And.intro)
  ·refine joinTail tail ((decide (o1=7),true)) [] ((⟨by show decide (o1=7)=(decide (o1=6)||decide (o1=7));rw [w4];rfl,by show true=(decide (o1=3)||decide (o1=4));rw [w5];rfl⟩)) ?_
   repeat' (first|exact trivial|rfl|exact rfl|exact fO ZA0.symm|apply And.intro)
  ·refine joinTail tail ((decide (o1=7),decide (o1=4))) [] ((⟨by show decide (o1=7)=(decide (o1=6)||decide (o1=7));rw [w4];rfl,by show decide (o1=4)=(decide (o1=3)||decide (o1=4));rw [w6];rfl⟩)) ?_
   repeat' (first|exact trivial|rfl|exact rfl|exact fO ZA0.symm|apply And.intro)
end GL
end Go.Proofs.YtclcgjhhehbdeaaGreatDoor
