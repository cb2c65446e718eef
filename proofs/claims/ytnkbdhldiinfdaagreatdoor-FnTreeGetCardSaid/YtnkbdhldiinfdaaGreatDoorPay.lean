/- A drawn law returns true for every code (its row lists package variables, tied by the card): part 25. -/
import Derived.Test.YtnkbdhldiinfdaaGreatDoorPan
import Derived.Test.YtnkbdhldiinfdaaGreatDoorPav
import Derived.Test.YtnkbdhldiinfdaaGreatDoorPaw
set_option maxHeartbeats 20000000
set_option maxRecDepth 100000
set_option linter.all false
namespace Go.Proofs.YtnkbdhldiinfdaaGreatDoor
namespace GL
def egB (w:List ByteArray) (i:Nat):List ByteArray:=bm (nth ab w i) 61
def egF:Nat→List ByteArray→Nat→List eU→Option (List eU)
 |0,_,_,out=>some out
 |f+1,w,i,out=>bif decide ((i:Int)+1<(w.length:Int)) then
   (bif decide (((egB w i).length:Int)≠2) then none else egF f w (i+1) (out++[(nth ab (egB w i) 0,(aD (nth ab (egB w i) 1)).1)])) else some out
def EF (s:ByteArray) (out:List eU):List eU×Bool:=bif !(eE out)||decide (eh out≠s) then ([],false) else (out,true)
def cP (s:ByteArray):List eU×Bool:=match egF ((bm s 59).length) (bm s 59) 0 [] with
 |none=>([],false)
 |some out=>EF s out
theorem ag2 {f:Nat}{w:List ByteArray}{i:Nat}{out:List eU}(h:decide ((i:Int)+1<(w.length:Int))=true) (h2:decide (((egB w i).length:Int)≠2)=true):egF (f+1) w i out=none:=by rw [egF,h,h2];rfl
theorem ag1 {f:Nat}{w:List ByteArray}{i:Nat}{out:List eU}(h:decide ((i:Int)+1<(w.length:Int))=true) (h2:decide (((egB w i).length:Int)≠2)=false):egF (f+1) w i out=egF f w (i+1) (out++[(nth ab (egB w i) 0,(aD (nth ab (egB w i) 1)).1)]):=by rw [egF,h,h2];rfl
theorem aan {f:Nat}{w:List ByteArray}{i:Nat}{out:List eU}(h:decide ((i:Int)+1<(w.length:Int))=false):egF f w i out=some out:=by
 cases f with
 |zero=>rfl
 |succ f=>rw [egF,h];rfl
theorem xG {s:ByteArray}(h:egF ((bm s 59).length) (bm s 59) 0 []=none):cP s=([],false):=by unfold cP;rw [h]
theorem nw {s:ByteArray}{out:List eU}(h:egF ((bm s 59).length) (bm s 59) 0 []=some out):cP s=EF s out:=by unfold cP;rw [h]
theorem aal {s:ByteArray}{out:List eU}(h:(!(eE out))=true):EF s out=([],false):=by unfold EF;rw [h];rfl
theorem aak {s:ByteArray}{out:List eU}(h:decide (eh out≠s)=true):EF s out=([],false):=by unfold EF;rw [h,ZC4];rfl
theorem aam {s:ByteArray}{out:List eU}(h:(!(eE out))=false) (h2:decide (eh out≠s)=false):EF s out=(out,true):=by unfold EF;rw [h,h2];rfl
theorem aag {l:List eU}:∀{f i:Nat},z7 f l i=true→∀k,i≤k→k<i+f→kf l k=false
 |0,i,_,k,h1,h2=>by omega
 |f+1,i,h,k,h1,h2=>by
  cases hb:kf l i with
  |true=>rw [PT hb] at h;cases h
  |false=>
   rw [XU hb] at h
   by_cases e:k=i
   ·rw [e];exact hb
   ·exact aag h k (by omega) (by omega)
theorem xF {l:List eU}(h:eE l=true):l.length≤12∧∀e∈l,fC e.1=true∧1≤e.2∧e.2≤15:=by
 unfold eE at h
 simp only [ZA9,decide_eq_true_eq] at h
 refine⟨by omega,fun e he=>?_⟩
 obtain⟨k,hk,rfl⟩:=List.mem_iff_getElem.1 he
 have hb:=aag h.1 k (ZA7 _) (by omega)
 unfold kf at hb
 simp only [ZE1,Bool.not_eq_false',cC] at hb
 have hn:nth aK l k=l[k]:=by
  have:=oD (ek:=aK) hk
  rw [ZB1 hk] at this
  exact (ZG8 this).symm
 rw [hn] at hb
 exact⟨hb.1,hb.2.1⟩
theorem DZ {s:ByteArray}(h:fC s=true):1≤s.size∧s.size≤4:=by
 unfold fC at h
 simp only [ZA9,cC] at h
 omega
theorem ach.akG {l:List eU}(h:eE l=true):ach l:=by
 obtain⟨h1,h2⟩:=xF h
 refine⟨by omega,fun e he=>?_,fun e he=>?_⟩
 ·have:=DZ (h2 e he).1;omega
 ·have:=(h2 e he).2;omega
theorem aeS {w:List ByteArray}(hw:∀x∈w,x.size≤1000000):∀{f i:Nat}{out o:List eU},egF f w i out=some o→(∀e∈out,e.1.size≤1000000)→∀e∈o,e.1.size≤1000000
 |0,i,out,o,h,ho=>by cases h;exact ho
 |f+1,i,out,o,h,ho=>by
  cases h1:decide ((i:Int)+1<(w.length:Int)) with
  |false=>rw [aan h1] at h;cases h;exact ho
  |true=>
   cases h2:decide (((egB w i).length:Int)≠2) with
   |true=>rw [ag2 h1 h2] at h;cases h
   |false=>
    rw [ag1 h1 h2] at h
    refine aeS hw h fun e he=>?_
    rcases ZB4.1 he with he |he
    ·exact ho e he
    ·rw [ZC7.1 he]
     have h3:=aJ h1
     have hx:=hw _ (bR (ek:=ab) (l:=w) (k:=i) (by omega))
     have h4:=aA h2
     exact ZB0 (oX _ (bR (ek:=ab) (l:=egB w i) (k:=0) (by omega))) hx
def lR (s:ByteArray):Prop:=s.size≤1000000
def eo (s:ByteArray):AV:=.t [.s (.xs 0 2 0 (cP s).1.length),.s (.q (cP s).2)]
def eY (s:ByteArray):List AV:=[.rs aK (cP s).1]
def ui:cn where
 A:=[.s .str]
 B:=[]
 pre:=fun x b=>lR x
 r:=fun x b _=>eo x
 o:=fun x b _=>eY x
 nf:=1
theorem PK:Has Tryz.prog 227 ui:=by
 refine Has.fm zT zF zF (l:=[(167,iD),(122,jF),(246,oj),(205,qz)]) ⟨tG,vA,D4,IJ,aa⟩ Tryz.func227 ?_
 rintro (s:ByteArray) _ (hp:lR s)
 show vc _ _ _ _ (entry [.str s] []) _
 unfold lR at hp
 have hcl:=tW s 59
 have mq:=oX (s:=s) (c:=59)
 refine⟨aa,⟨tv3,?_⟩,fun x1 w2=>?_⟩
 all_goals first|refine aw ?_|refine ax ?_|exact a8|(dsimp only [iD,iQ,jF,gI,oj,nt,qz,p9];omega)|exact a7|skip
 refine cN (l:=[(167,iD),(122,jF),(246,oj),(205,qz)]) (ex:=zT) (wr:=zF) (pt:=zF) ⟨tG,vA,D4,IJ,trivial⟩ [.s 0,.s 5,.b 130000] (fun y:Nat×Nat×List eU=>[(.s 4,.s (.xs 1010 2 0 y.2.2.length)),(.s 6,.int y.1),(.b 1010,.rs aK y.2.2)]) (fun y=>(y.1+y.2.1=(bm s 59).length∧1≤y.2.1)∧y.2.2.length=y.1∧(∀e∈y.2.2,e.1.size≤1000000)∧egF y.2.1 (bm s 59) y.1 y.2.2=egF (bm s 59).length (bm s 59) 0 []) (fun y=>y.2.1) (0,(bm s 59).length,[]) [] ⟨⟨ZA6 _,hcl.1⟩,rfl,(fun _ h=>by cases h),rfl⟩ dM ?_
 rintro⟨i,f,out⟩ ⟨⟨(hi:i+f=(bm s 59).length),(hf1:1≤f)⟩,(hlo:out.length=i),(hos:∀e∈out,e.1.size≤1000000),(hr:egF f (bm s 59) i out=egF (bm s 59).length (bm s 59) 0 [])⟩
 have bU:decide ((i:Int)+1<((bm s 59).length:Int))=true→i<(bm s 59).length:=fun h=>by have:=aJ h;omega
 have hxs:i<(bm s 59).length→(nth ab (bm s 59) i).size≤1000000:=fun h=>ZB0 (mq _ (bR (ek:=ab) h)) hp
 have hbl:=tW (nth ab (bm s 59) i) 61
 refine⟨⟨?_,?_⟩,fun w1=>⟨⟨?_,?_⟩,?_,⟨tv3,?_⟩,fun x2 w3=>⟨fun w4=>⟨aa,?_⟩,fun w5=>⟨⟨?_,?_⟩,?_,⟨tv2,?_⟩,fun x6 w7=>⟨⟨?_,?_⟩,?_,aa,⟨⟨?_,?_⟩,?_,?_⟩,⟨?_,?_⟩,?_⟩⟩⟩⟩,fun w8=>⟨⟨⟨⟨?_,?_⟩,aa⟩,?_⟩,fun x9 dy=>⟨aa,fun kA=>⟨aa,?_⟩,fun dJ=>⟨⟨⟨⟨?_,?_⟩,aa⟩,?_⟩,fun rW gO=>⟨fun qK=>⟨aa,?_⟩,fun kg=>?_⟩⟩⟩⟩⟩
 all_goals first|refine aw ?_|refine ax ?_|exact a8|(dsimp only [iD,iQ,jF,gI,oj,nt,qz,p9];omega)|exact a7|exact bU w1|exact hxs (bU w1)|skip
 ·obtain⟨g,rfl⟩:∃g,f=g+1:=⟨f-1,by have:=bU w1;omega⟩
  have e:cP s=([],false):=xG (by rw [←hr];exact ag2 w1 w4)
  refine⟨[1028],[],_,_,_,rfl,az,(),aa,?_,?_,rfl⟩
  ·(show _=eo s);unfold eo;first|(rw [e];rfl)|rfl
  ·(show _=eY s);unfold eY;first|(rw [e];rfl)|rfl
 ·have h2:(bm (nth ab (bm s 59) i) 61).length=2:=by have:=aA (p:=((bm (nth ab (bm s 59) i) 61).length:Int)≠2) w5;omega
  show (1:Int)<((bm (nth ab (bm s 59) i) 61).length:Int);omega
 ·have h2:(bm (nth ab (bm s 59) i) 61).length=2:=by have:=aA (p:=((bm (nth ab (bm s 59) i) 61).length:Int)≠2) w5;omega
  show 1<(bm (nth ab (bm s 59) i) 61).length;omega
 ·have h2:(bm (nth ab (bm s 59) i) 61).length=2:=by have:=aA (p:=((bm (nth ab (bm s 59) i) 61).length:Int)≠2) w5;omega
  have h3:(nth ab (bm (nth ab (bm s 59) i) 61) 1).size≤1000000:=ZB0 (oX (s:=(nth ab (bm s 59) i)) (c:=61) _ (bR (ek:=ab) (l:=bm (nth ab (bm s 59) i) 61) (k:=1) (by omega))) (hxs (bU w1))
  show ((nth ab (bm (nth ab (bm s 59) i) 61) 1).size:Int)≤1000000000000;omega
 ·obtain⟨g,rfl⟩:∃g,f=g+1:=⟨f-1,by have:=bU w1;omega⟩
  have h2:(bm (nth ab (bm s 59) i) 61).length=2:=by have:=aA (p:=((bm (nth ab (bm s 59) i) 61).length:Int)≠2) w5;omega
  refine⟨(i+1,g,out++[(nth ab (egB (bm s 59) i) 0,(aD (nth ab (egB (bm s 59) i) 1)).1)]),[(1010,1043)],?_,?_,?_⟩
  rotate_right
  ·exact bV
  ·refine⟨⟨by show i+1+g=(bm s 59).length;omega,by show 1≤g;have:=aJ (p:=(i:Int)+1<((bm s 59).length:Int)) w1;omega⟩,by show (out++[_]).length=i+1;rw [ZA0,hlo];rfl,fun e he=>?_,by rw [←hr];exact (ag1 w1 w5).symm⟩
   rcases ZB4.1 he with he |he
   ·exact hos e he
   ·rw [ZC7.1 he]
    exact ZB0 (oX (s:=(nth ab (bm s 59) i)) (c:=61) _ (bR (ek:=ab) (l:=bm (nth ab (bm s 59) i) 61) (k:=0) (by omega))) (hxs (bU w1))
  ·exact ZD9 g
 ·exact (⟨by show out.length≤1000000;have:=aA (p:=(i:Int)+1<((bm s 59).length:Int)) w8;omega,hos⟩:afx out)
 ·have e0:egF (bm s 59).length (bm s 59) 0 []=some out:=by rw [←hr];exact aan w8
  have e:cP s=([],false):=by rw [nw e0];exact aal kA
  refine⟨[1053],[],_,_,_,rfl,az,(),aa,?_,?_,rfl⟩
  ·(show _=eo s);unfold eo;first|(rw [e];rfl)|rfl
  ·(show _=eY s);unfold eY;first|(rw [e];rfl)|rfl
 ·exact ach.akG (cL dJ)
 ·have e0:egF (bm s 59).length (bm s 59) 0 []=some out:=by rw [←hr];exact aan w8
  have e:cP s=([],false):=by rw [nw e0];exact aak qK
  refine⟨[1053],[],_,_,_,rfl,az,(),aa,?_,?_,rfl⟩
  ·(show _=eo s);unfold eo;first|(rw [e];rfl)|rfl
  ·(show _=eY s);unfold eY;first|(rw [e];rfl)|rfl
 ·have e0:egF (bm s 59).length (bm s 59) 0 []=some out:=by rw [←hr];exact aan w8
  have e:cP s=(out,true):=by rw [nw e0];exact aam dJ kg
  refine⟨[1010],[],_,_,_,rfl,az,(),aa,?_,?_,rfl⟩
  ·(show _=eo s);unfold eo;first|(rw [e];rfl)|rfl
  ·(show _=eY s);unfold eY;first|(rw [e];rfl)|rfl
end GL
namespace GL
def bC (s:ByteArray):List ByteArray:=bif decide (s=⟨#[47]⟩) then [] else (bm s 47).drop 1
theorem SO {s:ByteArray}(h:decide (s=⟨#[47]⟩)=true):bC s=[]:=by unfold bC;rw [h];rfl
theorem ady {s:ByteArray}(h:decide (s=⟨#[47]⟩)=false):bC s=(bm s 47).drop 1:=by unfold bC;rw [h];rfl
theorem CG {s:ByteArray}:∀x∈bC s,x.size≤s.size:=by
 intro x hx
 unfold bC at hx
 cases h:decide (s=⟨#[47]⟩) with
 |true=>rw [h] at hx;cases hx
 |false=>rw [h] at hx;exact oX x (ZF2 hx)
theorem ql {s:ByteArray}:(bC s).length≤s.size:=by
 unfold bC
 cases h:decide (s=⟨#[47]⟩) with
 |true=>exact ZA7 _
 |false=>have:=tW s 47;simp only [cond_false,ZC8];omega
def fB (s:ByteArray):Prop:=s.size≤1000000
def lF (s:ByteArray):AV:=.s (.vw ab (bC s))
def R0 (s:ByteArray):List AV:=[]
def eQ:cn where
 A:=[.s .str]
 B:=[]
 pre:=fun x b=>fB x
 r:=fun x b _=>lF x
 o:=fun x b _=>R0 x
theorem mV:Has Tryz.prog 187 eQ:=by
 refine Has.fm zT zF zF (l:=[(167,iD)]) ⟨tG,aa⟩ Tryz.func187 ?_
 rintro (s:ByteArray) _ (hp:fB s)
 show vc _ _ _ _ (entry [.str s] []) _
 unfold fB at hp
 have hb:=tW s 47
 have hv:(((bm s 47).drop (0+1)).take ((bm s 47).length-1))=(bm s 47).drop 1:=ZD1 (by rw [ZC8];omega)
 refine⟨fun w1=>⟨aa,?_⟩,fun w2=>⟨⟨tv3,?_⟩,fun x3 w4=>⟨⟨?_,?_,?_⟩,?_⟩⟩⟩
 all_goals first|refine aw ?_|refine ax ?_|exact a8|(dsimp only [iD,iQ];omega)|exact a7|skip
 ·refine⟨[],[],_,_,_,rfl,cf,(),aa,?_,?_,rfl⟩
  ·(show _=lF s);unfold lF;first|(rw [SO w1];rfl)|rfl
  ·rfl
 ·refine⟨[],[],_,_,_,rfl,cf,(),aa,?_,?_,rfl⟩
  ·(show _=lF s);unfold lF;first|(rw [ady w2,←hv];rfl)|rfl
  ·rfl
def G9:Nat→List ByteArray→Nat→Bool
 |0,_,_=>true
 |f+1,l,i=>bif fC (nth ab l i) then G9 f l (i+1) else false
def tu (l:List ByteArray):Bool:=G9 l.length l 0&&decide ((l.length:Int)≤4)
def gb (s:ByteArray):Bool:=bif decide (s=⟨#[47]⟩) then true else bif decide (s=⟨#[]⟩)||decide (bL s 0≠47) then false else tu (bC s)
theorem ahk {f:Nat}{l:List ByteArray}{i:Nat}(h:(!(fC (nth ab l i)))=true):G9 (f+1) l i=false:=by rw [G9,xm h];rfl
theorem ahj {f:Nat}{l:List ByteArray}{i:Nat}(h:(!(fC (nth ab l i)))=false):G9 (f+1) l i=G9 f l (i+1):=by rw [G9,cL h];rfl
theorem aa2 {s:ByteArray}(h:decide (s=⟨#[47]⟩)=true):gb s=true:=by unfold gb;rw [h];rfl
theorem aa1 {s:ByteArray}(h:decide (s=⟨#[47]⟩)=false) (h2:decide (s=⟨#[]⟩)=true):gb s=false:=by unfold gb;rw [h,h2];rfl
theorem aa0 {s:ByteArray}(h:decide (s=⟨#[47]⟩)=false) (h2:decide (bL s 0≠47)=true):gb s=false:=by unfold gb;rw [h,h2,ZC4];rfl
theorem aaZ {s:ByteArray}(h:decide (s=⟨#[47]⟩)=false) (h2:decide (s=⟨#[]⟩)=false) (h3:decide (bL s 0≠47)=false):gb s=tu (bC s):=by unfold gb;rw [h,h2,h3];rfl
def mO (s:ByteArray):Prop:=s.size≤1000000
def fS (s:ByteArray):AV:=.s (.q (gb s))
def abq (s:ByteArray):List AV:=[]
def qE:cn where
 A:=[.s .str]
 B:=[]
 pre:=fun x b=>mO x
 r:=fun x b _=>fS x
 o:=fun x b _=>abq x
theorem IP:Has Tryz.prog 140 qE:=by
 refine Has.fm zT zF zF (l:=[(187,eQ),(188,oi)]) ⟨mV,zM,aa⟩ Tryz.func140 ?_
 rintro (s:ByteArray) _ (hp:mO s)
 show vc _ _ _ _ (entry [.str s] []) _
 unfold mO at hp
 have hnl:=ql (s:=s)
 have hns:=CG (s:=s)
 have oU:decide (s=⟨#[]⟩)=false→0<(s.size:Int):=fun h=>by have:=size_pos (aA h);omega
 refine⟨fun w1=>?_,fun w2=>⟨aa,fun w3=>?_,fun w4=>⟨⟨?_,?_⟩,fun w5=>?_,fun w6=>⟨⟨tv2,?_⟩,fun x7 w8=>?_⟩⟩⟩⟩
 all_goals first|refine aw ?_|refine ax ?_|exact a8|(dsimp only [eQ,fB,oi,mP];omega)|exact a7|exact oU w4|skip
 ·refine⟨[],[],_,_,_,rfl,az,(),aa,?_,?_,rfl⟩
  ·(show _=fS s);unfold fS;first|(rw [aa2 w1];rfl)|rfl
  ·rfl
 ·refine⟨[],[],_,_,_,rfl,az,(),aa,?_,?_,rfl⟩
  ·(show _=fS s);unfold fS;first|(rw [aa1 w2 w3];rfl)|rfl
  ·rfl
 ·refine⟨[],[],_,_,_,rfl,az,(),aa,?_,?_,rfl⟩
  ·(show _=fS s);unfold fS;first|(rw [aa0 w2 w5];rfl)|rfl
  ·rfl
 ·have hM:=aaZ w2 w4 w6
  refine cN (l:=[(187,eQ),(188,oi)]) (ex:=zT) (wr:=zF) (pt:=zF) ⟨mV,zM,aa⟩ [.s 0,.s 3] (fun y:Nat×Nat=>[(.s 4,.int y.1)]) (fun y=>y.1+y.2=(bC s).length∧G9 y.2 (bC s) y.1=G9 (bC s).length (bC s) 0) (fun y=>y.2) (0,(bC s).length) [] ⟨ZA6 _,rfl⟩ dM ?_
  rintro⟨k,f⟩ ⟨(hk:k+f=(bC s).length),(he:G9 f (bC s) k=G9 (bC s).length (bC s) 0)⟩
  have bU:decide ((k:Int)<((bC s).length:Int))=true→k<(bC s).length:=fun h=>by have:=aJ h;omega
  have dj:k<(bC s).length→(nth ab (bC s) k).size≤1000000:=fun h=>ZB0 (hns _ (bR (ek:=ab) h)) hp
  refine⟨fun w1=>⟨⟨?_,?_⟩,⟨tv2,?_⟩,fun x2 w3=>⟨fun w4=>?_,fun w5=>⟨⟨?_,?_⟩,?_⟩⟩⟩,fun w6=>?_⟩
  all_goals first|refine aw ?_|refine ax ?_|exact a8|(dsimp only [eQ,fB,oi,mP];omega)|exact a7|exact bU w1|exact dj (bU w1)|skip
  ·obtain⟨g,rfl⟩:∃g,f=g+1:=⟨f-1,by have:=bU w1;omega⟩
   have e:tu (bC s)=false:=by unfold tu;rw [←he,ahk (show (!(fC (nth ab (bC s) k)))=true from w4)];rfl
   refine⟨[],[],_,_,_,rfl,az,(),aa,?_,?_,rfl⟩
   ·(show _=fS s);unfold fS;first|(rw [hM,e];rfl)|rfl
   ·rfl
  ·obtain⟨g,rfl⟩:∃g,f=g+1:=⟨f-1,by have:=bU w1;omega⟩
   refine⟨(k+1,g),[],?_,?_,?_⟩
   rotate_right
   ·exact bV
   ·exact⟨by show k+1+g=(bC s).length;omega,by rw [←he];exact (ahj w5).symm⟩
   ·exact ZD9 g
  ·have hf:f=0:=by have:=aA (p:=(k:Int)<((bC s).length:Int)) w6;omega
   subst hf
   have e:tu (bC s)=decide (((bC s).length:Int)≤4):=by unfold tu;rw [←he];rfl
   refine⟨[],[],_,_,_,rfl,az,(),aa,?_,?_,rfl⟩
   ·(show _=fS s);unfold fS;first|(rw [hM,e];rfl)|rfl
   ·rfl
def bT (s:ByteArray):List ByteArray×Bool:=bif !(gb s) then ([],false) else (bC s,true)
theorem OJ {s:ByteArray}(h:(!(gb s))=true):bT s=([],false):=by unfold bT;rw [h];rfl
theorem OI {s:ByteArray}(h:(!(gb s))=false):bT s=(bC s,true):=by unfold bT;rw [h];rfl
def nr (s:ByteArray):Prop:=s.size≤1000000
def ki (s:ByteArray):AV:=.t [.s (.vw ab (bT s).1),.s (.q (bT s).2)]
def OR (s:ByteArray):List AV:=[]
def vW:cn where
 A:=[.s .str]
 B:=[]
 pre:=fun x b=>nr x
 r:=fun x b _=>ki x
 o:=fun x b _=>OR x
theorem TF:Has Tryz.prog 211 vW:=by
 refine Has.fm zT zF zF (l:=[(140,qE),(187,eQ)]) ⟨IP,mV,aa⟩ Tryz.func211 ?_
 rintro (s:ByteArray) _ (hp:nr s)
 show vc _ _ _ _ (entry [.str s] []) _
 unfold nr at hp
 have hnl:=ql (s:=s)
 refine⟨⟨tv2,?_⟩,fun x1 w2=>⟨fun w3=>⟨aa,?_⟩,fun w4=>⟨aa,⟨tv2,?_⟩,fun x5 w6=>⟨⟨⟨?_,?_⟩,aa⟩,?_⟩⟩⟩⟩
 all_goals first|refine aw ?_|refine ax ?_|exact a8|(dsimp only [qE,mO,eQ,fB];omega)|exact a7|skip
 ·refine⟨[],[],_,_,_,rfl,cf,(),aa,?_,?_,rfl⟩
  ·(show _=ki s);unfold ki;first|(rw [OJ w3];rfl)|rfl
  ·rfl
 ·have hv:([]++bC s)=bC s:=ZD0 _
  refine⟨[],[],_,_,_,rfl,cf,(),aa,?_,?_,rfl⟩
  ·(show _=ki s);unfold ki;first|(show AV.t [A0.s (SV.vw ab (List.take (([]:List ByteArray).length+(bC s).length) (List.drop 0 ([]++bC s)))),A0.s (SV.q true)]=_;simp only [ZD0,ZF0,ZA4,ZA6,List.take_length,OI w4])|rfl
  ·rfl
def jn (o x:ByteArray):ByteArray:=o++⟨#[47]⟩++x
def oS (l:List ByteArray):ByteArray:=bif decide (l.foldl jn ⟨#[]⟩=⟨#[]⟩) then ⟨#[47]⟩ else l.foldl jn ⟨#[]⟩
theorem aa4 {l:List ByteArray}{o:ByteArray}(h:l.foldl jn ⟨#[]⟩=o) (h2:decide (o=⟨#[]⟩)=true):oS l=⟨#[47]⟩:=by unfold oS;rw [h,h2];rfl
theorem aa3 {l:List ByteArray}{o:ByteArray}(h:l.foldl jn ⟨#[]⟩=o) (h2:decide (o=⟨#[]⟩)=false):oS l=o:=by unfold oS;rw [h,h2];rfl
def B4 (l:List ByteArray):Prop:=l.length≤1000∧∀x∈l,x.size≤1000000
def r7 (l:List ByteArray):AV:=.s (.str (oS l))
def ac8 (l:List ByteArray):List AV:=[]
def PZ:cn where
 A:=[.s (.vz ab)]
 B:=[]
 pre:=fun x b=>B4 x
 r:=fun x b _=>r7 x
 o:=fun x b _=>ac8 x
theorem afZ:Has Tryz.prog 212 PZ:=by
 refine Has.fm zT zF zF (l:=[]) trivial Tryz.func212 ?_
 rintro (l:List ByteArray) _ (hp:B4 l)
 show vc _ _ _ _ (entry [.s (.vz ab l)] []) _
 obtain⟨hlen,dj⟩:=hp
 refine ?_
 all_goals first|refine aw ?_|refine ax ?_|exact a8|exact a7|skip
 refine cN (l:=[]) (ex:=zT) (wr:=zF) (pt:=zF) trivial [.s 0] (fun y:Nat×ByteArray=>[(.s 3,.str y.2),(.s 4,.int y.1)]) (fun y=>y.1≤l.length∧y.2.size≤1000001*y.1∧(l.drop y.1).foldl jn y.2=l.foldl jn ⟨#[]⟩) (fun y=>l.length-y.1) (0,⟨#[]⟩) [] ⟨ZA7 _,ZA7 _,rfl⟩ dM ?_
 rintro⟨i,out⟩ ⟨(hi:i≤l.length),(ho:out.size≤1000001*i),(hr:(l.drop i).foldl jn out=l.foldl jn ⟨#[]⟩)⟩
 have bU:decide ((i:Int)<(l.length:Int))=true→i<l.length:=fun h=>by have:=aJ h;omega
 have hx:i<l.length→(nth ab l i).size≤1000000:=fun h=>dj _ (bR (ek:=ab) h)
 refine⟨fun w1=>⟨?_,⟨⟨?_,?_⟩,⟨?_,⟨⟨?_,?_⟩,?_⟩⟩⟩⟩,fun w2=>⟨fun w3=>?_,fun w4=>?_⟩⟩
 all_goals first|refine aw ?_|refine ax ?_|exact a8|exact a7|exact bU w1|(unfold imax;simp only [ZB2,ZA5,sz1];have:=hx (bU w1);omega)|skip
 ·have mo:=bU w1
  refine⟨(i+1,jn out (nth ab l i)),[],?_,?_,?_⟩
  rotate_right
  ·exact bV
  ·refine⟨mo,?_,by rw [←hr,bW (ek:=ab) mo];rfl⟩
   show (out++⟨#[47]⟩++nth ab l i).size≤1000001*(i+1)
   have a1:=hx mo
   simp only [ZB2]
   rw [show (⟨#[47]⟩:ByteArray).size=1 from rfl];omega
  ·show l.length-(i+1)<l.length-i;omega
 ·have e:l.foldl jn ⟨#[]⟩=out:=by rw [←hr,ZB3 (by have:=aA (p:=(i:Int)<(l.length:Int)) w2;omega)];rfl
  refine⟨[],[],_,_,_,rfl,az,(),aa,?_,?_,rfl⟩
  ·(show _=r7 l);unfold r7;first|(rw [aa4 e w3];rfl)|rfl
  ·rfl
 ·have e:l.foldl jn ⟨#[]⟩=out:=by rw [←hr,ZB3 (by have:=aA (p:=(i:Int)<(l.length:Int)) w2;omega)];rfl
  refine⟨[],[],_,_,_,rfl,az,(),aa,?_,?_,rfl⟩
  ·(show _=r7 l);unfold r7;first|(rw [aa3 e w4];rfl)|rfl
  ·rfl
def px (s top:ByteArray):Bool:=
 bif !(bT s).2||(!(bT top).2||decide (((bT s).1.length:Int)<((bT top).1.length:Int))) then false
 else decide (oS ((bT s).1.take (bT top).1.length)=oS (bT top).1)
theorem xy (s:ByteArray):(bT s).1.length≤4∧∀x∈(bT s).1,x.size≤s.size:=by
 unfold bT
 cases h: !(gb s) with
 |true=>exact⟨ZA7 _,fun x hx=>by cases hx⟩
 |false=>
  refine⟨?_,CG⟩
  have h:=cL h
  show (bC s).length≤4
  unfold gb at h
  cases h1:decide (s=⟨#[47]⟩) with
  |true=>rw [SO h1];exact ZA7 _
  |false=>
   rw [h1] at h
   simp only [cond_false] at h
   cases h2:decide (s=⟨#[]⟩)||decide (bL s 0≠47) with
   |true=>rw [h2] at h;cases h
   |false=>
    rw [h2] at h
    simp only [cond_false] at h
    unfold tu at h
    simp only [ZA9,decide_eq_true_eq] at h
    omega
def rG (s:ByteArray) (top:ByteArray):Prop:=s.size≤1000000∧top.size≤1000000
def eV (s:ByteArray) (top:ByteArray):AV:=.s (.q (px s top))
def OQ (s:ByteArray) (top:ByteArray):List AV:=[]
def vV:cn where
 A:=[.s .str,.s .str]
 B:=[]
 pre:=fun x b=>rG (x.1) (x.2)
 r:=fun x b _=>eV (x.1) (x.2)
 o:=fun x b _=>OQ (x.1) (x.2)
theorem TE:Has Tryz.prog 184 vV:=by
 refine Has.fm zT zF zF (l:=[(211,vW),(212,PZ)]) ⟨TF,afZ,aa⟩ Tryz.func184 ?_
 rintro⟨(s:ByteArray),(top:ByteArray)⟩ _ (hp:rG s top)
 show vc _ _ _ _ (entry [.str s,.str top] []) _
 obtain⟨h1,h2⟩:=hp
 have hb:=xy s
 have hc:=xy top
 have hT:((bT s).1.take (((some ((bT top).1.length:Int)).getD (bT s).1.length).toNat-(((none:Option Int).getD 0).toNat)))=(bT s).1.take (bT top).1.length:=rfl
 have hm:∀x∈(bT s).1.take (bT top).1.length,x.size≤1000000:=fun x hx=>ZB0 (hb.2 x (ZE6 hx)) h1
 refine⟨⟨tv2,?_⟩,fun x1 w2=>⟨⟨tv2,?_⟩,fun x3 w4=>⟨aa,fun w5=>?_,fun w6=>⟨aa,fun w7=>?_,fun w8=>⟨fun w9=>?_,fun dy=>⟨⟨?_,?_,?_⟩,⟨tv2,?_,fun kz dJ=>?_⟩,fun rW gO=>⟨⟨tv2,?_,fun ky kg=>?_⟩,fun x17 rS=>?_⟩⟩⟩⟩⟩⟩⟩
 all_goals first|refine aw ?_|refine ax ?_|exact a8|(dsimp only [vW,nr,PZ,B4];omega)|exact a7|(show ((bT s).1.take (bT top).1.length).length≤1000;rw [ZB9];omega)|exact hm _ dJ|exact ZB0 (hc.2 _ kg) h2|skip
 ·have e:px s top=false:=by unfold px;rw [w5];rfl
  refine⟨[],[],_,_,_,rfl,az,(),aa,?_,?_,rfl⟩
  ·(show _=eV s top);unfold eV;first|(rw [e];rfl)|rfl
  ·rfl
 ·have e:px s top=false:=by unfold px;rw [w6,w7];rfl
  refine⟨[],[],_,_,_,rfl,az,(),aa,?_,?_,rfl⟩
  ·(show _=eV s top);unfold eV;first|(rw [e];rfl)|rfl
  ·rfl
 ·have e:px s top=false:=by unfold px;rw [w6,w8,w9];rfl
  refine⟨[],[],_,_,_,rfl,az,(),aa,?_,?_,rfl⟩
  ·(show _=eV s top);unfold eV;first|(rw [e];rfl)|rfl
  ·rfl
 ·have e:px s top=decide (oS ((bT s).1.take (bT top).1.length)=oS (bT top).1):=by unfold px;rw [w6,w8,dy];rfl
  refine⟨[],[],_,_,_,rfl,az,(),aa,?_,?_,rfl⟩
  ·(show _=eV s top);unfold eV;first|(rw [e];rfl)|rfl
  ·rfl
def k8 (s:ByteArray):Prop:=s.size≤1000000∧1≤(bC s).length
def u1 (s:ByteArray):AV:=.s (.str (nth ab (bC s) ((bC s).length-1)))
def V3 (s:ByteArray):List AV:=[]
def j6:cn where
 A:=[.s .str]
 B:=[]
 pre:=fun x b=>k8 x
 r:=fun x b _=>u1 x
 o:=fun x b _=>V3 x
theorem wS:Has Tryz.prog 177 j6:=by
 refine Has.fm zT zF zF (l:=[(187,eQ)]) ⟨mV,aa⟩ Tryz.func177 ?_
 rintro (s:ByteArray) _ (hp:k8 s)
 show vc _ _ _ _ (entry [.str s] []) _
 obtain⟨h1,h2⟩:=hp
 have hnl:=ql (s:=s)
 refine⟨⟨tv2,?_⟩,fun x1 w2=>⟨⟨?_,?_⟩,⟨?_,?_⟩,?_⟩⟩
 all_goals first|refine aw ?_|refine ax ?_|exact a8|(dsimp only [eQ,fB];omega)|exact a7|(unfold imax;omega)|skip
 refine⟨[],[],_,_,_,rfl,az,(),aa,?_,?_,rfl⟩
 ·(show _=u1 s);unfold u1;first|(exact congrArg (fun k:Nat=>AV.s (SV.str (nth ab (bC s) k))) (show ((bC s).length-1:Int).toNat=(bC s).length-1 by omega))|rfl
 ·rfl
def SA (o:Opr):Bool:=decide (o.1=6)||decide (o.1=7)
def ahv (o:Opr):Bool:=decide (o.1=3)||decide (o.1=4)
def SB (tw a:Bool) (o:Opr):Bool:=
 bif !(ik o.1 1 7)||(!(gb o.2.1)||((tw&& !(gb o.2.2.1))||(!tw&&decide (o.2.2.1≠⟨#[]⟩)))) then false
 else bif (decide (o.1≠3)&&decide (o.2.2.2.2≠⟨#[]⟩))||decide ((o.2.2.2.2.size:Int)>24) then false
 else decide (o.2.2.2.1=0)||(a&&ik o.2.2.2.1 0 192)
def Y6 (o:Opr):Bool:=SB (SA o) (ahv o) o
def vj (o:Opr):Prop:=o.2.1.size≤1000000∧o.2.2.1.size≤1000000
def GW (o:Opr):AV:=.s (.q (Y6 o))
def afG (o:Opr):List AV:=[]
def y7:cn where
 A:=[.a [.int,.str,.str,.int,.str]]
 B:=[]
 pre:=fun x b=>vj x
 r:=fun x b _=>GW x
 o:=fun x b _=>afG x
theorem XC:Has Tryz.prog 92 y7:=by
 refine Has.ofP 3 zT zF zF (l:=[(35,hZ),(140,qE)]) ⟨iA,IP,aa⟩ Tryz.func92 ?_
 rintro⟨(o1:Int),(o2:ByteArray),(o3:ByteArray),(o4:Int),(o5:ByteArray)⟩ _ (hp:vj (o1,o2,o3,o4,o5))
 show vcP _ _ _ _ 3 _ (entry [.a [.int o1,.str o2,.str o3,.int o4,.str o5]] [])
 obtain⟨(h1:o2.size≤1000000),(h2:o3.size≤1000000)⟩:=hp
 refine zb (l:=[(35,hZ),(140,qE)]) (ex:=zT) (wr:=zF) (pt:=zF) ⟨iA,IP,aa⟩ (fun y:Bool×Bool=>[(.s 1,.s (.bp 1001 0)),(.s 3,.s (.q y.1)),(.s 4,.s (.q y.2)),(.b 1001,.a [.int o1,.str o2,.str o3,.int o4,.str o5])]) (fun y=>y.1=SA (o1,o2,o3,o4,o5)∧y.2=ahv (o1,o2,o3,o4,o5)) (xc 3 (J9 Tryz.f92)) ?_ (fun tail=>?_)
 ·rintro⟨tw,at'⟩ ⟨(h3:tw=SA (o1,o2,o3,o4,o5)),(h4:at'=ahv (o1,o2,o3,o4,o5))⟩
  have e:Y6 (o1,o2,o3,o4,o5)=SB tw at' (o1,o2,o3,o4,o5):=by rw [h3,h4];rfl
  clear h3 h4
  show vc _ _ _ _ (DX.ap [(.s 1,.s (.bp 1001 0)),(.s 3,.s (.q tw)),(.s 4,.s (.q at')),(.b 1001,.a [.int o1,.str o2,.str o3,.int o4,.str o5])]) _
  refine⟨⟨tv4,aa⟩,fun x1 w2=>⟨aa,fun w3=>?_,fun w4=>⟨⟨tv2,?_⟩,fun x5 w6=>⟨aa,fun w7=>?_,fun w8=>⟨aa,fun w9=>⟨⟨tv2,?_⟩,fun x10 kA=>⟨aa,fun dJ=>?_,fun iU=>⟨aa,fun gO=>⟨fun qK=>?_,fun kg=>⟨aa,fun xh=>⟨aa,fun rS=>?_,fun oL=>⟨fun uI=>?_,fun A4=>⟨aa,fun A3=>?_,fun xK=>⟨aa,fun rR=>⟨⟨tv4,aa⟩,fun x25 w26=>?_⟩,fun w27=>?_⟩⟩⟩⟩,fun w28=>⟨fun w29=>?_,fun w30=>⟨aa,fun w31=>?_,fun w32=>⟨aa,fun w33=>⟨⟨tv4,aa⟩,fun x34 w35=>?_⟩,fun w36=>?_⟩⟩⟩⟩⟩,fun w37=>⟨aa,fun w38=>⟨aa,fun w39=>?_,fun w40=>⟨fun w41=>?_,fun w42=>⟨aa,fun w43=>?_,fun w44=>⟨aa,fun w45=>⟨⟨tv4,aa⟩,fun x46 w47=>?_⟩,fun w48=>?_⟩⟩⟩⟩,fun w49=>⟨fun w50=>?_,fun w51=>⟨aa,fun w52=>?_,fun w53=>⟨aa,fun w54=>⟨⟨tv4,aa⟩,fun x55 w56=>?_⟩,fun w57=>?_⟩⟩⟩⟩⟩⟩⟩,fun w58=>⟨aa,fun w59=>⟨fun w60=>?_,fun w61=>⟨aa,fun w62=>⟨aa,fun w63=>?_,fun w64=>⟨fun w65=>?_,fun w66=>⟨aa,fun w67=>?_,fun w68=>⟨aa,fun w69=>⟨⟨tv4,aa⟩,fun x70 w71=>?_⟩,fun w72=>?_⟩⟩⟩⟩,fun w73=>⟨fun w74=>?_,fun w75=>⟨aa,fun w76=>?_,fun w77=>⟨aa,fun w78=>⟨⟨tv4,aa⟩,fun x79 w80=>?_⟩,fun w81=>?_⟩⟩⟩⟩⟩,fun w82=>⟨aa,fun w83=>⟨aa,fun w84=>?_,fun w85=>⟨fun w86=>?_,fun w87=>⟨aa,fun w88=>?_,fun w89=>⟨aa,fun w90=>⟨⟨tv4,aa⟩,fun x91 w92=>?_⟩,fun w93=>?_⟩⟩⟩⟩,fun w94=>⟨fun w95=>?_,fun w96=>⟨aa,fun w97=>?_,fun w98=>⟨aa,fun w99=>⟨⟨tv4,aa⟩,fun alC aku=>?_⟩,fun al7=>?_⟩⟩⟩⟩⟩⟩⟩⟩⟩⟩
  all_goals first|refine aw ?_|refine ax ?_|exact a8|(dsimp only [qE,mO];omega)|exact a7|exact h1|exact h2|skip
  all_goals
   refine⟨[],[],_,_,_,rfl,az,(),0,aa,?_,?_,rfl⟩
   ·(show _=GW (o1,o2,o3,o4,o5));unfold GW;first|((rw [e];simp only [SB, *];rfl))|((rw [e];simp [SB, *]<;>rfl))|((exfalso;clear e;simp_all))|rfl
   ·rfl
 ·refine⟨aa,fun w1=>⟨aa,fun w2=>?_,fun w3=>?_⟩,fun w4=>⟨aa,fun w5=>?_,fun w6=>?_⟩⟩
  all_goals first|refine aw ?_|refine ax ?_|exact a8|(dsimp only [qE,mO];omega)|exact a7|skip
  ·refine joinTail tail ((true,decide (o1=4))) [] ((⟨by show true=(decide (o1=6)||decide (o1=7));rw [w1];rfl,by show decide (o1=4)=(decide (o1=3)||decide (o1=4));rw [w3];rfl⟩)) ?_
   repeat' (first|exact trivial|rfl|exact rfl|exact fP ZA0.symm|apply And.intro)
  ·refine joinTail tail ((decide (o1=7),true)) [] ((⟨by show decide (o1=7)=(decide (o1=6)||decide (o1=7));rw [w4];rfl,by show true=(decide (o1=3)||decide (o1=4));rw [w5];rfl⟩)) ?_
   repeat' (first|exact trivial|rfl|exact rfl|exact fP ZA0.symm|apply And.intro)
  ·refine joinTail tail ((decide (o1=7),decide (o1=4))) [] ((⟨by show decide (o1=7)=(decide (o1=6)||decide (o1=7));rw [w4];rfl,by show decide (o1=4)=(decide (o1=3)||decide (o1=4));rw [w6];rfl⟩)) ?_
   repeat' (first|exact trivial|rfl|exact rfl|exact fP ZA0.symm|apply And.intro)
end GL
end Go.Proofs.YtnkbdhldiinfdaaGreatDoor
