/- FnTreeOk returns true for every code (its row lists package variables, tied by the card): part 22. -/
import Derived.Test.YtbfgjadbfjkcdaaGreatDoorPal
import Derived.Test.YtbfgjadbfjkcdaaGreatDoorPas
import Derived.Test.YtbfgjadbfjkcdaaGreatDoorPat
set_option maxHeartbeats 20000000
set_option linter.all false
namespace Go.Proofs.YtbfgjadbfjkcdaaGreatDoor
namespace GL
def egB (w:List ByteArray) (i:Nat):List ByteArray:=bo (nth ab w i) 61
def egF:Nat→List ByteArray→Nat→List eW→Option (List eW)
 |0,_,_,out=>some out
 |f+1,w,i,out=>bif decide ((i:Int)+1<(w.length:Int)) then
   (bif decide (((egB w i).length:Int)≠2) then none else egF f w (i+1) (out++[(nth ab (egB w i) 0,(aD (nth ab (egB w i) 1)).1)])) else some out
def ES (s:ByteArray) (out:List eW):List eW×Bool:=bif !(eG out)||decide (en out≠s) then ([],false) else (out,true)
def cQ (s:ByteArray):List eW×Bool:=match egF ((bo s 59).length) (bo s 59) 0 [] with
 |none=>([],false)
 |some out=>ES s out
theorem ahm {f:Nat}{w:List ByteArray}{i:Nat}{out:List eW}(h:decide ((i:Int)+1<(w.length:Int))=true) (h2:decide (((egB w i).length:Int)≠2)=true):egF (f+1) w i out=none:=by rw [egF,h,h2];rfl
theorem ahl {f:Nat}{w:List ByteArray}{i:Nat}{out:List eW}(h:decide ((i:Int)+1<(w.length:Int))=true) (h2:decide (((egB w i).length:Int)≠2)=false):egF (f+1) w i out=egF f w (i+1) (out++[(nth ab (egB w i) 0,(aD (nth ab (egB w i) 1)).1)]):=by rw [egF,h,h2];rfl
theorem aaE {f:Nat}{w:List ByteArray}{i:Nat}{out:List eW}(h:decide ((i:Int)+1<(w.length:Int))=false):egF f w i out=some out:=by
 cases f with
 |zero=>rfl
 |succ f=>rw [egF,h];rfl
theorem xP {s:ByteArray}(h:egF ((bo s 59).length) (bo s 59) 0 []=none):cQ s=([],false):=by unfold cQ;rw [h]
theorem nE {s:ByteArray}{out:List eW}(h:egF ((bo s 59).length) (bo s 59) 0 []=some out):cQ s=ES s out:=by unfold cQ;rw [h]
theorem aaC {s:ByteArray}{out:List eW}(h:(!(eG out))=true):ES s out=([],false):=by unfold ES;rw [h];rfl
theorem aaB {s:ByteArray}{out:List eW}(h:decide (en out≠s)=true):ES s out=([],false):=by unfold ES;rw [h,ZC4];rfl
theorem aaD {s:ByteArray}{out:List eW}(h:(!(eG out))=false) (h2:decide (en out≠s)=false):ES s out=(out,true):=by unfold ES;rw [h,h2];rfl
theorem aax {l:List eW}:∀{f i:Nat},AH f l i=true→∀k,i≤k→k<i+f→ki l k=false
 |0,i,_,k,h1,h2=>by omega
 |f+1,i,h,k,h1,h2=>by
  cases hb:ki l i with
  |true=>rw [P7 hb] at h;cases h
  |false=>
   rw [YC hb] at h
   by_cases e:k=i
   ·rw [e];exact hb
   ·exact aax h k (by omega) (by omega)
theorem xO {l:List eW}(h:eG l=true):l.length≤12∧∀e∈l,fD e.1=true∧1≤e.2∧e.2≤15:=by
 unfold eG at h
 simp only [ZB0,decide_eq_true_eq] at h
 refine⟨by omega,fun e he=>?_⟩
 obtain⟨k,hk,rfl⟩:=List.mem_iff_getElem.1 he
 have hb:=aax h.1 k (ZA8 _) (by omega)
 unfold ki at hb
 simp only [ZD7,Bool.not_eq_false',cz] at hb
 have hn:nth aK l k=l[k]:=by
  have:=oK (ek:=aK) hk
  rw [ZB2 hk] at this
  exact (ZE7 this).symm
 rw [hn] at hb
 exact⟨hb.1,hb.2.1⟩
theorem D8 {s:ByteArray}(h:fD s=true):1≤s.size∧s.size≤4:=by
 unfold fD at h
 simp only [ZB0,cz] at h
 omega
theorem acC.akX {l:List eW}(h:eG l=true):acC l:=by
 obtain⟨h1,h2⟩:=xO h
 refine⟨by omega,fun e he=>?_,fun e he=>?_⟩
 ·have:=D8 (h2 e he).1;omega
 ·have:=(h2 e he).2;omega
theorem afd {w:List ByteArray}(hw:∀x∈w,x.size≤1000000):∀{f i:Nat}{out o:List eW},egF f w i out=some o→(∀e∈out,e.1.size≤1000000)→∀e∈o,e.1.size≤1000000
 |0,i,out,o,h,ho=>by cases h;exact ho
 |f+1,i,out,o,h,ho=>by
  cases h1:decide ((i:Int)+1<(w.length:Int)) with
  |false=>rw [aaE h1] at h;cases h;exact ho
  |true=>
   cases h2:decide (((egB w i).length:Int)≠2) with
   |true=>rw [ahm h1 h2] at h;cases h
   |false=>
    rw [ahl h1 h2] at h
    refine afd hw h fun e he=>?_
    rcases ZB5.1 he with he |he
    ·exact ho e he
    ·rw [ZC7.1 he]
     have h3:=aE h1
     have hx:=hw _ (bT (ek:=ab) (l:=w) (k:=i) (by omega))
     have h4:=aA h2
     exact ZB1 (o6 _ (bT (ek:=ab) (l:=egB w i) (k:=0) (by omega))) hx
def lZ (s:ByteArray):Prop:=s.size≤1000000
def eu (s:ByteArray):AV:=.t [.s (.xs 0 2 0 (cQ s).1.length),.s (.q (cQ s).2)]
def fa (s:ByteArray):List AV:=[.rs aK (cQ s).1]
def uo:Con where
 A:=[.s .str]
 B:=[]
 pre:=fun x b=>lZ x
 α:=fun _ _=>Unit
 φ:=fun _ _ _=>True
 r:=fun x b _=>eu x
 o:=fun x b _=>fa x
 nf:=1
set_option maxRecDepth 100000 in
theorem PX:Has Tryz.prog 152 uo:=by
 refine Has.ofE (fun _=>true) (fun _=>false) (fun _=>false) (l:=[(115,iE),(74,jH),(166,ox),(129,qE)]) ⟨tK,vH,EE,IV,trivial⟩ (fn:=Tryz.f152) Tryz.func152 rfl (by decide) (aZ rfl) ?_
 rintro (s:ByteArray) _ (hp:lZ s)
 show vc _ _ _ _ (entry [.str s] []) _
 unfold lZ at hp
 have hcl:=ua s 59
 have kh:=o6 (s:=s) (c:=59)
 refine⟨aa,⟨⟨aa,aa,aa⟩,?_⟩,fun x1 w2=>?_⟩
 all_goals first|refine aw ?_|refine ax ?_|exact ba|(dsimp only [iE,iS];omega)|(dsimp only [jH,gM];omega)|(dsimp only [ox,nB];omega)|(dsimp only [qE,qd];omega)|exact a8|skip
 refine cO (l:=[(115,iE),(74,jH),(166,ox),(129,qE)]) (ex:=fun _=>true) (wr:=fun _=>false) (pt:=fun _=>false) ⟨tK,vH,EE,IV,trivial⟩ [.s 0,.s 5,.b 130000] (fun y:Nat×Nat×List eW=>[(.s 4,.s (.xs 1010 2 0 y.2.2.length)),(.s 6,.int y.1),(.b 1010,.rs aK y.2.2)]) (fun y=>(y.1+y.2.1=(bo s 59).length∧1≤y.2.1)∧y.2.2.length=y.1∧(∀e∈y.2.2,e.1.size≤1000000)∧egF y.2.1 (bo s 59) y.1 y.2.2=egF (bo s 59).length (bo s 59) 0 []) (fun y=>y.2.1) (0,(bo s 59).length,[]) [] ⟨⟨ZA7 _,hcl.1⟩,rfl,(fun _ h=>by cases h),rfl⟩ dN ?_
 rintro⟨i,f,out⟩ ⟨⟨(hi:i+f=(bo s 59).length),(hf1:1≤f)⟩,(hlo:out.length=i),(hos:∀e∈out,e.1.size≤1000000),(hr:egF f (bo s 59) i out=egF (bo s 59).length (bo s 59) 0 [])⟩
 have bU:decide ((i:Int)+1<((bo s 59).length:Int))=true→i<(bo s 59).length:=fun h=>by have:=aE h;omega
 have hxs:i<(bo s 59).length→(nth ab (bo s 59) i).size≤1000000:=fun h=>ZB1 (kh _ (bT (ek:=ab) h)) hp
 have hbl:=ua (nth ab (bo s 59) i) 61
 refine⟨⟨?_,?_⟩,fun w1=>⟨⟨?_,?_⟩,?_,⟨⟨aa,aa,aa⟩,?_⟩,fun x2 w3=>⟨fun w4=>⟨aa,?_⟩,fun w5=>⟨⟨?_,?_⟩,?_,⟨⟨aa,aa⟩,?_⟩,fun x6 w7=>⟨⟨?_,?_⟩,?_,aa,⟨⟨?_,?_⟩,?_,?_⟩,⟨?_,?_⟩,?_⟩⟩⟩⟩,fun w8=>⟨⟨⟨⟨?_,?_⟩,aa⟩,?_⟩,fun x9 dq=>⟨aa,fun kk=>⟨aa,?_⟩,fun dI=>⟨⟨⟨⟨?_,?_⟩,aa⟩,?_⟩,fun r4 gI=>⟨fun pe=>⟨aa,?_⟩,fun kj=>?_⟩⟩⟩⟩⟩
 all_goals first|refine aw ?_|refine ax ?_|exact ba|(dsimp only [iE,iS];omega)|(dsimp only [jH,gM];omega)|(dsimp only [ox,nB];omega)|(dsimp only [qE,qd];omega)|exact a8|exact bU w1|exact hxs (bU w1)|skip
 ·obtain⟨g,rfl⟩:∃g,f=g+1:=⟨f-1,by have:=bU w1;omega⟩
  have e:cQ s=([],false):=xP (by rw [←hr];exact ahm w1 w4)
  refine⟨[1028],[],_,_,_,rfl,az,(),aa,?_,?_,rfl⟩
  ·(show _=eu s);unfold eu;first|(rw [e];rfl)|rfl
  ·(show _=fa s);unfold fa;first|(rw [e];rfl)|rfl
 ·have h2:(bo (nth ab (bo s 59) i) 61).length=2:=by have:=aA (p:=((bo (nth ab (bo s 59) i) 61).length:Int)≠2) w5;omega
  show (1:Int)<((bo (nth ab (bo s 59) i) 61).length:Int);omega
 ·have h2:(bo (nth ab (bo s 59) i) 61).length=2:=by have:=aA (p:=((bo (nth ab (bo s 59) i) 61).length:Int)≠2) w5;omega
  show 1<(bo (nth ab (bo s 59) i) 61).length;omega
 ·have h2:(bo (nth ab (bo s 59) i) 61).length=2:=by have:=aA (p:=((bo (nth ab (bo s 59) i) 61).length:Int)≠2) w5;omega
  have h3:(nth ab (bo (nth ab (bo s 59) i) 61) 1).size≤1000000:=ZB1 (o6 (s:=(nth ab (bo s 59) i)) (c:=61) _ (bT (ek:=ab) (l:=bo (nth ab (bo s 59) i) 61) (k:=1) (by omega))) (hxs (bU w1))
  show ((nth ab (bo (nth ab (bo s 59) i) 61) 1).size:Int)≤1000000000000;omega
 ·obtain⟨g,rfl⟩:∃g,f=g+1:=⟨f-1,by have:=bU w1;omega⟩
  have h2:(bo (nth ab (bo s 59) i) 61).length=2:=by have:=aA (p:=((bo (nth ab (bo s 59) i) 61).length:Int)≠2) w5;omega
  refine⟨(i+1,g,out++[(nth ab (egB (bo s 59) i) 0,(aD (nth ab (egB (bo s 59) i) 1)).1)]),[(1010,1043)],?_,?_,?_⟩
  rotate_right
  ·exact bX
  ·refine⟨⟨by show i+1+g=(bo s 59).length;omega,by show 1≤g;have:=aE (p:=(i:Int)+1<((bo s 59).length:Int)) w1;omega⟩,by show (out++[_]).length=i+1;rw [ZA0,hlo];rfl,fun e he=>?_,by rw [←hr];exact (ahl w1 w5).symm⟩
   rcases ZB5.1 he with he |he
   ·exact hos e he
   ·rw [ZC7.1 he]
    exact ZB1 (o6 (s:=(nth ab (bo s 59) i)) (c:=61) _ (bT (ek:=ab) (l:=bo (nth ab (bo s 59) i) 61) (k:=0) (by omega))) (hxs (bU w1))
  ·exact ZE0 g
 ·exact (⟨by show out.length≤1000000;have:=aA (p:=(i:Int)+1<((bo s 59).length:Int)) w8;omega,hos⟩:afO out)
 ·have e0:egF (bo s 59).length (bo s 59) 0 []=some out:=by rw [←hr];exact aaE w8
  have e:cQ s=([],false):=by rw [nE e0];exact aaC kk
  refine⟨[1053],[],_,_,_,rfl,az,(),aa,?_,?_,rfl⟩
  ·(show _=eu s);unfold eu;first|(rw [e];rfl)|rfl
  ·(show _=fa s);unfold fa;first|(rw [e];rfl)|rfl
 ·exact acC.akX (cI dI)
 ·have e0:egF (bo s 59).length (bo s 59) 0 []=some out:=by rw [←hr];exact aaE w8
  have e:cQ s=([],false):=by rw [nE e0];exact aaB pe
  refine⟨[1053],[],_,_,_,rfl,az,(),aa,?_,?_,rfl⟩
  ·(show _=eu s);unfold eu;first|(rw [e];rfl)|rfl
  ·(show _=fa s);unfold fa;first|(rw [e];rfl)|rfl
 ·have e0:egF (bo s 59).length (bo s 59) 0 []=some out:=by rw [←hr];exact aaE w8
  have e:cQ s=(out,true):=by rw [nE e0];exact aaD dI kj
  refine⟨[1010],[],_,_,_,rfl,az,(),aa,?_,?_,rfl⟩
  ·(show _=eu s);unfold eu;first|(rw [e];rfl)|rfl
  ·(show _=fa s);unfold fa;first|(rw [e];rfl)|rfl
end GL
namespace GL
def bE (s:ByteArray):List ByteArray:=bif decide (s=⟨#[47]⟩) then [] else (bo s 47).drop 1
theorem S7 {s:ByteArray}(h:decide (s=⟨#[47]⟩)=true):bE s=[]:=by unfold bE;rw [h];rfl
theorem adP {s:ByteArray}(h:decide (s=⟨#[47]⟩)=false):bE s=(bo s 47).drop 1:=by unfold bE;rw [h];rfl
theorem CL {s:ByteArray}:∀x∈bE s,x.size≤s.size:=by
 intro x hx
 unfold bE at hx
 cases h:decide (s=⟨#[47]⟩) with
 |true=>rw [h] at hx;cases hx
 |false=>rw [h] at hx;exact o6 x (ZF4 hx)
theorem qq {s:ByteArray}:(bE s).length≤s.size:=by
 unfold bE
 cases h:decide (s=⟨#[47]⟩) with
 |true=>exact ZA8 _
 |false=>have:=ua s 47;simp only [cond_false,ZD0];omega
def fC (s:ByteArray):Prop:=s.size≤1000000
def lM (s:ByteArray):AV:=.s (.vw ab (bE s))
def SF (s:ByteArray):List AV:=[]
def eS:Con where
 A:=[.s .str]
 B:=[]
 pre:=fun x b=>fC x
 α:=fun _ _=>Unit
 φ:=fun _ _ _=>True
 r:=fun x b _=>lM x
 o:=fun x b _=>SF x
 nf:=0
set_option maxRecDepth 100000 in
theorem nb:Has Tryz.prog 111 eS:=by
 refine Has.ofE (fun _=>true) (fun _=>false) (fun _=>false) (l:=[(115,iE)]) ⟨tK,trivial⟩ (fn:=Tryz.f111) Tryz.func111 rfl (by decide) (aZ rfl) ?_
 rintro (s:ByteArray) _ (hp:fC s)
 show vc _ _ _ _ (entry [.str s] []) _
 unfold fC at hp
 have hb:=ua s 47
 have hv:(((bo s 47).drop (0+1)).take ((bo s 47).length-1))=(bo s 47).drop 1:=ZD1 (by rw [ZD0];omega)
 refine⟨fun w1=>⟨aa,?_⟩,fun w2=>⟨⟨⟨aa,aa,aa⟩,?_⟩,fun x3 w4=>⟨⟨?_,?_,?_⟩,?_⟩⟩⟩
 all_goals first|refine aw ?_|refine ax ?_|exact ba|(dsimp only [iE,iS];omega)|exact a8|skip
 ·refine⟨[],[],_,_,_,rfl,ch,(),aa,?_,?_,rfl⟩
  ·(show _=lM s);unfold lM;first|(rw [S7 w1];rfl)|rfl
  ·rfl
 ·refine⟨[],[],_,_,_,rfl,ch,(),aa,?_,?_,rfl⟩
  ·(show _=lM s);unfold lM;first|(rw [adP w2,←hv];rfl)|rfl
  ·rfl
def HJ:Nat→List ByteArray→Nat→Bool
 |0,_,_=>true
 |f+1,l,i=>bif fD (nth ab l i) then HJ f l (i+1) else false
def tB (l:List ByteArray):Bool:=HJ l.length l 0&&decide ((l.length:Int)≤4)
def gb (s:ByteArray):Bool:=bif decide (s=⟨#[47]⟩) then true else bif decide (s=⟨#[]⟩)||decide (bN s 0≠47) then false else tB (bE s)
theorem ahE {f:Nat}{l:List ByteArray}{i:Nat}(h:(!(fD (nth ab l i)))=true):HJ (f+1) l i=false:=by rw [HJ,xv h];rfl
theorem ahD {f:Nat}{l:List ByteArray}{i:Nat}(h:(!(fD (nth ab l i)))=false):HJ (f+1) l i=HJ f l (i+1):=by rw [HJ,cI h];rfl
theorem abj {s:ByteArray}(h:decide (s=⟨#[47]⟩)=true):gb s=true:=by unfold gb;rw [h];rfl
theorem abi {s:ByteArray}(h:decide (s=⟨#[47]⟩)=false) (h2:decide (s=⟨#[]⟩)=true):gb s=false:=by unfold gb;rw [h,h2];rfl
theorem abh {s:ByteArray}(h:decide (s=⟨#[47]⟩)=false) (h2:decide (bN s 0≠47)=true):gb s=false:=by unfold gb;rw [h,h2,ZC4];rfl
theorem abg {s:ByteArray}(h:decide (s=⟨#[47]⟩)=false) (h2:decide (s=⟨#[]⟩)=false) (h3:decide (bN s 0≠47)=false):gb s=tB (bE s):=by unfold gb;rw [h,h2,h3];rfl
def mU (s:ByteArray):Prop:=s.size≤1000000
def fS (s:ByteArray):AV:=.s (.q (gb s))
def abI (s:ByteArray):List AV:=[]
def qJ:Con where
 A:=[.s .str]
 B:=[]
 pre:=fun x b=>mU x
 α:=fun _ _=>Unit
 φ:=fun _ _ _=>True
 r:=fun x b _=>fS x
 o:=fun x b _=>abI x
 nf:=0
set_option maxRecDepth 100000 in
theorem I0:Has Tryz.prog 72 qJ:=by
 refine Has.ofE (fun _=>true) (fun _=>false) (fun _=>false) (l:=[(111,eS),(112,ow)]) ⟨nb,zW,trivial⟩ (fn:=Tryz.f72) Tryz.func72 rfl (by decide) (aZ rfl) ?_
 rintro (s:ByteArray) _ (hp:mU s)
 show vc _ _ _ _ (entry [.str s] []) _
 unfold mU at hp
 have hnl:=qq (s:=s)
 have hns:=CL (s:=s)
 have nc:decide (s=⟨#[]⟩)=false→0<(s.size:Int):=fun h=>by have:=size_pos (aA h);omega
 refine⟨fun w1=>?_,fun w2=>⟨aa,fun w3=>?_,fun w4=>⟨⟨?_,?_⟩,fun w5=>?_,fun w6=>⟨⟨⟨aa,aa⟩,?_⟩,fun x7 w8=>?_⟩⟩⟩⟩
 all_goals first|refine aw ?_|refine ax ?_|exact ba|(dsimp only [eS,fC];omega)|(dsimp only [ow,mV];omega)|exact a8|exact nc w4|skip
 ·refine⟨[],[],_,_,_,rfl,az,(),aa,?_,?_,rfl⟩
  ·(show _=fS s);unfold fS;first|(rw [abj w1];rfl)|rfl
  ·rfl
 ·refine⟨[],[],_,_,_,rfl,az,(),aa,?_,?_,rfl⟩
  ·(show _=fS s);unfold fS;first|(rw [abi w2 w3];rfl)|rfl
  ·rfl
 ·refine⟨[],[],_,_,_,rfl,az,(),aa,?_,?_,rfl⟩
  ·(show _=fS s);unfold fS;first|(rw [abh w2 w5];rfl)|rfl
  ·rfl
 ·have hM:=abg w2 w4 w6
  refine cO (l:=[(111,eS),(112,ow)]) (ex:=fun _=>true) (wr:=fun _=>false) (pt:=fun _=>false) ⟨nb,zW,aa⟩ [.s 0,.s 3] (fun y:Nat×Nat=>[(.s 4,.int y.1)]) (fun y=>y.1+y.2=(bE s).length∧HJ y.2 (bE s) y.1=HJ (bE s).length (bE s) 0) (fun y=>y.2) (0,(bE s).length) [] ⟨ZA7 _,rfl⟩ dN ?_
  rintro⟨k,f⟩ ⟨(hk:k+f=(bE s).length),(he:HJ f (bE s) k=HJ (bE s).length (bE s) 0)⟩
  have bU:decide ((k:Int)<((bE s).length:Int))=true→k<(bE s).length:=fun h=>by have:=aE h;omega
  have dk:k<(bE s).length→(nth ab (bE s) k).size≤1000000:=fun h=>ZB1 (hns _ (bT (ek:=ab) h)) hp
  refine⟨fun w1=>⟨⟨?_,?_⟩,⟨⟨aa,aa⟩,?_⟩,fun x2 w3=>⟨fun w4=>?_,fun w5=>⟨⟨?_,?_⟩,?_⟩⟩⟩,fun w6=>?_⟩
  all_goals first|refine aw ?_|refine ax ?_|exact ba|(dsimp only [eS,fC];omega)|(dsimp only [ow,mV];omega)|exact a8|exact bU w1|exact dk (bU w1)|skip
  ·obtain⟨g,rfl⟩:∃g,f=g+1:=⟨f-1,by have:=bU w1;omega⟩
   have e:tB (bE s)=false:=by unfold tB;rw [←he,ahE (show (!(fD (nth ab (bE s) k)))=true from w4)];rfl
   refine⟨[],[],_,_,_,rfl,az,(),aa,?_,?_,rfl⟩
   ·(show _=fS s);unfold fS;first|(rw [hM,e];rfl)|rfl
   ·rfl
  ·obtain⟨g,rfl⟩:∃g,f=g+1:=⟨f-1,by have:=bU w1;omega⟩
   refine⟨(k+1,g),[],?_,?_,?_⟩
   rotate_right
   ·exact bX
   ·exact⟨by show k+1+g=(bE s).length;omega,by rw [←he];exact (ahD w5).symm⟩
   ·exact ZE0 g
  ·have hf:f=0:=by have:=aA (p:=(k:Int)<((bE s).length:Int)) w6;omega
   subst hf
   have e:tB (bE s)=decide (((bE s).length:Int)≤4):=by unfold tB;rw [←he];rfl
   refine⟨[],[],_,_,_,rfl,az,(),aa,?_,?_,rfl⟩
   ·(show _=fS s);unfold fS;first|(rw [hM,e];rfl)|rfl
   ·rfl
def bW (s:ByteArray):List ByteArray×Bool:=bif !(gb s) then ([],false) else (bE s,true)
theorem OU {s:ByteArray}(h:(!(gb s))=true):bW s=([],false):=by unfold bW;rw [h];rfl
theorem OT {s:ByteArray}(h:(!(gb s))=false):bW s=(bE s,true):=by unfold bW;rw [h];rfl
def nz (s:ByteArray):Prop:=s.size≤1000000
def km (s:ByteArray):AV:=.t [.s (.vw ab (bW s).1),.s (.q (bW s).2)]
def O3 (s:ByteArray):List AV:=[]
def wb:Con where
 A:=[.s .str]
 B:=[]
 pre:=fun x b=>nz x
 α:=fun _ _=>Unit
 φ:=fun _ _ _=>True
 r:=fun x b _=>km x
 o:=fun x b _=>O3 x
 nf:=0
set_option maxRecDepth 100000 in
theorem TX:Has Tryz.prog 136 wb:=by
 refine Has.ofE (fun _=>true) (fun _=>false) (fun _=>false) (l:=[(72,qJ),(111,eS)]) ⟨I0,nb,trivial⟩ (fn:=Tryz.f136) Tryz.func136 rfl (by decide) (aZ rfl) ?_
 rintro (s:ByteArray) _ (hp:nz s)
 show vc _ _ _ _ (entry [.str s] []) _
 unfold nz at hp
 have hnl:=qq (s:=s)
 refine⟨⟨⟨aa,aa⟩,?_⟩,fun x1 w2=>⟨fun w3=>⟨aa,?_⟩,fun w4=>⟨aa,⟨⟨aa,aa⟩,?_⟩,fun x5 w6=>⟨⟨⟨?_,?_⟩,aa⟩,?_⟩⟩⟩⟩
 all_goals first|refine aw ?_|refine ax ?_|exact ba|(dsimp only [qJ,mU];omega)|(dsimp only [eS,fC];omega)|exact a8|skip
 ·refine⟨[],[],_,_,_,rfl,ch,(),aa,?_,?_,rfl⟩
  ·(show _=km s);unfold km;first|(rw [OU w3];rfl)|rfl
  ·rfl
 ·have hv:([]++bE s)=bE s:=ZC9 _
  refine⟨[],[],_,_,_,rfl,ch,(),aa,?_,?_,rfl⟩
  ·(show _=km s);unfold km;first|(show AV.t [A0.s (SV.vw ab (List.take (([]:List ByteArray).length+(bE s).length) (List.drop 0 ([]++bE s)))),A0.s (SV.q true)]=_;simp only [ZC9,ZF1,ZA4,ZA7,List.take_length,OT w4])|rfl
  ·rfl
def jq (o x:ByteArray):ByteArray:=o++⟨#[47]⟩++x
def oX (l:List ByteArray):ByteArray:=bif decide (l.foldl jq ⟨#[]⟩=⟨#[]⟩) then ⟨#[47]⟩ else l.foldl jq ⟨#[]⟩
theorem abl {l:List ByteArray}{o:ByteArray}(h:l.foldl jq ⟨#[]⟩=o) (h2:decide (o=⟨#[]⟩)=true):oX l=⟨#[47]⟩:=by unfold oX;rw [h,h2];rfl
theorem abk {l:List ByteArray}{o:ByteArray}(h:l.foldl jq ⟨#[]⟩=o) (h2:decide (o=⟨#[]⟩)=false):oX l=o:=by unfold oX;rw [h,h2];rfl
def B9 (l:List ByteArray):Prop:=l.length≤1000∧∀x∈l,x.size≤1000000
def sc (l:List ByteArray):AV:=.s (.str (oX l))
def ads (l:List ByteArray):List AV:=[]
def QD:Con where
 A:=[.s (.vz ab)]
 B:=[]
 pre:=fun x b=>B9 x
 α:=fun _ _=>Unit
 φ:=fun _ _ _=>True
 r:=fun x b _=>sc x
 o:=fun x b _=>ads x
 nf:=0
set_option maxRecDepth 100000 in
theorem agi:Has Tryz.prog 137 QD:=by
 refine Has.ofE (fun _=>true) (fun _=>false) (fun _=>false) (l:=[]) trivial (fn:=Tryz.f137) Tryz.func137 rfl (by decide) (aZ rfl) ?_
 rintro (l:List ByteArray) _ (hp:B9 l)
 show vc _ _ _ _ (entry [.s (.vz ab l)] []) _
 obtain⟨hlen,dk⟩:=hp
 refine ?_
 all_goals first|refine aw ?_|refine ax ?_|exact ba|exact a8|skip
 refine cO (l:=[]) (ex:=fun _=>true) (wr:=fun _=>false) (pt:=fun _=>false) trivial [.s 0] (fun y:Nat×ByteArray=>[(.s 3,.str y.2),(.s 4,.int y.1)]) (fun y=>y.1≤l.length∧y.2.size≤1000001*y.1∧(l.drop y.1).foldl jq y.2=l.foldl jq ⟨#[]⟩) (fun y=>l.length-y.1) (0,⟨#[]⟩) [] ⟨ZA8 _,ZA8 _,rfl⟩ dN ?_
 rintro⟨i,out⟩ ⟨(hi:i≤l.length),(ho:out.size≤1000001*i),(hr:(l.drop i).foldl jq out=l.foldl jq ⟨#[]⟩)⟩
 have bU:decide ((i:Int)<(l.length:Int))=true→i<l.length:=fun h=>by have:=aE h;omega
 have hx:i<l.length→(nth ab l i).size≤1000000:=fun h=>dk _ (bT (ek:=ab) h)
 refine⟨fun w1=>⟨?_,⟨⟨?_,?_⟩,⟨?_,⟨⟨?_,?_⟩,?_⟩⟩⟩⟩,fun w2=>⟨fun w3=>?_,fun w4=>?_⟩⟩
 all_goals first|refine aw ?_|refine ax ?_|exact ba|exact a8|exact bU w1|(unfold imax;simp only [ZB3,ZA5,sz1];have:=hx (bU w1);omega)|skip
 ·have mz:=bU w1
  refine⟨(i+1,jq out (nth ab l i)),[],?_,?_,?_⟩
  rotate_right
  ·exact bX
  ·refine⟨mz,?_,by rw [←hr,bZ (ek:=ab) mz];rfl⟩
   show (out++⟨#[47]⟩++nth ab l i).size≤1000001*(i+1)
   have a1:=hx mz
   simp only [ZB3]
   rw [show (⟨#[47]⟩:ByteArray).size=1 from rfl];omega
  ·show l.length-(i+1)<l.length-i;omega
 ·have e:l.foldl jq ⟨#[]⟩=out:=by rw [←hr,ZB4 (by have:=aA (p:=(i:Int)<(l.length:Int)) w2;omega)];rfl
  refine⟨[],[],_,_,_,rfl,az,(),aa,?_,?_,rfl⟩
  ·(show _=sc l);unfold sc;first|(rw [abl e w3];rfl)|rfl
  ·rfl
 ·have e:l.foldl jq ⟨#[]⟩=out:=by rw [←hr,ZB4 (by have:=aA (p:=(i:Int)<(l.length:Int)) w2;omega)];rfl
  refine⟨[],[],_,_,_,rfl,az,(),aa,?_,?_,rfl⟩
  ·(show _=sc l);unfold sc;first|(rw [abk e w4];rfl)|rfl
  ·rfl
def pD (s top:ByteArray):Bool:=
 bif !(bW s).2||(!(bW top).2||decide (((bW s).1.length:Int)<((bW top).1.length:Int))) then false
 else decide (oX ((bW s).1.take (bW top).1.length)=oX (bW top).1)
theorem xH (s:ByteArray):(bW s).1.length≤4∧∀x∈(bW s).1,x.size≤s.size:=by
 unfold bW
 cases h: !(gb s) with
 |true=>exact⟨ZA8 _,fun x hx=>by cases hx⟩
 |false=>
  refine⟨?_,CL⟩
  have h:=cI h
  show (bE s).length≤4
  unfold gb at h
  cases h1:decide (s=⟨#[47]⟩) with
  |true=>rw [S7 h1];exact ZA8 _
  |false=>
   rw [h1] at h
   simp only [cond_false] at h
   cases h2:decide (s=⟨#[]⟩)||decide (bN s 0≠47) with
   |true=>rw [h2] at h;cases h
   |false=>
    rw [h2] at h
    simp only [cond_false] at h
    unfold tB at h
    simp only [ZB0,decide_eq_true_eq] at h
    omega
def rO (s:ByteArray) (top:ByteArray):Prop:=s.size≤1000000∧top.size≤1000000
def eX (s:ByteArray) (top:ByteArray):AV:=.s (.q (pD s top))
def O2 (s:ByteArray) (top:ByteArray):List AV:=[]
def wa:Con where
 A:=[.s .str,.s .str]
 B:=[]
 pre:=fun x b=>rO (x.1) (x.2)
 α:=fun _ _=>Unit
 φ:=fun _ _ _=>True
 r:=fun x b _=>eX (x.1) (x.2)
 o:=fun x b _=>O2 (x.1) (x.2)
 nf:=0
set_option maxRecDepth 100000 in
theorem TV:Has Tryz.prog 108 wa:=by
 refine Has.ofE (fun _=>true) (fun _=>false) (fun _=>false) (l:=[(136,wb),(137,QD)]) ⟨TX,agi,trivial⟩ (fn:=Tryz.f108) Tryz.func108 rfl (by decide) (aZ rfl) ?_
 rintro⟨(s:ByteArray),(top:ByteArray)⟩ _ (hp:rO s top)
 show vc _ _ _ _ (entry [.str s,.str top] []) _
 obtain⟨h1,h2⟩:=hp
 have hb:=xH s
 have hc:=xH top
 have hT:((bW s).1.take (((some ((bW top).1.length:Int)).getD (bW s).1.length).toNat-(((none:Option Int).getD 0).toNat)))=(bW s).1.take (bW top).1.length:=rfl
 have hm:∀x∈(bW s).1.take (bW top).1.length,x.size≤1000000:=fun x hx=>ZB1 (hb.2 x (ZE6 hx)) h1
 refine⟨⟨⟨aa,aa⟩,?_⟩,fun x1 w2=>⟨⟨⟨aa,aa⟩,?_⟩,fun x3 w4=>⟨aa,fun w5=>?_,fun w6=>⟨aa,fun w7=>?_,fun w8=>⟨fun w9=>?_,fun dq=>⟨⟨?_,?_,?_⟩,⟨⟨aa,aa⟩,?_,fun kE dI=>?_⟩,fun r4 gI=>⟨⟨⟨aa,aa⟩,?_,fun kD kj=>?_⟩,fun x17 qX=>?_⟩⟩⟩⟩⟩⟩⟩
 all_goals first|refine aw ?_|refine ax ?_|exact ba|(dsimp only [wb,nz];omega)|(dsimp only [QD,B9];omega)|exact a8|(show ((bW s).1.take (bW top).1.length).length≤1000;rw [ZB8];omega)|exact hm _ dI|exact ZB1 (hc.2 _ kj) h2|skip
 ·have e:pD s top=false:=by unfold pD;rw [w5];rfl
  refine⟨[],[],_,_,_,rfl,az,(),aa,?_,?_,rfl⟩
  ·(show _=eX s top);unfold eX;first|(rw [e];rfl)|rfl
  ·rfl
 ·have e:pD s top=false:=by unfold pD;rw [w6,w7];rfl
  refine⟨[],[],_,_,_,rfl,az,(),aa,?_,?_,rfl⟩
  ·(show _=eX s top);unfold eX;first|(rw [e];rfl)|rfl
  ·rfl
 ·have e:pD s top=false:=by unfold pD;rw [w6,w8,w9];rfl
  refine⟨[],[],_,_,_,rfl,az,(),aa,?_,?_,rfl⟩
  ·(show _=eX s top);unfold eX;first|(rw [e];rfl)|rfl
  ·rfl
 ·have e:pD s top=decide (oX ((bW s).1.take (bW top).1.length)=oX (bW top).1):=by unfold pD;rw [w6,w8,dq];rfl
  refine⟨[],[],_,_,_,rfl,az,(),aa,?_,?_,rfl⟩
  ·(show _=eX s top);unfold eX;first|(rw [e];rfl)|rfl
  ·rfl
def lk (s:ByteArray):Prop:=s.size≤1000000∧1≤(bE s).length
def u6 (s:ByteArray):AV:=.s (.str (nth ab (bE s) ((bE s).length-1)))
def WL (s:ByteArray):List AV:=[]
def j7:Con where
 A:=[.s .str]
 B:=[]
 pre:=fun x b=>lk x
 α:=fun _ _=>Unit
 φ:=fun _ _ _=>True
 r:=fun x b _=>u6 x
 o:=fun x b _=>WL x
 nf:=0
set_option maxRecDepth 100000 in
theorem w0:Has Tryz.prog 101 j7:=by
 refine Has.ofE (fun _=>true) (fun _=>false) (fun _=>false) (l:=[(111,eS)]) ⟨nb,trivial⟩ (fn:=Tryz.f101) Tryz.func101 rfl (by decide) (aZ rfl) ?_
 rintro (s:ByteArray) _ (hp:lk s)
 show vc _ _ _ _ (entry [.str s] []) _
 obtain⟨h1,h2⟩:=hp
 have hnl:=qq (s:=s)
 refine⟨⟨⟨aa,aa⟩,?_⟩,fun x1 w2=>⟨⟨?_,?_⟩,⟨?_,?_⟩,?_⟩⟩
 all_goals first|refine aw ?_|refine ax ?_|exact ba|(dsimp only [eS,fC];omega)|exact a8|(unfold imax;omega)|skip
 refine⟨[],[],_,_,_,rfl,az,(),aa,?_,?_,rfl⟩
 ·(show _=u6 s);unfold u6;first|(exact congrArg (fun k:Nat=>AV.s (SV.str (nth ab (bE s) k))) (show ((bE s).length-1:Int).toNat=(bE s).length-1 by omega))|rfl
 ·rfl
def SQ (o:Opr):Bool:=decide (o.1=6)||decide (o.1=7)
def ahP (o:Opr):Bool:=decide (o.1=3)||decide (o.1=4)
def SR (tw a:Bool) (o:Opr):Bool:=
 bif !(iC o.1 1 7)||(!(gb o.2.1)||((tw&& !(gb o.2.2.1))||(!tw&&decide (o.2.2.1≠⟨#[]⟩)))) then false
 else bif (decide (o.1≠3)&&decide (o.2.2.2.2≠⟨#[]⟩))||decide ((o.2.2.2.2.size:Int)>24) then false
 else decide (o.2.2.2.1=0)||(a&&iC o.2.2.2.1 0 192)
def ZO (o:Opr):Bool:=SR (SQ o) (ahP o) o
def vr (o:Opr):Prop:=o.2.1.size≤1000000∧o.2.2.1.size≤1000000
def G7 (o:Opr):AV:=.s (.q (ZO o))
def afY (o:Opr):List AV:=[]
def zh:Con where
 A:=[.a [.int,.str,.str,.int,.str]]
 B:=[]
 pre:=fun x b=>vr x
 α:=fun _ _=>Unit
 φ:=fun _ _ _=>True
 r:=fun x b _=>G7 x
 o:=fun x b _=>afY x
 nf:=0
set_option maxRecDepth 100000 in
theorem XS:Has Tryz.prog 44 zh:=by
 refine Has.ofP 3 (fun _=>true) (fun _=>false) (fun _=>false) (l:=[(24,dE),(72,qJ)]) ⟨iA,I0,trivial⟩ (fn:=Tryz.f44) Tryz.func44 rfl (by decide) (aZ rfl) ?_
 rintro⟨(o1:Int),(o2:ByteArray),(o3:ByteArray),(o4:Int),(o5:ByteArray)⟩ _ (hp:vr (o1,o2,o3,o4,o5))
 show vcP _ _ _ _ 3 _ (entry [.a [.int o1,.str o2,.str o3,.int o4,.str o5]] [])
 obtain⟨(h1:o2.size≤1000000),(h2:o3.size≤1000000)⟩:=hp
 refine zn (l:=[(24,dE),(72,qJ)]) (ex:=fun _=>true) (wr:=fun _=>false) (pt:=fun _=>false) ⟨iA,I0,aa⟩ (fun y:Bool×Bool=>[(.s 1,.s (.bp 1001 0)),(.s 3,.s (.q y.1)),(.s 4,.s (.q y.2)),(.b 1001,.a [.int o1,.str o2,.str o3,.int o4,.str o5])]) (fun y=>y.1=SQ (o1,o2,o3,o4,o5)∧y.2=ahP (o1,o2,o3,o4,o5)) (xk 3 (KK Tryz.f44)) ?_ (fun tail=>?_)
 ·rintro⟨tw,at'⟩ ⟨(h3:tw=SQ (o1,o2,o3,o4,o5)),(h4:at'=ahP (o1,o2,o3,o4,o5))⟩
  have e:ZO (o1,o2,o3,o4,o5)=SR tw at' (o1,o2,o3,o4,o5):=by rw [h3,h4];rfl
  clear h3 h4
  show vc _ _ _ _ (D6.ap [(.s 1,.s (.bp 1001 0)),(.s 3,.s (.q tw)),(.s 4,.s (.q at')),(.b 1001,.a [.int o1,.str o2,.str o3,.int o4,.str o5])]) _
  refine⟨⟨⟨aa,aa,aa,aa⟩,aa⟩,fun x1 w2=>⟨aa,fun w3=>?_,fun w4=>⟨⟨⟨aa,aa⟩,?_⟩,fun x5 w6=>⟨aa,fun w7=>?_,fun w8=>⟨aa,fun w9=>⟨⟨⟨aa,aa⟩,?_⟩,fun x10 kk=>⟨aa,fun dI=>?_,fun iJ=>⟨aa,fun gI=>⟨fun pe=>?_,fun kj=>⟨aa,fun wC=>⟨aa,fun qX=>?_,fun oB=>⟨fun uw=>?_,fun zm=>⟨aa,fun zl=>?_,fun xD=>⟨aa,fun rG=>⟨⟨⟨aa,aa,aa,aa⟩,aa⟩,fun x25 E1=>?_⟩,fun w27=>?_⟩⟩⟩⟩,fun w28=>⟨fun w29=>?_,fun w30=>⟨aa,fun w31=>?_,fun w32=>⟨aa,fun w33=>⟨⟨⟨aa,aa,aa,aa⟩,aa⟩,fun x34 w35=>?_⟩,fun w36=>?_⟩⟩⟩⟩⟩,fun w37=>⟨aa,fun w38=>⟨aa,fun w39=>?_,fun w40=>⟨fun w41=>?_,fun w42=>⟨aa,fun w43=>?_,fun w44=>⟨aa,fun w45=>⟨⟨⟨aa,aa,aa,aa⟩,aa⟩,fun x46 w47=>?_⟩,fun w48=>?_⟩⟩⟩⟩,fun w49=>⟨fun w50=>?_,fun w51=>⟨aa,fun w52=>?_,fun w53=>⟨aa,fun w54=>⟨⟨⟨aa,aa,aa,aa⟩,aa⟩,fun x55 w56=>?_⟩,fun w57=>?_⟩⟩⟩⟩⟩⟩⟩,fun w58=>⟨aa,fun w59=>⟨fun w60=>?_,fun w61=>⟨aa,fun w62=>⟨aa,fun w63=>?_,fun w64=>⟨fun w65=>?_,fun w66=>⟨aa,fun w67=>?_,fun w68=>⟨aa,fun w69=>⟨⟨⟨aa,aa,aa,aa⟩,aa⟩,fun x70 w71=>?_⟩,fun w72=>?_⟩⟩⟩⟩,fun w73=>⟨fun w74=>?_,fun w75=>⟨aa,fun w76=>?_,fun w77=>⟨aa,fun w78=>⟨⟨⟨aa,aa,aa,aa⟩,aa⟩,fun x79 w80=>?_⟩,fun w81=>?_⟩⟩⟩⟩⟩,fun w82=>⟨aa,fun w83=>⟨aa,fun w84=>?_,fun w85=>⟨fun w86=>?_,fun w87=>⟨aa,fun w88=>?_,fun w89=>⟨aa,fun w90=>⟨⟨⟨aa,aa,aa,aa⟩,aa⟩,fun x91 w92=>?_⟩,fun w93=>?_⟩⟩⟩⟩,fun w94=>⟨fun w95=>?_,fun w96=>⟨aa,fun w97=>?_,fun w98=>⟨aa,fun w99=>⟨⟨⟨aa,aa,aa,aa⟩,aa⟩,fun alT akM=>?_⟩,fun amo=>?_⟩⟩⟩⟩⟩⟩⟩⟩⟩⟩
  all_goals first|refine aw ?_|refine ax ?_|exact ba|(dsimp only [dE,gX];omega)|(dsimp only [qJ,mU];omega)|exact a8|exact h1|exact h2|skip
  all_goals
   refine⟨[],[],_,_,_,rfl,az,(),0,aa,?_,?_,rfl⟩
   ·(show _=G7 (o1,o2,o3,o4,o5));unfold G7;first|((rw [e];simp only [SR, *];rfl))|((rw [e];simp [SR, *]<;>rfl))|((exfalso;clear e;simp_all))|rfl
   ·rfl
 ·refine⟨aa,fun w1=>⟨aa,fun w2=>?_,fun w3=>?_⟩,fun w4=>⟨aa,fun w5=>?_,fun w6=>?_⟩⟩
  all_goals first|refine aw ?_|refine ax ?_|exact ba|(dsimp only [dE,gX];omega)|(dsimp only [qJ,mU];omega)|exact a8|skip
  ·refine joinTail tail ((true,decide (o1=4))) [] ((⟨by show true=(decide (o1=6)||decide (o1=7));rw [w1];rfl,by show decide (o1=4)=(decide (o1=3)||decide (o1=4));rw [w3];rfl⟩)) ?_
   repeat' (first|exact trivial|rfl|exact rfl|exact fP ZA0.symm|apply And.intro)
  ·refine joinTail tail ((decide (o1=7),true)) [] ((⟨by show decide (o1=7)=(decide (o1=6)||decide (o1=7));rw [w4];rfl,by show true=(decide (o1=3)||decide (o1=4));rw [w5];rfl⟩)) ?_
   repeat' (first|exact trivial|rfl|exact rfl|exact fP ZA0.symm|apply And.intro)
  ·refine joinTail tail ((decide (o1=7),decide (o1=4))) [] ((⟨by show decide (o1=7)=(decide (o1=6)||decide (o1=7));rw [w4];rfl,by show decide (o1=4)=(decide (o1=3)||decide (o1=4));rw [w6];rfl⟩)) ?_
   repeat' (first|exact trivial|rfl|exact rfl|exact fP ZA0.symm|apply And.intro)
end GL
end Go.Proofs.YtbfgjadbfjkcdaaGreatDoor
