/- A drawn law returns true for every code (its row lists package variables, tied by the card): part 17. -/
import Derived.Test.YtkgpljpmdkflmaaGreatDoorPap
set_option maxHeartbeats 20000000
set_option maxRecDepth 100000
set_option linter.all false
namespace Go.Proofs.YtkgpljpmdkflmaaGreatDoor
namespace GL
theorem fP {b sz n m:Nat}(h:n=m):some (AV.s (.xs b sz 0 n))=some (AV.s (.xs b sz 0 m)):=by rw [h]
theorem oR {b sz:Nat}{α:Type}{l:List α}{x:α}:some (AV.s (.xs b sz 0 (l.length+1)))=some (AV.s (.xs b sz 0 (l++[x]).length)):=by rw [ZA0];rfl
theorem bW {P:Prop}(h:P:=by repeat' (first|exact trivial|rfl|exact rfl|exact fP List.length_append.symm|exact oR|apply And.intro)):P:=h
theorem dN {P:Prop}(h:P:=by repeat' (first|exact trivial|rfl|exact rfl|exact fP (Nat.zero_add _)|apply And.intro)):P:=h
theorem bX {ek:EK}{l:List (EK.Ty ek)}{i:Nat}(h:i<l.length):l.drop i=nth ek l i::l.drop (i+1):=by
 rw [List.drop_eq_getElem_cons h]
 congr 1
 have:=oF h
 rw [ZB1 h] at this
 exact ZG5 this
theorem ajD {α:Type}{l:List α}{i:Nat}(h:¬(i:Int)<(l.length:Int)):l.drop i=[]:=ZB3 (by omega)
def DA (s:ByteArray) (k:Nat):Bool:=decide ((k:Int)<s.size)&&(decide ((k:Int)<9)&&(decide (bM s k≥48)&&decide (bM s k≤57)))
def iO (s:ByteArray):Nat→Int
 |0=>0
 |k+1=>10*iO s k+(bM s k-48)
def sD:Nat→ByteArray→Nat→Nat
 |0,_,k=>k
 |f+1,s,k=>bif DA s k then sD f s (k+1) else k
def cX (s:ByteArray):Nat:=sD 9 s 0
def CN (s:ByteArray):Int×Int:=bif decide ((cX s:Int)>1)&&decide (bM s 0=48) then (0,1) else (iO s (cX s),cX s)
theorem SZ {s:ByteArray}{k:Nat}(hk:k≤9) (hd:DA s k=false) (hl:sD (9-k) s k=cX s):cX s=k:=by
 rw [←hl]
 by_cases h:k=9
 ·subst h;rfl
 ·rw [show 9-k=(8-k)+1 by omega,sD,hd];rfl
theorem SC {s:ByteArray}{k:Nat}(h1:iO s k<(10:Int) ^ k) (hk:k≤8):iO s k≤99999999:=by
 have:(10:Int) ^ k≤10 ^ 8:=by exact_mod_cast Nat.pow_le_pow_right (by omega) hk
 omega
theorem aiZ {s:ByteArray}{k:Nat}(e:cX s=k) (h1:decide ((k:Int)>1)=true) (h2:decide (bM s 0=48)=true):CN s=(0,1):=by
 unfold CN;rw [e,h1,h2];rfl
theorem agG {s:ByteArray}{k:Nat}(e:cX s=k) (h1:decide ((k:Int)>1)=false):CN s=(iO s k,(k:Int)):=by
 unfold CN;rw [e,h1];rfl
theorem agF {s:ByteArray}{k:Nat}(e:cX s=k) (h2:decide (bM s 0=48)=false):CN s=(iO s k,(k:Int)):=by
 unfold CN;rw [e,h2,ZD7];rfl
theorem agX {s:ByteArray}{k:Nat}(h:decide ((k:Int)<s.size)=false):DA s k=false:=by unfold DA;rw [h];rfl
theorem ajI {s:ByteArray}{k:Nat}(h:decide ((k:Int)<9)=false):DA s k=false:=by unfold DA;rw [h,Bool.false_and,ZD7]
theorem ajH {s:ByteArray}{k:Nat}(h:decide (bM s ((k:Int).toNat)≥48)=false):DA s k=false:=by
 have h:decide (bM s k≥48)=false:=h
 unfold DA;rw [h,Bool.false_and,ZD7,ZD7]
theorem ajG {s:ByteArray}{k:Nat}(h:decide (bM s ((k:Int).toNat)≤57)=false):DA s k=false:=by
 have h:decide (bM s k≤57)=false:=h
 unfold DA;rw [h,ZD7,ZD7,ZD7]
def ld (s:ByteArray):Prop:=(s.size:Int)≤1000000000000
def BG (s:ByteArray):AV:=.t [.s (.int (CN s).1),.s (.int (CN s).2)]
def ac2 (s:ByteArray):List AV:=[]
def ub:ct where
 A:=[.s .str]
 B:=[]
 pre:=fun x b=>ld x
 r:=fun x b _=>BG x
 o:=fun x b _=>ac2 x
theorem O8:Has Tryz.prog 207 ub:=by
 refine Has.fu zT zF zF (l:=[]) trivial Tryz.func207 ?_
 rintro (s:ByteArray) _ (hp:ld s)
 show vc _ _ _ _ (entry [.str s] []) _
 unfold ld at hp
 refine cO (l:=[]) (ex:=zT) (wr:=zF) (pt:=zF) trivial [.s 0] (fun k:Nat=>[(.s 4,.int (iO s k)),(.s 5,.int k)]) (fun k=>k≤9∧k≤s.size∧(0≤iO s k∧iO s k<(10:Int) ^ k)∧sD (9-k) s k=cX s) (fun k=>9-k) 0 [] ⟨by omega,ZA7 _,⟨ZC1 _,by show (0:Int)<1;omega⟩,rfl⟩ ⟨⟨rfl,rfl,trivial⟩,⟨rfl,trivial⟩⟩ ?_
 rintro k ⟨hk,hks,⟨hn0,hn1⟩,hl⟩
 have hb:=xi s k
 have hsm:=SC hn1
 refine⟨aa,fun w1=>⟨aa,fun w2=>⟨⟨?_,?_⟩,aa,fun w3=>⟨⟨?_,?_⟩,fun w4=>⟨⟨?_,?_⟩,⟨?_,?_⟩,⟨?_,?_⟩,⟨?_,?_⟩,⟨?_,?_⟩,⟨?_,?_⟩,?_⟩,fun w5=>⟨aa,fun w6=>⟨⟨?_,?_⟩,fun w7=>?_,fun w8=>?_⟩,fun w9=>?_⟩⟩,fun dy=>⟨aa,fun kC=>⟨⟨?_,?_⟩,fun dK=>?_,fun iV=>?_⟩,fun gP=>?_⟩⟩,fun qN=>⟨aa,fun ki=>⟨⟨?_,?_⟩,fun xk=>?_,fun rV=>?_⟩,fun oN=>?_⟩⟩,fun uL=>⟨aa,fun A4=>⟨⟨?_,?_⟩,fun A3=>?_,fun xM=>?_⟩,fun rU=>?_⟩⟩
 all_goals first|refine aw ?_|refine ax ?_|exact a8|exact a7|skip
 ·have h4:DA s k=true:=by unfold DA;rw [w1,w2,show decide (bM s k≥48)=true from w3,show decide (bM s k≤57)=true from w4];rfl
  have h2:=aJ w2
  have h5:bM s k≥48:=aJ w3
  have h6:bM s k≤57:=aJ w4
  refine⟨(k+1),[],?_,?_,?_⟩
  rotate_right
  ·exact bW
  ·refine⟨by omega,by have:=aJ w1;omega,⟨?_,?_⟩,?_⟩
   ·show 0≤10*iO s k+(bM s k-48);omega
   ·show 10*iO s k+(bM s k-48)<_;rw [Int.pow_succ];omega
   ·rw [←hl,show 9-k=(9-(k+1))+1 by omega,sD,h4];rfl
  ·show 9-(k+1)<9-k;omega
 all_goals
  have e:cX s=k:=SZ hk (by first|exact agX (by assumption)|exact ajI (by assumption)|exact ajH (by assumption)|exact ajG (by assumption)) hl
  refine⟨[],[],_,_,_,rfl,az,(),aa,?_,?_,rfl⟩
  ·(show _=BG s);unfold BG;first|(rw [agG e (by assumption)];rfl)|(rw [aiZ e (by assumption) (by assumption)];rfl)|(rw [agF e (by assumption)];rfl)|rfl
  ·rfl
def aD (s:ByteArray):Int×Bool:=bif decide ((CN s).2=0)||decide ((CN s).2≠(s.size:Int)) then (0,false) else ((CN s).1,true)
def gJ (s:ByteArray):Prop:=(s.size:Int)≤1000000000000
def yc (s:ByteArray):AV:=.t [.s (.int (aD s).1),.s (.q (aD s).2)]
def abo (s:ByteArray):List AV:=[]
def jH:ct where
 A:=[.s .str]
 B:=[]
 pre:=fun x b=>gJ x
 r:=fun x b _=>yc x
 o:=fun x b _=>abo x
theorem vD:Has Tryz.prog 171 jH:=by
 refine Has.fu zT zF zF (l:=[(207,ub)]) ⟨O8,aa⟩ Tryz.func171 ?_
 rintro (s:ByteArray) _ (hp:gJ s)
 show vc _ _ _ _ (entry [.str s] []) _
 unfold gJ at hp
 refine⟨⟨⟨aa,aa⟩,?_⟩,fun x1 w2=>⟨aa,fun w3=>?_,fun w4=>⟨fun w5=>?_,fun w6=>?_⟩⟩⟩
 all_goals first|refine aw ?_|refine ax ?_|exact a8|(dsimp only [ub,ld];omega)|exact a7|skip
 all_goals
  refine⟨[],[],_,_,_,rfl,az,(),aa,?_,?_,rfl⟩
  ·(show _=yc s);unfold yc;first|((simp only [aD, *];rfl))|rfl
  ·rfl
def jb (s:ByteArray) (c:Int):Nat→List ByteArray×Nat
 |0=>([],0)
 |k+1=>bif decide (bM s k=c) then ((jb s c k).1++[s.extract (jb s c k).2 k],k+1) else jb s c k
def bn (s:ByteArray) (c:Int):List ByteArray:=(jb s c s.size).1++[s.extract (jb s c s.size).2 s.size]
theorem JP (s:ByteArray) (c:Int):∀k,(jb s c k).1.length≤k∧(jb s c k).2≤k
 |0=>⟨ZB5 _,ZB5 _⟩
 |k+1=>by
  have:=JP s c k
  unfold jb
  cases decide (bM s k=c) with
  |true=>simp only [cond_true,ZA0,ZA1,ZA4];omega
  |false=>simp only [cond_false];omega
theorem tY (s:ByteArray) (c:Int):1≤(bn s c).length∧(bn s c).length≤s.size+1:=by
 have:=JP s c s.size
 simp only [bn,ZA0,ZA1,ZA4]
 omega
theorem JO {s:ByteArray}{c:Int}:∀{k:Nat},∀x∈(jb s c k).1,x.size≤s.size
 |0,x,h=>by cases h
 |k+1,x,h=>by
  unfold jb at h
  cases hd:decide (bM s k=c) with
  |true=>
   rw [hd,cond_true,ZB4] at h
   rcases h with h |h
   ·exact JO x h
   ·simp only [ZB8,ZF6,or_false] at h
    subst h
    rw [ZC5];omega
  |false=>rw [hd,cond_false] at h;exact JO x h
theorem oZ {s:ByteArray}{c:Int}:∀x∈bn s c,x.size≤s.size:=by
 intro x h
 rw [bn,ZB4] at h
 rcases h with h |h
 ·exact JO x h
 ·simp only [ZB8,ZF6,or_false] at h
  subst h
  rw [ZC5];omega
def iR (s:ByteArray) (c:Int):Prop:=s.size≤1000000
def BF (s:ByteArray) (c:Int):AV:=.s (.xs 0 1 0 (bn s c).length)
def HH (s:ByteArray) (c:Int):List AV:=[.rs ab (bn s c)]
def iD:ct where
 A:=[.s .str,.s .byte]
 B:=[]
 pre:=fun x b=>iR (x.1) (x.2)
 r:=fun x b _=>BF (x.1) (x.2)
 o:=fun x b _=>HH (x.1) (x.2)
 nf:=1
theorem tI:Has Tryz.prog 196 iD:=by
 refine Has.fu zT zF zF (l:=[]) trivial Tryz.func196 ?_
 rintro⟨(s:ByteArray),(c:Int)⟩ _ (hp:iR s c)
 show vc _ _ _ _ (entry [.str s,.byte c] []) _
 unfold iR at hp
 refine⟨aa,?_⟩
 all_goals first|refine aw ?_|refine ax ?_|exact a8|exact a7|skip
 refine cO (l:=[]) (ex:=zT) (wr:=zF) (pt:=zF) trivial [.s 0,.s 1] (fun y:Nat×List ByteArray×Nat=>[(.s 5,.s (.xs 1008 1 0 y.2.1.length)),(.s 6,.int y.2.2),(.s 7,.int y.1),(.b 1008,.rs ab y.2.1)]) (fun y=>y.1≤s.size∧jb s c y.1=y.2) (fun y=>s.size-y.1) (0,[],0) [] ⟨ZA7 _,rfl⟩ dN ?_
 rintro⟨k,out,fr⟩ ⟨(hk:k≤s.size),(he:jb s c k=(out,fr))⟩
 have hbd:=JP s c k
 rw [he] at hbd
 obtain⟨(hb1:out.length≤k),(hb2:fr≤k)⟩:=hbd
 refine⟨fun w1=>⟨⟨?_,?_⟩,fun w2=>⟨⟨?_,?_,?_⟩,aa,⟨⟨?_,?_⟩,?_,?_⟩,⟨?_,?_⟩,⟨?_,?_⟩,?_⟩,fun w3=>⟨⟨?_,?_⟩,?_⟩⟩,fun w4=>⟨⟨?_,?_,?_⟩,aa,⟨⟨?_,?_⟩,?_,?_⟩,?_⟩⟩
 all_goals first|refine aw ?_|refine ax ?_|exact a8|exact a7|skip
 ·have e:jb s c (k+1)=(out++[s.extract fr k],k+1):=by
   rw [jb,show decide (bM s k=c)=true by assumption,he];rfl
  refine⟨(k+1,out++[s.extract fr k],k+1),[(1008,1026)],?_,?_,?_⟩
  rotate_right
  ·exact bW
  ·exact⟨by have:=aJ (p:=(k:Int)<s.size) (by assumption);omega,e⟩
  ·show s.size-(k+1)<s.size-k
   have:=aJ (p:=(k:Int)<s.size) (by assumption);omega
 ·have e:jb s c (k+1)=(out,fr):=by
   rw [jb,show decide (bM s k=c)=false by assumption,he];rfl
  refine⟨(k+1,out,fr),[],?_,?_,?_⟩
  rotate_right
  ·exact bW
  ·exact⟨by have:=aJ (p:=(k:Int)<s.size) (by assumption);omega,e⟩
  ·show s.size-(k+1)<s.size-k
   have:=aJ (p:=(k:Int)<s.size) (by assumption);omega
 ·have hk':k=s.size:=by have:=aA (p:=(k:Int)<s.size) (by assumption);omega
  subst hk'
  have e:bn s c=out++[s.extract fr s.size]:=by rw [bn,he]
  refine⟨[1034],[],_,_,_,rfl,az,(),aa,?_,?_,rfl⟩
  ·(show _=BF s c);unfold BF;first|(rw [e,ZA0];rfl)|(rw [e];rfl)|rfl
  ·(show _=HH s c);unfold HH;first|(rw [e,ZA0];rfl)|(rw [e];rfl)|rfl
end GL
namespace GL
def lk:List ByteArray→List Int→Option (List Int)
 |[],acc=>some acc
 |t::l,acc=>bif (aD t).2 then lk l (acc++[(aD t).1]) else none
def lK (n:List Int):Pt:=(nth ag n 0,nth ag n 1,nth ag n 2,nth ag n 3,nth ag n 4)
def pW (n:List Int):Pt×Bool:=bif !(aZ (lK n))||au (lK n) then (bN,false) else (lK n,true)
def qZ (w:List ByteArray):Pt×Bool:=
 match lk w [] with
 |none=>(bN,false)
 |some n=>pW n
def bQ (s:ByteArray):Pt×Bool:=
 bif decide (s=⟨#[45]⟩) then (bN,true) else
 bif decide (((bn s 46).length:Int)≠5) then (bN,false) else qZ (bn s 46)
theorem wG {s:ByteArray}(h:decide (s=⟨#[45]⟩)=true):bQ s=(bN,true):=by unfold bQ;rw [h];rfl
theorem B0 {s:ByteArray}(h:decide (s=⟨#[45]⟩)=false) (h2:decide (((bn s 46).length:Int)≠5)=true):bQ s=(bN,false):=by unfold bQ;rw [h,h2];rfl
theorem sd {s:ByteArray}(h:decide (s=⟨#[45]⟩)=false) (h2:decide (((bn s 46).length:Int)≠5)=false):bQ s=qZ (bn s 46):=by unfold bQ;rw [h,h2];rfl
theorem BZ {w:List ByteArray}(h:lk w []=none):qZ w=(bN,false):=by unfold qZ;rw [h]
theorem BY {w:List ByteArray}{n:List Int}(h:lk w []=some n):qZ w=pW n:=by unfold qZ;rw [h]
theorem RN {n:List Int}(h:(!(aZ (lK n)))=true):pW n=(bN,false):=by unfold pW;rw [h];rfl
theorem RM {n:List Int}(h:au (lK n)=true):pW n=(bN,false):=by unfold pW;rw [h,ZC4];rfl
theorem G5 {n:List Int}(h:(!(aZ (lK n)))=false) (h2:au (lK n)=false):pW n=(lK n,true):=by unfold pW;rw [h,h2];rfl
def mQ (s:ByteArray):Prop:=s.size≤1000000
def eN (s:ByteArray):AV:=.t [ptA (bQ s).1,.s (.q (bQ s).2)]
def abm (s:ByteArray):List AV:=[]
def qF:ct where
 A:=[.s .str]
 B:=[]
 pre:=fun x b=>mQ x
 r:=fun x b _=>eN x
 o:=fun x b _=>abm x
theorem IM:Has Tryz.prog 172 qF:=by
 refine Has.fu zT zF zF (l:=[(171,jH),(196,iD),(115,cY),(83,bl)]) ⟨vD,tI,iA,cz,aa⟩ Tryz.func172 ?_
 rintro (s:ByteArray) _ (hp:mQ s)
 show vc _ _ _ _ (entry [.str s] []) _
 unfold mQ at hp
 have TM:=tY s 46
 refine⟨fun w1=>?_,fun w2=>⟨⟨⟨aa,aa,aa⟩,?_⟩,fun x3 w4=>⟨fun w5=>?_,fun w6=>⟨aa,?_⟩⟩⟩⟩
 all_goals first|refine aw ?_|refine ax ?_|exact a8|(dsimp only [jH,gJ,iD,iR,cY,ee];omega)|exact a7|skip
 ·refine⟨[],[],_,_,_,rfl,az,(),aa,?_,?_,rfl⟩
  ·(show _=eN s);unfold eN;first|(rw [wG (by assumption)];rfl)|rfl
  ·rfl
 ·refine⟨[],[],_,_,_,rfl,az,(),aa,?_,?_,rfl⟩
  ·(show _=eN s);unfold eN;first|(rw [B0 (by assumption) (by assumption)];rfl)|rfl
  ·rfl
 ·have h5:(bn s 46).length=5:=by have:=aA (p:=((bn s 46).length:Int)≠5) (by assumption);omega
  have hM:=sd (s:=s) (by assumption) (by assumption)
  refine cO (l:=[(171,jH),(196,iD),(115,cY),(83,bl)]) (ex:=zT) (wr:=zF) (pt:=zF) ⟨vD,tI,iA,cz,aa⟩ [.s 0,.s 2,.s 4,.b 1002,.b 150000] (fun y:Nat×List Int=>[(.s 5,.s (.xs 1019 1 0 y.2.length)),(.s 6,.int y.1),(.b 1019,.rs ag y.2)]) (fun y=>y.1≤5∧y.2.length=y.1∧lk ((bn s 46).drop y.1) y.2=lk (bn s 46) []) (fun y=>5-y.1) (0,[]) [] ⟨ZA7 _,rfl,rfl⟩ dN ?_
  rintro⟨i,n⟩ ⟨(hi:i≤5),(hl:n.length=i),(hr:lk ((bn s 46).drop i) n=lk (bn s 46) [])⟩
  have dj:i<5→(nth ab (bn s 46) i).size≤1000000:=fun h=>ZB0 (oZ (s:=s) (c:=46) _ (bS (ek:=ab) (by omega))) hp
  have cP:i<5→(bn s 46).drop i=nth ab (bn s 46) i::(bn s 46).drop (i+1):=fun h=>bX (ek:=ab) (by omega)
  refine⟨fun w1=>⟨⟨?_,?_⟩,?_,⟨⟨aa,aa⟩,?_⟩,fun x2 w3=>⟨fun w4=>?_,fun w5=>⟨aa,⟨⟨?_,?_⟩,?_,?_⟩,⟨?_,?_⟩,?_⟩⟩⟩,fun w6=>⟨Sq5,Sq39,rfl,Sq39,Sq40,rfl,⟨?_,?_⟩,[.s 40,.b 1019],Sq41,rfl,?_,Sq5,Sq42,rfl,Sq42,Sq43,rfl,⟨?_,?_⟩,[.s 43,.b 1019],Sq44,rfl,?_,Sq5,Sq45,rfl,Sq45,Sq46,rfl,⟨?_,?_⟩,[.s 46,.b 1019],Sq47,rfl,?_,Sq5,Sq48,rfl,Sq48,Sq49,rfl,⟨?_,?_⟩,[.s 49,.b 1019],Sq50,rfl,?_,Sq5,Sq51,rfl,Sq51,Sq52,rfl,⟨?_,?_⟩,[.s 52,.b 1019],Sq53,rfl,?_,[.s 41,.s 44,.s 47,.s 50,.s 53],Sq54,rfl,[.b 1009],[.s 9,.b 1009],rfl,[.s 9,.s 54,.b 1009],[.b 1009],rfl,⟨⟨⟨aa,aa,aa,aa,aa,aa⟩,aa⟩,aa⟩,fun x7 w8=>⟨aa,fun w9=>?_,fun dy=>⟨⟨⟨⟨aa,aa,aa,aa,aa,aa⟩,aa⟩,aa⟩,fun kB dK=>⟨fun iV=>?_,fun gP=>?_⟩⟩⟩⟩⟩
  all_goals first|refine aw ?_|refine ax ?_|exact a8|(dsimp only [jH,gJ,iD,iR,cY,ee];omega)|exact a7|(have:=dj (by have:=aJ (p:=(i:Int)<5) (by assumption);omega);show ((nth ab (bn s 46) i).size:Int)≤1000000000000;omega)|skip
  ·have bV:i<5:=by have:=aJ (p:=(i:Int)<5) (by assumption);omega
   have e:lk (bn s 46) []=none:=by rw [←hr,cP bV,lk,show (aD (nth ab (bn s 46) i)).2=false from xq (by assumption)];rfl
   refine⟨[],[],_,_,_,rfl,az,(),aa,?_,?_,rfl⟩
   ·(show _=eN s);unfold eN;first|(rw [hM,BZ e];rfl)|rfl
   ·rfl
  ·have bV:i<5:=by have:=aJ (p:=(i:Int)<5) (by assumption);omega
   refine⟨(i+1,n++[(aD (nth ab (bn s 46) i)).1]),[(1019,1038)],?_,?_,?_⟩
   rotate_right
   ·exact bW
   ·refine⟨bV,by show List.length (_++_)=_;rw [ZA0,hl];rfl,?_⟩
    rw [←hr,cP bV,lk,show (aD (nth ab (bn s 46) i)).2=true from cM (by assumption)];rfl
   ·show 5-(i+1)<5-i;omega
  all_goals
   have hi5:i=5:=by have:=aA (p:=(i:Int)<5) (by assumption);omega
   have e:lk (bn s 46) []=some n:=by rw [←hr,ZB3 (by omega)];rfl
   rw [BY e] at hM
  ·rw [RN (by assumption)] at hM
   refine⟨[],[],_,_,_,rfl,az,(),aa,?_,?_,rfl⟩
   ·(show _=eN s);unfold eN;first|(rw [hM];rfl)|rfl
   ·rfl
  ·rw [RM (by assumption)] at hM
   refine⟨[],[],_,_,_,rfl,az,(),aa,?_,?_,rfl⟩
   ·(show _=eN s);unfold eN;first|(rw [hM];rfl)|rfl
   ·rfl
  ·rw [G5 (by assumption) (by assumption)] at hM
   refine⟨[],[],_,_,_,rfl,az,(),aa,?_,?_,rfl⟩
   ·(show _=eN s);unfold eN;first|(rw [hM];rfl)|rfl
   ·rfl
end GL
namespace GL
def oo:List ByteArray→List Pt→Bool→Option (List Pt×Bool)
 |[],out,sm=>some (out,sm)
 |t::l,out,sm=>bif (bQ t).2 then oo l (out++[(bQ t).1]) (sm|| !(au (bQ t).1)) else none
def mb (o:List Pt) (sm:Bool):List Pt×Bool:=bif decide ((o.length:Int)≠4)|| !sm then ([],false) else (o,true)
def bm (s:ByteArray):List Pt×Bool:=
 match oo (bn s 44) [] false with
 |none=>([],false)
 |some (o,sm)=>mb o sm
theorem xd {s:ByteArray}(h:oo (bn s 44) [] false=none):bm s=([],false):=by unfold bm;rw [h]
theorem jZ {s:ByteArray}{o:List Pt}{sm:Bool}(h:oo (bn s 44) [] false=some (o,sm)):bm s=mb o sm:=by unfold bm;rw [h]
theorem z1 {o:List Pt}{sm:Bool}(h:decide ((o.length:Int)≠4)=true):mb o sm=([],false):=by unfold mb;rw [h];rfl
theorem zZ {o:List Pt}{sm:Bool}(h:(!sm)=true):mb o sm=([],false):=by unfold mb;rw [h,ZC4];rfl
theorem vP {o:List Pt}{sm:Bool}(h:decide ((o.length:Int)≠4)=false) (h2:(!sm)=false):mb o sm=(o,true):=by unfold mb;rw [h,h2];rfl
theorem aez {t:ByteArray}{l:List ByteArray}{out:List Pt}{sm:Bool}(h:(!(bQ t).2)=false):oo (t::l) out sm=oo l (out++[(bQ t).1]) (sm|| !(au (bQ t).1)):=by rw [oo,cM h];rfl
theorem ahS {t:ByteArray}{l:List ByteArray}{out:List Pt}{sm:Bool}(h:(!(bQ t).2)=true):oo (t::l) out sm=none:=by rw [oo,xq h];rfl
def qi (s:ByteArray):Prop:=s.size≤1000000
def iq (s:ByteArray):AV:=.t [.s (.xs 0 5 0 (bm s).1.length),.s (.q (bm s).2)]
def jU (s:ByteArray):List AV:=[.rs ae (bm s).1]
def v8:ct where
 A:=[.s .str]
 B:=[]
 pre:=fun x b=>qi x
 r:=fun x b _=>iq x
 o:=fun x b _=>jU x
 nf:=1
theorem TE:Has Tryz.prog 157 v8:=by
 refine Has.fu zT zF zF (l:=[(196,iD),(172,qF),(83,bl)]) ⟨tI,IM,cz,aa⟩ Tryz.func157 ?_
 rintro (s:ByteArray) _ (hp:qi s)
 show vc _ _ _ _ (entry [.str s] []) _
 unfold qi at hp
 have TM:=tY s 44
 refine⟨⟨⟨aa,aa,aa⟩,?_⟩,fun x1 w2=>⟨aa,?_⟩⟩
 all_goals first|refine aw ?_|refine ax ?_|exact a8|(dsimp only [iD,iR,qF,mQ];omega)|exact a7|skip
 refine cO (l:=[(196,iD),(172,qF),(83,bl)]) (ex:=zT) (wr:=zF) (pt:=zF) ⟨tI,IM,cz,aa⟩ [.s 0,.s 4,.b 120000] (fun y:Nat×List Pt×Bool=>[(.s 5,.s (.xs 1012 5 0 y.2.1.length)),(.s 6,.s (.q y.2.2)),(.s 7,.int y.1),(.b 1012,.rs ae y.2.1)]) (fun y=>y.1≤(bn s 44).length∧y.2.1.length=y.1∧oo ((bn s 44).drop y.1) y.2.1 y.2.2=oo (bn s 44) [] false) (fun y=>(bn s 44).length-y.1) (0,[],false) [] ⟨ZA7 _,rfl,rfl⟩ dN ?_
 rintro⟨i,out,sm⟩ ⟨(hi:i≤(bn s 44).length),(hl:out.length=i),(hr:oo ((bn s 44).drop i) out sm=oo (bn s 44) [] false)⟩
 have dj:i<(bn s 44).length→(nth ab (bn s 44) i).size≤1000000:=fun h=>ZB0 (oZ (s:=s) (c:=44) _ (bS (ek:=ab) h)) hp
 have cP:i<(bn s 44).length→(bn s 44).drop i=nth ab (bn s 44) i::(bn s 44).drop (i+1):=fun h=>bX (ek:=ab) h
 have cq:decide ((i:Int)<((bn s 44).length:Int))=true→i<(bn s 44).length:=fun h=>by have:=aJ h;omega
 have oe:decide ((i:Int)<((bn s 44).length:Int))=false→oo (bn s 44) [] false=some (out,sm):=fun h=>by
  have:=aA h
  rw [←hr,ZB3 (by omega)];rfl
 refine⟨fun w1=>⟨⟨?_,?_⟩,?_,⟨⟨aa,aa⟩,?_⟩,fun x2 w3=>⟨fun w4=>⟨aa,?_⟩,fun w5=>⟨aa,fun w6=>⟨aa,⟨⟨?_,?_⟩,?_,?_⟩,⟨?_,?_⟩,?_⟩,fun w7=>⟨⟨⟨⟨aa,aa,aa,aa,aa,aa⟩,aa⟩,aa⟩,fun x8 w9=>⟨aa,⟨⟨?_,?_⟩,?_,?_⟩,⟨?_,?_⟩,?_⟩⟩⟩⟩⟩,fun dy=>⟨aa,fun kC=>⟨aa,?_⟩,fun dK=>⟨fun iV=>⟨aa,?_⟩,fun gP=>?_⟩⟩⟩
 all_goals first|refine aw ?_|refine ax ?_|exact a8|(dsimp only [iD,iR,qF,mQ];omega)|exact a7|(exact dj (cq (by assumption)))|skip
 ·have e:oo (bn s 44) [] false=none:=by rw [←hr,cP (cq (by assumption)),ahS (by assumption)]
  refine⟨[1029],[],_,_,_,rfl,az,(),aa,?_,?_,rfl⟩
  ·(show _=iq s);unfold iq;first|(rw [xd e];rfl)|rfl
  ·(show _=jU s);unfold jU;first|(rw [xd e];rfl)|rfl
 ·refine⟨(i+1,out++[(bQ (nth ab (bn s 44) i)).1],true),[(1012,1039)],?_,?_,?_⟩
  rotate_right
  ·exact bW
  ·have bV:=cq (by assumption)
   refine⟨bV,by show List.length (_++_)=_;rw [ZA0,hl];rfl,?_⟩
   rw [←hr,cP bV,aez (by assumption),show sm=true by assumption];rfl
  ·show (bn s 44).length-(i+1)<(bn s 44).length-i;have:=cq (by assumption);omega
 ·refine⟨(i+1,out++[(bQ (nth ab (bn s 44) i)).1],!(au (bQ (nth ab (bn s 44) i)).1)),[(1012,1039)],?_,?_,?_⟩
  rotate_right
  ·exact bW
  ·have bV:=cq (by assumption)
   refine⟨bV,by show List.length (_++_)=_;rw [ZA0,hl];rfl,?_⟩
   rw [←hr,cP bV,aez (by assumption),show sm=false by assumption];rfl
  ·show (bn s 44).length-(i+1)<(bn s 44).length-i;have:=cq (by assumption);omega
 ·refine⟨[1047],[],_,_,_,rfl,az,(),aa,?_,?_,rfl⟩
  ·(show _=iq s);unfold iq;first|(rw [jZ (oe (by assumption)),z1 (by assumption)];rfl)|rfl
  ·(show _=jU s);unfold jU;first|(rw [jZ (oe (by assumption)),z1 (by assumption)];rfl)|rfl
 ·refine⟨[1047],[],_,_,_,rfl,az,(),aa,?_,?_,rfl⟩
  ·(show _=iq s);unfold iq;first|(rw [jZ (oe (by assumption)),zZ (by assumption)];rfl)|rfl
  ·(show _=jU s);unfold jU;first|(rw [jZ (oe (by assumption)),zZ (by assumption)];rfl)|rfl
 ·refine⟨[1012],[],_,_,_,rfl,az,(),aa,?_,?_,rfl⟩
  ·(show _=iq s);unfold iq;first|(rw [jZ (oe (by assumption)),vP (by assumption) (by assumption)];rfl)|rfl
  ·(show _=jU s);unfold jU;first|(rw [jZ (oe (by assumption)),vP (by assumption) (by assumption)];rfl)|rfl
def gZ:List Pt→Nat→ByteArray→Bool→Option (ByteArray×Bool)
 |[],_,out,sm=>some (out,sm)
 |p::l,i,out,sm=>bif aZ p then gZ l (i+1) ((bif decide ((i:Int)>0) then out++⟨#[44]⟩ else out)++bc p) (sm|| !(au p)) else none
def rq (o:ByteArray) (sm:Bool):ByteArray×Bool:=bif !sm then (⟨#[]⟩,false) else (o,true)
def rn (l:List Pt):ByteArray×Bool:=
 match gZ l 0 ⟨#[]⟩ false with
 |none=>(⟨#[]⟩,false)
 |some (o,sm)=>rq o sm
def bF (l:List Pt):ByteArray×Bool:=bif decide ((l.length:Int)≠4) then (⟨#[]⟩,false) else rn l
theorem xa {l:List Pt}(h:decide ((l.length:Int)≠4)=true):bF l=(⟨#[]⟩,false):=by unfold bF;rw [h];rfl
theorem w0 {l:List Pt}(h:decide ((l.length:Int)≠4)=false):bF l=rn l:=by unfold bF;rw [h];rfl
theorem po {l:List Pt}(h:gZ l 0 ⟨#[]⟩ false=none):rn l=(⟨#[]⟩,false):=by unfold rn;rw [h]
theorem sI {l:List Pt}{o:ByteArray}{sm:Bool}(h:gZ l 0 ⟨#[]⟩ false=some (o,sm)):rn l=rq o sm:=by unfold rn;rw [h]
theorem C6 {o:ByteArray}{sm:Bool}(h:(!sm)=true):rq o sm=(⟨#[]⟩,false):=by unfold rq;rw [h];rfl
theorem xc {o:ByteArray}{sm:Bool}(h:(!sm)=false):rq o sm=(o,true):=by unfold rq;rw [h];rfl
theorem af9 {p:Pt}{l:List Pt}{i:Nat}{out:ByteArray}{sm:Bool}(h:(!(aZ p))=true):gZ (p::l) i out sm=none:=by rw [gZ,xq h];rfl
theorem FL {p:Pt}{l:List Pt}{i:Nat}{out:ByteArray}{sm:Bool}(h:(!(aZ p))=false):gZ (p::l) i out sm=gZ l (i+1) ((bif decide ((i:Int)>0) then out++⟨#[44]⟩ else out)++bc p) (sm|| !(au p)):=by rw [gZ,cM h];rfl
theorem QF {a b:ByteArray}(ha:a.size≤1000000) (hb:b.size≤1000000):((a.size+b.size:Nat):Int)≤imax:=by
 unfold imax;omega
theorem agv (p:Pt):(bc p).size≤1000000:=ZB0 (gv p) (by omega)
def yo (l:List Pt):Prop:=True
def im (l:List Pt):AV:=.t [.s (.str (bF l).1),.s (.q (bF l).2)]
def abr (l:List Pt):List AV:=[]
def J5:ct where
 A:=[.s (.vz ae)]
 B:=[]
 pre:=fun x b=>yo x
 r:=fun x b _=>im x
 o:=fun x b _=>abr x
theorem adZ:Has Tryz.prog 199 J5:=by
 refine Has.fu zT zF zF (l:=[(115,cY),(83,bl),(202,qE)]) ⟨iA,cz,IL,aa⟩ Tryz.func199 ?_
 rintro (l:List Pt) _ (hp:yo l)
 show vc _ _ _ _ (entry [.s (.vz ae l)] []) _
 refine⟨fun w1=>?_,fun w2=>?_⟩
 all_goals first|refine aw ?_|refine ax ?_|exact a8|(dsimp only [cY,ee,qE,qf];omega)|exact a7|skip
 ·refine⟨[],[],_,_,_,rfl,az,(),aa,?_,?_,rfl⟩
  ·(show _=im l);unfold im;first|(rw [xa (by assumption)];rfl)|rfl
  ·rfl
 ·have h4:l.length=4:=by have:=aA (p:=(l.length:Int)≠4) (by assumption);omega
  have hM:=w0 (l:=l) (by assumption)
  refine cO (l:=[(115,cY),(83,bl),(202,qE)]) (ex:=zT) (wr:=zF) (pt:=zF) ⟨iA,cz,IL,aa⟩ [.s 0] (fun y:Nat×ByteArray×Bool=>[(.s 4,.str y.2.1),(.s 5,.s (.q y.2.2)),(.s 6,.int y.1)]) (fun y=>y.1≤4∧y.2.1.size≤65*y.1∧gZ (l.drop y.1) y.1 y.2.1 y.2.2=gZ l 0 ⟨#[]⟩ false) (fun y=>4-y.1) (0,⟨#[]⟩,false) [] ⟨ZA7 _,ZA7 _,rfl⟩ dN ?_
  rintro⟨i,out,sm⟩ ⟨(hi:i≤4),(ho:out.size≤65*i),(hr:gZ (l.drop i) i out sm=gZ l 0 ⟨#[]⟩ false)⟩
  have cq:decide ((i:Int)<(l.length:Int))=true→i<l.length:=fun h=>by have:=aJ h;omega
  have cP:i<l.length→l.drop i=nth ae l i::l.drop (i+1):=fun h=>bX (ek:=ae) h
  have dj:=gv (nth ae l i)
  have oe:decide ((i:Int)<(l.length:Int))=false→gZ l 0 ⟨#[]⟩ false=some (out,sm):=fun h=>by
   have:=aA h
   rw [←hr,ZB3 (by omega)];rfl
  refine⟨fun w1=>⟨⟨?_,?_⟩,⟨⟨⟨aa,aa,aa,aa,aa,aa⟩,aa⟩,aa⟩,fun x2 w3=>⟨fun w4=>?_,fun w5=>⟨aa,fun w6=>⟨fun w7=>⟨?_,⟨?_,?_⟩,⟨⟨⟨aa,aa,aa,aa,aa,aa⟩,aa⟩,aa⟩,fun x8 w9=>⟨?_,⟨?_,?_⟩,?_⟩⟩,fun dy=>⟨⟨?_,?_⟩,⟨⟨⟨aa,aa,aa,aa,aa,aa⟩,aa⟩,aa⟩,fun kB dK=>⟨?_,⟨?_,?_⟩,?_⟩⟩⟩,fun iV=>⟨⟨?_,?_⟩,⟨⟨⟨aa,aa,aa,aa,aa,aa⟩,aa⟩,aa⟩,fun x14 qN=>⟨fun ki=>⟨?_,⟨?_,?_⟩,⟨⟨⟨aa,aa,aa,aa,aa,aa⟩,aa⟩,aa⟩,fun x17 rV=>⟨?_,⟨?_,?_⟩,?_⟩⟩,fun oN=>⟨⟨?_,?_⟩,⟨⟨⟨aa,aa,aa,aa,aa,aa⟩,aa⟩,aa⟩,fun x20 A4=>⟨?_,⟨?_,?_⟩,?_⟩⟩⟩⟩⟩⟩⟩,fun A3=>⟨fun xM=>?_,fun rU=>?_⟩⟩
  all_goals first|refine aw ?_|refine ax ?_|exact a8|(dsimp only [cY,ee,qE,qf];omega)|exact a7|(exact QF (show out.size≤1000000 by omega) (by rw [sz1];omega))|(exact QF (show (out++(⟨#[44]⟩:ByteArray)).size≤1000000 by rw [ZB2,sz1];omega) (agv _))|(exact QF (show out.size≤1000000 by omega) (agv _))|skip
  ·have e:gZ l 0 ⟨#[]⟩ false=none:=by rw [←hr,cP (cq (by assumption)),af9 (by assumption)]
   refine⟨[],[],_,_,_,rfl,az,(),aa,?_,?_,rfl⟩
   ·(show _=im l);unfold im;first|(rw [hM,po e];rfl)|rfl
   ·rfl
  ·have bV:=cq (by assumption)
   refine⟨(i+1,out++⟨#[44]⟩++bc (nth ae l i),true),[],?_,?_,?_⟩
   rotate_right
   ·exact bW
   ·refine⟨by show i+1≤4;omega,by simp only [ZB2,sz1];omega,?_⟩
    rw [←hr,cP bV,FL (by assumption),show decide ((i:Int)>0)=true by assumption,show sm=true by assumption];rfl
   ·show 4-(i+1)<4-i;omega
  ·have bV:=cq (by assumption)
   refine⟨(i+1,out++bc (nth ae l i),true),[],?_,?_,?_⟩
   rotate_right
   ·exact bW
   ·refine⟨by show i+1≤4;omega,by simp only [ZB2,sz1];omega,?_⟩
    rw [←hr,cP bV,FL (by assumption),show decide ((i:Int)>0)=false by assumption,show sm=true by assumption];rfl
   ·show 4-(i+1)<4-i;omega
  ·have bV:=cq (by assumption)
   refine⟨(i+1,out++⟨#[44]⟩++bc (nth ae l i),!(au (nth ae l i))),[],?_,?_,?_⟩
   rotate_right
   ·exact bW
   ·refine⟨by show i+1≤4;omega,by simp only [ZB2,sz1];omega,?_⟩
    rw [←hr,cP bV,FL (by assumption),show decide ((i:Int)>0)=true by assumption,show sm=false by assumption];rfl
   ·show 4-(i+1)<4-i;omega
  ·have bV:=cq (by assumption)
   refine⟨(i+1,out++bc (nth ae l i),!(au (nth ae l i))),[],?_,?_,?_⟩
   rotate_right
   ·exact bW
   ·refine⟨by show i+1≤4;omega,by simp only [ZB2,sz1];omega,?_⟩
    rw [←hr,cP bV,FL (by assumption),show decide ((i:Int)>0)=false by assumption,show sm=false by assumption];rfl
   ·show 4-(i+1)<4-i;omega
  ·refine⟨[],[],_,_,_,rfl,az,(),aa,?_,?_,rfl⟩
   ·(show _=im l);unfold im;first|(rw [hM,sI (oe (by assumption)),C6 (by assumption)];rfl)|rfl
   ·rfl
  ·refine⟨[],[],_,_,_,rfl,az,(),aa,?_,?_,rfl⟩
   ·(show _=im l);unfold im;first|(rw [hM,sI (oe (by assumption)),xc (by assumption)];rfl)|rfl
   ·rfl
end GL
namespace GL
def dB:List ByteArray→ByteArray→ByteArray×Bool
 |[],out=>(out,true)
 |x::l,out=>bif decide ((x.size:Int)>2048) then (⟨#[]⟩,false) else
  bif decide (((out++bY x.size++⟨#[58]⟩++x).size:Int)>2048) then (⟨#[]⟩,false) else dB l (out++bY x.size++⟨#[58]⟩++x)
def cF (l:List ByteArray):ByteArray×Bool:=bif decide ((l.length:Int)≤60) then dB l ⟨#[]⟩ else (⟨#[]⟩,false)
theorem gF {l:List ByteArray}(h:decide ((l.length:Int)≤60)=true):cF l=dB l ⟨#[]⟩:=by unfold cF;rw [h];rfl
theorem tR {l:List ByteArray}(h:decide ((l.length:Int)≤60)=false):cF l=(⟨#[]⟩,false):=by unfold cF;rw [h];rfl
theorem MY {x:ByteArray}{l:List ByteArray}{out:ByteArray}(h:decide ((x.size:Int)>2048)=true):dB (x::l) out=(⟨#[]⟩,false):=by rw [dB,h];rfl
theorem MX {x:ByteArray}{l:List ByteArray}{out:ByteArray}(h:decide (((out++bY x.size++⟨#[58]⟩++x).size:Int)>2048)=true):dB (x::l) out=(⟨#[]⟩,false):=by
 rw [dB,h];cases decide ((x.size:Int)>2048)<;>rfl
theorem MW {x:ByteArray}{l:List ByteArray}{out:ByteArray}(h:decide ((x.size:Int)>2048)=false) (h2:decide (((out++bY x.size++⟨#[58]⟩++x).size:Int)>2048)=false):dB (x::l) out=dB l (out++bY x.size++⟨#[58]⟩++x):=by rw [dB,h,h2];rfl
def kn (l:List ByteArray):Prop:=True
def eX (l:List ByteArray):AV:=.t [.s (.str (cF l).1),.s (.q (cF l).2)]
def OQ (l:List ByteArray):List AV:=[]
def jI:ct where
 A:=[.s (.vz ab)]
 B:=[]
 pre:=fun x b=>kn x
 r:=fun x b _=>eX x
 o:=fun x b _=>OQ x
theorem vE:Has Tryz.prog 200 jI:=by
 refine Has.fu zT zF zF (l:=[(201,j7)]) ⟨wU,aa⟩ Tryz.func200 ?_
 rintro (l:List ByteArray) _ (hp:kn l)
 show vc _ _ _ _ (entry [.s (.vz ab l)] []) _
 refine cO (l:=[(201,j7)]) (ex:=zT) (wr:=zF) (pt:=zF) ⟨wU,aa⟩ [.s 0] (fun y:Nat×ByteArray=>[(.s 4,.str y.2),(.s 5,.int y.1)]) (fun y=>y.1≤l.length∧y.2.size≤2048∧(l.length≤60→dB (l.drop y.1) y.2=dB l ⟨#[]⟩)∧(60<l.length→y.1=0∧y.2=⟨#[]⟩)) (fun y=>l.length-y.1) (0,⟨#[]⟩) [] ⟨ZA7 _,ZA7 _,fun _=>rfl,fun _=>⟨rfl,rfl⟩⟩ dN ?_
 rintro⟨i,out⟩ ⟨(hi:i≤l.length),(ho:out.size≤2048),(hr:l.length≤60→dB (l.drop i) out=dB l ⟨#[]⟩),(h0:60<l.length→i=0∧out=⟨#[]⟩)⟩
 have cq:decide ((i:Int)<(l.length:Int))=true→i<l.length:=fun h=>by have:=aJ h;omega
 have h60:decide ((l.length:Int)≤60)=true→l.length≤60:=fun h=>by have:=aJ h;omega
 have cP:i<l.length→l.drop i=nth ab l i::l.drop (i+1):=fun h=>bX (ek:=ab) h
 have hsm:decide (((nth ab l i).size:Int)>2048)=false→(nth ab l i).size≤2048∧(bY ((nth ab l i).size:Int)).size≤12:=fun h=>by
  have:=aA h
  exact⟨by omega,dc (by omega)⟩
 refine⟨aa,fun w1=>⟨fun w2=>⟨⟨?_,?_⟩,fun w3=>?_,fun w4=>⟨Sq4,Sq23,rfl,Sq0,Sq24,rfl,Sq5,Sq25,rfl,[.s 24,.s 25],Sq26,rfl,⟨?_,?_⟩,Sq26,Sq27,rfl,Sq27,Sq28,rfl,Sq28,Sq29,rfl,⟨⟨aa,aa⟩,?_,?_⟩,?_,fun x5 w6=>⟨[.s 23,.s 29],Sq30,rfl,?_,Sq30,Sq31,rfl,?_,Sq0,Sq32,rfl,Sq5,Sq33,rfl,[.s 32,.s 33],Sq34,rfl,⟨?_,?_⟩,Sq34,Sq35,rfl,[.s 31,.s 35],Sq36,rfl,?_,Sq36,Sq4,rfl,fun w7=>?_,fun w8=>⟨⟨?_,?_⟩,?_⟩⟩⟩⟩,fun w9=>?_⟩,fun dy=>?_⟩
 all_goals first|refine aw ?_|refine ax ?_|exact a8|(dsimp only [j7,mN];omega)|exact a7|(have:=hsm (by assumption);exact QF (show (out++bY ((nth ab l i).size:Int)).size≤1000000 by rw [ZB2];omega) (by rw [sz1];omega))|(have:=hsm (by assumption);exact QF (show (out++bY ((nth ab l i).size:Int)++(⟨#[58]⟩:ByteArray)).size≤1000000 by rw [ZB2,ZB2,sz1];omega) (show (nth ab l i).size≤1000000 by omega))|skip
 ·have e:dB l ⟨#[]⟩=(⟨#[]⟩,false):=by rw [←hr (h60 (by assumption)),cP (cq (by assumption)),MY (by assumption)]
  refine⟨[],[],_,_,_,rfl,az,(),aa,?_,?_,rfl⟩
  ·(show _=eX l);unfold eX;first|(rw [gF (by assumption),e];rfl)|rfl
  ·rfl
 ·have e:dB l ⟨#[]⟩=(⟨#[]⟩,false):=by rw [←hr (h60 (by assumption)),cP (cq (by assumption)),MX (by assumption)]
  refine⟨[],[],_,_,_,rfl,az,(),aa,?_,?_,rfl⟩
  ·(show _=eX l);unfold eX;first|(rw [gF (by assumption),e];rfl)|rfl
  ·rfl
 ·have bV:=cq (by assumption)
  have h6:=h60 (by assumption)
  have hs2:¬(((out++bY ((nth ab l i).size:Int)++(⟨#[58]⟩:ByteArray)++nth ab l i).size:Int)>2048):=aA (by assumption)
  refine⟨(i+1,out++bY ((nth ab l i).size:Int)++⟨#[58]⟩++nth ab l i),[],?_,?_,?_⟩
  rotate_right
  ·exact bW
  ·refine⟨bV,Int.ofNat_le.1 (ZG8.1 hs2),fun h=>?_,fun h=>absurd h6 (by omega)⟩
   rw [←hr h,cP bV,MW (by assumption) (by assumption)]
  ·show l.length-(i+1)<l.length-i;omega
 ·have hd:decide ((l.length:Int)≤60)=false:=by assumption
  obtain⟨rfl,rfl⟩:=h0 (by have:=aA hd;omega)
  refine⟨[],[],_,_,_,rfl,az,(),aa,?_,?_,rfl⟩
  ·(show _=eX l);unfold eX;first|((rw [tR hd];show AV.t [_,A0.s (SV.q (decide ((l.length:Int)≤60)))]=_;rw [hd];rfl))|rfl
  ·rfl
 ·have FK:¬i<l.length:=by have:=aA (p:=(i:Int)<(l.length:Int)) (by assumption);omega
  have h6:l.length≤60:=by
   by_cases h:l.length≤60
   ·exact h
   ·obtain⟨h1,_⟩:=h0 (by omega);omega
  have hd:decide ((l.length:Int)≤60)=true:=decide_eq_true (by omega)
  have e:cF l=(out,true):=by rw [gF hd,←hr h6,ZB3 (by omega)];rfl
  refine⟨[],[],_,_,_,rfl,az,(),aa,?_,?_,rfl⟩
  ·(show _=eX l);unfold eX;first|((rw [e];show AV.t [_,A0.s (SV.q (decide ((l.length:Int)≤60)))]=_;rw [hd];rfl))|rfl
  ·rfl
end GL
end Go.Proofs.YtkgpljpmdkflmaaGreatDoor
