/- A drawn law returns true for every code (its row lists package variables, tied by the card): part 17. -/
import Derived.Test.YtclcgjhhehbdeaaGreatDoorPap
set_option maxHeartbeats 20000000
set_option maxRecDepth 100000
set_option linter.all false
namespace Go.Proofs.YtclcgjhhehbdeaaGreatDoor
namespace GL
theorem fO {b sz n m:Nat}(h:n=m):some (AV.s (.xs b sz 0 n))=some (AV.s (.xs b sz 0 m)):=by rw [h]
theorem oL {b sz:Nat}{α:Type}{l:List α}{x:α}:some (AV.s (.xs b sz 0 (l.length+1)))=some (AV.s (.xs b sz 0 (l++[x]).length)):=by rw [ZA0];rfl
theorem bV {P:Prop}(h:P:=by repeat' (first|exact trivial|rfl|exact rfl|exact fO List.length_append.symm|exact oL|apply And.intro)):P:=h
theorem dL {P:Prop}(h:P:=by repeat' (first|exact trivial|rfl|exact rfl|exact fO (Nat.zero_add _)|apply And.intro)):P:=h
theorem bW {ek:EK}{l:List (EK.Ty ek)}{i:Nat}(h:i<l.length):l.drop i=nth ek l i::l.drop (i+1):=by
 rw [List.drop_eq_getElem_cons h]
 congr 1
 have:=oz h
 rw [ZB1 h] at this
 exact ZG5 this
theorem ajA {α:Type}{l:List α}{i:Nat}(h:¬(i:Int)<(l.length:Int)):l.drop i=[]:=ZB3 (by omega)
def C5 (s:ByteArray) (k:Nat):Bool:=decide ((k:Int)<s.size)&&(decide ((k:Int)<9)&&(decide (bL s k≥48)&&decide (bL s k≤57)))
def iL (s:ByteArray):Nat→Int
 |0=>0
 |k+1=>10*iL s k+(bL s k-48)
def ss:Nat→ByteArray→Nat→Nat
 |0,_,k=>k
 |f+1,s,k=>bif C5 s k then ss f s (k+1) else k
def cW (s:ByteArray):Nat:=ss 9 s 0
def CI (s:ByteArray):Int×Int:=bif decide ((cW s:Int)>1)&&decide (bL s 0=48) then (0,1) else (iL s (cW s),cW s)
theorem SW {s:ByteArray}{k:Nat}(hk:k≤9) (hd:C5 s k=false) (hl:ss (9-k) s k=cW s):cW s=k:=by
 rw [←hl]
 by_cases h:k=9
 ·subst h;rfl
 ·rw [show 9-k=(8-k)+1 by omega,ss,hd];rfl
theorem R9 {s:ByteArray}{k:Nat}(h1:iL s k<(10:Int) ^ k) (hk:k≤8):iL s k≤99999999:=by
 have:(10:Int) ^ k≤10 ^ 8:=by exact_mod_cast Nat.pow_le_pow_right (by omega) hk
 omega
theorem aiW {s:ByteArray}{k:Nat}(e:cW s=k) (h1:decide ((k:Int)>1)=true) (h2:decide (bL s 0=48)=true):CI s=(0,1):=by
 unfold CI;rw [e,h1,h2];rfl
theorem agE {s:ByteArray}{k:Nat}(e:cW s=k) (h1:decide ((k:Int)>1)=false):CI s=(iL s k,(k:Int)):=by
 unfold CI;rw [e,h1];rfl
theorem agD {s:ByteArray}{k:Nat}(e:cW s=k) (h2:decide (bL s 0=48)=false):CI s=(iL s k,(k:Int)):=by
 unfold CI;rw [e,h2,ZD7];rfl
theorem agV {s:ByteArray}{k:Nat}(h:decide ((k:Int)<s.size)=false):C5 s k=false:=by unfold C5;rw [h];rfl
theorem ajF {s:ByteArray}{k:Nat}(h:decide ((k:Int)<9)=false):C5 s k=false:=by unfold C5;rw [h,Bool.false_and,ZD7]
theorem ajE {s:ByteArray}{k:Nat}(h:decide (bL s ((k:Int).toNat)≥48)=false):C5 s k=false:=by
 have h:decide (bL s k≥48)=false:=h
 unfold C5;rw [h,Bool.false_and,ZD7,ZD7]
theorem ajD {s:ByteArray}{k:Nat}(h:decide (bL s ((k:Int).toNat)≤57)=false):C5 s k=false:=by
 have h:decide (bL s k≤57)=false:=h
 unfold C5;rw [h,ZD7,ZD7,ZD7]
def kY (s:ByteArray):Prop:=(s.size:Int)≤1000000000000
def BB (s:ByteArray):AV:=.t [.s (.int (CI s).1),.s (.int (CI s).2)]
def acY (s:ByteArray):List AV:=[]
def tV:cn where
 A:=[.s .str]
 B:=[]
 pre:=fun x b=>kY x
 r:=fun x b _=>BB x
 o:=fun x b _=>acY x
theorem O4:Has Tryz.prog 164 tV:=by
 refine Has.fl zT zF zF (l:=[]) trivial Tryz.func164 ?_
 rintro (s:ByteArray) _ (hp:kY s)
 show vc _ _ _ _ (entry [.str s] []) _
 unfold kY at hp
 refine cN (l:=[]) (ex:=zT) (wr:=zF) (pt:=zF) trivial [.s 0] (fun k:Nat=>[(.s 4,.int (iL s k)),(.s 5,.int k)]) (fun k=>k≤9∧k≤s.size∧(0≤iL s k∧iL s k<(10:Int) ^ k)∧ss (9-k) s k=cW s) (fun k=>9-k) 0 [] ⟨by omega,ZA7 _,⟨ZC1 _,by show (0:Int)<1;omega⟩,rfl⟩ ⟨⟨rfl,rfl,trivial⟩,⟨rfl,trivial⟩⟩ ?_
 rintro k ⟨hk,hks,⟨hn0,hn1⟩,hl⟩
 have hb:=xa s k
 have hsm:=R9 hn1
 refine⟨aa,fun w1=>⟨aa,fun w2=>⟨⟨?_,?_⟩,aa,fun w3=>⟨⟨?_,?_⟩,fun w4=>⟨⟨?_,?_⟩,⟨?_,?_⟩,⟨?_,?_⟩,⟨?_,?_⟩,⟨?_,?_⟩,⟨?_,?_⟩,?_⟩,fun w5=>⟨aa,fun w6=>⟨⟨?_,?_⟩,fun w7=>?_,fun w8=>?_⟩,fun w9=>?_⟩⟩,fun dx=>⟨aa,fun kx=>⟨⟨?_,?_⟩,fun dI=>?_,fun iS=>?_⟩,fun gN=>?_⟩⟩,fun qG=>⟨aa,fun kc=>⟨⟨?_,?_⟩,fun xd=>?_,fun rO=>?_⟩,fun oH=>?_⟩⟩,fun uE=>⟨aa,fun AY=>⟨⟨?_,?_⟩,fun AX=>?_,fun xF=>?_⟩,fun rN=>?_⟩⟩
 all_goals first|refine aw ?_|refine ax ?_|exact a8|exact a7|skip
 ·have h4:C5 s k=true:=by unfold C5;rw [w1,w2,show decide (bL s k≥48)=true from w3,show decide (bL s k≤57)=true from w4];rfl
  have h2:=aJ w2
  have h5:bL s k≥48:=aJ w3
  have h6:bL s k≤57:=aJ w4
  refine⟨(k+1),[],?_,?_,?_⟩
  rotate_right
  ·exact bV
  ·refine⟨by omega,by have:=aJ w1;omega,⟨?_,?_⟩,?_⟩
   ·show 0≤10*iL s k+(bL s k-48);omega
   ·show 10*iL s k+(bL s k-48)<_;rw [Int.pow_succ];omega
   ·rw [←hl,show 9-k=(9-(k+1))+1 by omega,ss,h4];rfl
  ·show 9-(k+1)<9-k;omega
 all_goals
  have e:cW s=k:=SW hk (by first|exact agV (by assumption)|exact ajF (by assumption)|exact ajE (by assumption)|exact ajD (by assumption)) hl
  refine⟨[],[],_,_,_,rfl,az,(),aa,?_,?_,rfl⟩
  ·(show _=BB s);unfold BB;first|(rw [agE e (by assumption)];rfl)|(rw [aiW e (by assumption) (by assumption)];rfl)|(rw [agD e (by assumption)];rfl)|rfl
  ·rfl
def aD (s:ByteArray):Int×Bool:=bif decide ((CI s).2=0)||decide ((CI s).2≠(s.size:Int)) then (0,false) else ((CI s).1,true)
def gH (s:ByteArray):Prop:=(s.size:Int)≤1000000000000
def xV (s:ByteArray):AV:=.t [.s (.int (aD s).1),.s (.q (aD s).2)]
def abk (s:ByteArray):List AV:=[]
def jD:cn where
 A:=[.s .str]
 B:=[]
 pre:=fun x b=>gH x
 r:=fun x b _=>xV x
 o:=fun x b _=>abk x
theorem vt:Has Tryz.prog 125 jD:=by
 refine Has.fl zT zF zF (l:=[(164,tV)]) ⟨O4,aa⟩ Tryz.func125 ?_
 rintro (s:ByteArray) _ (hp:gH s)
 show vc _ _ _ _ (entry [.str s] []) _
 unfold gH at hp
 refine⟨⟨tv2,?_⟩,fun x1 w2=>⟨aa,fun w3=>?_,fun w4=>⟨fun w5=>?_,fun w6=>?_⟩⟩⟩
 all_goals first|refine aw ?_|refine ax ?_|exact a8|(dsimp only [tV,kY];omega)|exact a7|skip
 all_goals
  refine⟨[],[],_,_,_,rfl,az,(),aa,?_,?_,rfl⟩
  ·(show _=xV s);unfold xV;first|((simp only [aD, *];rfl))|rfl
  ·rfl
def iX (s:ByteArray) (c:Int):Nat→List ByteArray×Nat
 |0=>([],0)
 |k+1=>bif decide (bL s k=c) then ((iX s c k).1++[s.extract (iX s c k).2 k],k+1) else iX s c k
def bm (s:ByteArray) (c:Int):List ByteArray:=(iX s c s.size).1++[s.extract (iX s c s.size).2 s.size]
theorem JK (s:ByteArray) (c:Int):∀k,(iX s c k).1.length≤k∧(iX s c k).2≤k
 |0=>⟨ZB5 _,ZB5 _⟩
 |k+1=>by
  have:=JK s c k
  unfold iX
  cases decide (bL s k=c) with
  |true=>simp only [cond_true,ZA0,ZA1,ZA4];omega
  |false=>simp only [cond_false];omega
theorem tS (s:ByteArray) (c:Int):1≤(bm s c).length∧(bm s c).length≤s.size+1:=by
 have:=JK s c s.size
 simp only [bm,ZA0,ZA1,ZA4]
 omega
theorem JJ {s:ByteArray}{c:Int}:∀{k:Nat},∀x∈(iX s c k).1,x.size≤s.size
 |0,x,h=>by cases h
 |k+1,x,h=>by
  unfold iX at h
  cases hd:decide (bL s k=c) with
  |true=>
   rw [hd,cond_true,ZB4] at h
   rcases h with h |h
   ·exact JJ x h
   ·simp only [ZB8,ZF6,or_false] at h
    subst h
    rw [ZC5];omega
  |false=>rw [hd,cond_false] at h;exact JJ x h
theorem oT {s:ByteArray}{c:Int}:∀x∈bm s c,x.size≤s.size:=by
 intro x h
 rw [bm,ZB4] at h
 rcases h with h |h
 ·exact JJ x h
 ·simp only [ZB8,ZF6,or_false] at h
  subst h
  rw [ZC5];omega
def iO (s:ByteArray) (c:Int):Prop:=s.size≤1000000
def BA (s:ByteArray) (c:Int):AV:=.s (.xs 0 1 0 (bm s c).length)
def HD (s:ByteArray) (c:Int):List AV:=[.rs ab (bm s c)]
def iB:cn where
 A:=[.s .str,.s .byte]
 B:=[]
 pre:=fun x b=>iO (x.1) (x.2)
 r:=fun x b _=>BA (x.1) (x.2)
 o:=fun x b _=>HD (x.1) (x.2)
 nf:=1
theorem tC:Has Tryz.prog 166 iB:=by
 refine Has.fl zT zF zF (l:=[]) trivial Tryz.func166 ?_
 rintro⟨(s:ByteArray),(c:Int)⟩ _ (hp:iO s c)
 show vc _ _ _ _ (entry [.str s,.byte c] []) _
 unfold iO at hp
 refine⟨aa,?_⟩
 all_goals first|refine aw ?_|refine ax ?_|exact a8|exact a7|skip
 refine cN (l:=[]) (ex:=zT) (wr:=zF) (pt:=zF) trivial [.s 0,.s 1] (fun y:Nat×List ByteArray×Nat=>[(.s 5,.s (.xs 1008 1 0 y.2.1.length)),(.s 6,.int y.2.2),(.s 7,.int y.1),(.b 1008,.rs ab y.2.1)]) (fun y=>y.1≤s.size∧iX s c y.1=y.2) (fun y=>s.size-y.1) (0,[],0) [] ⟨ZA7 _,rfl⟩ dL ?_
 rintro⟨k,out,fr⟩ ⟨(hk:k≤s.size),(he:iX s c k=(out,fr))⟩
 have hbd:=JK s c k
 rw [he] at hbd
 obtain⟨(hb1:out.length≤k),(hb2:fr≤k)⟩:=hbd
 refine⟨fun w1=>⟨⟨?_,?_⟩,fun w2=>⟨⟨?_,?_,?_⟩,aa,⟨⟨?_,?_⟩,?_,?_⟩,⟨?_,?_⟩,⟨?_,?_⟩,?_⟩,fun w3=>⟨⟨?_,?_⟩,?_⟩⟩,fun w4=>⟨⟨?_,?_,?_⟩,aa,⟨⟨?_,?_⟩,?_,?_⟩,?_⟩⟩
 all_goals first|refine aw ?_|refine ax ?_|exact a8|exact a7|skip
 ·have e:iX s c (k+1)=(out++[s.extract fr k],k+1):=by
   rw [iX,show decide (bL s k=c)=true by assumption,he];rfl
  refine⟨(k+1,out++[s.extract fr k],k+1),[(1008,1026)],?_,?_,?_⟩
  rotate_right
  ·exact bV
  ·exact⟨by have:=aJ (p:=(k:Int)<s.size) (by assumption);omega,e⟩
  ·show s.size-(k+1)<s.size-k
   have:=aJ (p:=(k:Int)<s.size) (by assumption);omega
 ·have e:iX s c (k+1)=(out,fr):=by
   rw [iX,show decide (bL s k=c)=false by assumption,he];rfl
  refine⟨(k+1,out,fr),[],?_,?_,?_⟩
  rotate_right
  ·exact bV
  ·exact⟨by have:=aJ (p:=(k:Int)<s.size) (by assumption);omega,e⟩
  ·show s.size-(k+1)<s.size-k
   have:=aJ (p:=(k:Int)<s.size) (by assumption);omega
 ·have hk':k=s.size:=by have:=aA (p:=(k:Int)<s.size) (by assumption);omega
  subst hk'
  have e:bm s c=out++[s.extract fr s.size]:=by rw [bm,he]
  refine⟨[1034],[],_,_,_,rfl,az,(),aa,?_,?_,rfl⟩
  ·(show _=BA s c);unfold BA;first|(rw [e,ZA0];rfl)|(rw [e];rfl)|rfl
  ·(show _=HD s c);unfold HD;first|(rw [e,ZA0];rfl)|(rw [e];rfl)|rfl
end GL
namespace GL
def k9:List ByteArray→List Int→Option (List Int)
 |[],acc=>some acc
 |t::l,acc=>bif (aD t).2 then k9 l (acc++[(aD t).1]) else none
def lE (n:List Int):Pt:=(nth ag n 0,nth ag n 1,nth ag n 2,nth ag n 3,nth ag n 4)
def pP (n:List Int):Pt×Bool:=bif !(aZ (lE n))||au (lE n) then (bM,false) else (lE n,true)
def qS (w:List ByteArray):Pt×Bool:=
 match k9 w [] with
 |none=>(bM,false)
 |some n=>pP n
def bP (s:ByteArray):Pt×Bool:=
 bif decide (s=⟨#[45]⟩) then (bM,true) else
 bif decide (((bm s 46).length:Int)≠5) then (bM,false) else qS (bm s 46)
theorem wz {s:ByteArray}(h:decide (s=⟨#[45]⟩)=true):bP s=(bM,true):=by unfold bP;rw [h];rfl
theorem BV {s:ByteArray}(h:decide (s=⟨#[45]⟩)=false) (h2:decide (((bm s 46).length:Int)≠5)=true):bP s=(bM,false):=by unfold bP;rw [h,h2];rfl
theorem r6 {s:ByteArray}(h:decide (s=⟨#[45]⟩)=false) (h2:decide (((bm s 46).length:Int)≠5)=false):bP s=qS (bm s 46):=by unfold bP;rw [h,h2];rfl
theorem BU {w:List ByteArray}(h:k9 w []=none):qS w=(bM,false):=by unfold qS;rw [h]
theorem BT {w:List ByteArray}{n:List Int}(h:k9 w []=some n):qS w=pP n:=by unfold qS;rw [h]
theorem RI {n:List Int}(h:(!(aZ (lE n)))=true):pP n=(bM,false):=by unfold pP;rw [h];rfl
theorem RH {n:List Int}(h:au (lE n)=true):pP n=(bM,false):=by unfold pP;rw [h,ZC4];rfl
theorem G1 {n:List Int}(h:(!(aZ (lE n)))=false) (h2:au (lE n)=false):pP n=(lE n,true):=by unfold pP;rw [h,h2];rfl
def mJ (s:ByteArray):Prop:=s.size≤1000000
def eL (s:ByteArray):AV:=.t [ptA (bP s).1,.s (.q (bP s).2)]
def abi (s:ByteArray):List AV:=[]
def qy:cn where
 A:=[.s .str]
 B:=[]
 pre:=fun x b=>mJ x
 r:=fun x b _=>eL x
 o:=fun x b _=>abi x
theorem IH:Has Tryz.prog 126 qy:=by
 refine Has.fl zT zF zF (l:=[(125,jD),(166,iB),(53,cX),(54,cx)]) ⟨vt,tC,iz,cz,aa⟩ Tryz.func126 ?_
 rintro (s:ByteArray) _ (hp:mJ s)
 show vc _ _ _ _ (entry [.str s] []) _
 unfold mJ at hp
 have TJ:=tS s 46
 refine⟨fun w1=>?_,fun w2=>⟨⟨tv3,?_⟩,fun x3 w4=>⟨fun w5=>?_,fun w6=>⟨aa,?_⟩⟩⟩⟩
 all_goals first|refine aw ?_|refine ax ?_|exact a8|(dsimp only [jD,gH,iB,iO,cX,dY];omega)|exact a7|skip
 ·refine⟨[],[],_,_,_,rfl,az,(),aa,?_,?_,rfl⟩
  ·(show _=eL s);unfold eL;first|(rw [wz (by assumption)];rfl)|rfl
  ·rfl
 ·refine⟨[],[],_,_,_,rfl,az,(),aa,?_,?_,rfl⟩
  ·(show _=eL s);unfold eL;first|(rw [BV (by assumption) (by assumption)];rfl)|rfl
  ·rfl
 ·have h5:(bm s 46).length=5:=by have:=aA (p:=((bm s 46).length:Int)≠5) (by assumption);omega
  have hM:=r6 (s:=s) (by assumption) (by assumption)
  refine cN (l:=[(125,jD),(166,iB),(53,cX),(54,cx)]) (ex:=zT) (wr:=zF) (pt:=zF) ⟨vt,tC,iz,cz,aa⟩ [.s 0,.s 2,.s 4,.b 1002,.b 150000] (fun y:Nat×List Int=>[(.s 5,.s (.xs 1019 1 0 y.2.length)),(.s 6,.int y.1),(.b 1019,.rs ag y.2)]) (fun y=>y.1≤5∧y.2.length=y.1∧k9 ((bm s 46).drop y.1) y.2=k9 (bm s 46) []) (fun y=>5-y.1) (0,[]) [] ⟨ZA7 _,rfl,rfl⟩ dL ?_
  rintro⟨i,n⟩ ⟨(hi:i≤5),(hl:n.length=i),(hr:k9 ((bm s 46).drop i) n=k9 (bm s 46) [])⟩
  have dj:i<5→(nth ab (bm s 46) i).size≤1000000:=fun h=>ZB0 (oT (s:=s) (c:=46) _ (bR (ek:=ab) (by omega))) hp
  have cO:i<5→(bm s 46).drop i=nth ab (bm s 46) i::(bm s 46).drop (i+1):=fun h=>bW (ek:=ab) (by omega)
  refine⟨fun w1=>⟨⟨?_,?_⟩,?_,⟨tv2,?_⟩,fun x2 w3=>⟨fun w4=>?_,fun w5=>⟨aa,⟨⟨?_,?_⟩,?_,?_⟩,⟨?_,?_⟩,?_⟩⟩⟩,fun w6=>⟨Sq5,Sq39,rfl,Sq39,Sq40,rfl,⟨?_,?_⟩,[.s 40,.b 1019],Sq41,rfl,?_,Sq5,Sq42,rfl,Sq42,Sq43,rfl,⟨?_,?_⟩,[.s 43,.b 1019],Sq44,rfl,?_,Sq5,Sq45,rfl,Sq45,Sq46,rfl,⟨?_,?_⟩,[.s 46,.b 1019],Sq47,rfl,?_,Sq5,Sq48,rfl,Sq48,Sq49,rfl,⟨?_,?_⟩,[.s 49,.b 1019],Sq50,rfl,?_,Sq5,Sq51,rfl,Sq51,Sq52,rfl,⟨?_,?_⟩,[.s 52,.b 1019],Sq53,rfl,?_,[.s 41,.s 44,.s 47,.s 50,.s 53],Sq54,rfl,[.b 1009],[.s 9,.b 1009],rfl,[.s 9,.s 54,.b 1009],[.b 1009],rfl,⟨⟨tv6,aa⟩,aa⟩,fun x7 w8=>⟨aa,fun w9=>?_,fun dx=>⟨⟨⟨tv6,aa⟩,aa⟩,fun ku dI=>⟨fun iS=>?_,fun gN=>?_⟩⟩⟩⟩⟩
  all_goals first|refine aw ?_|refine ax ?_|exact a8|(dsimp only [jD,gH,iB,iO,cX,dY];omega)|exact a7|(have:=dj (by have:=aJ (p:=(i:Int)<5) (by assumption);omega);show ((nth ab (bm s 46) i).size:Int)≤1000000000000;omega)|skip
  ·have bU:i<5:=by have:=aJ (p:=(i:Int)<5) (by assumption);omega
   have e:k9 (bm s 46) []=none:=by rw [←hr,cO bU,k9,show (aD (nth ab (bm s 46) i)).2=false from xi (by assumption)];rfl
   refine⟨[],[],_,_,_,rfl,az,(),aa,?_,?_,rfl⟩
   ·(show _=eL s);unfold eL;first|(rw [hM,BU e];rfl)|rfl
   ·rfl
  ·have bU:i<5:=by have:=aJ (p:=(i:Int)<5) (by assumption);omega
   refine⟨(i+1,n++[(aD (nth ab (bm s 46) i)).1]),[(1019,1038)],?_,?_,?_⟩
   rotate_right
   ·exact bV
   ·refine⟨bU,by show List.length (_++_)=_;rw [ZA0,hl];rfl,?_⟩
    rw [←hr,cO bU,k9,show (aD (nth ab (bm s 46) i)).2=true from cL (by assumption)];rfl
   ·show 5-(i+1)<5-i;omega
  all_goals
   have hi5:i=5:=by have:=aA (p:=(i:Int)<5) (by assumption);omega
   have e:k9 (bm s 46) []=some n:=by rw [←hr,ZB3 (by omega)];rfl
   rw [BT e] at hM
  ·rw [RI (by assumption)] at hM
   refine⟨[],[],_,_,_,rfl,az,(),aa,?_,?_,rfl⟩
   ·(show _=eL s);unfold eL;first|(rw [hM];rfl)|rfl
   ·rfl
  ·rw [RH (by assumption)] at hM
   refine⟨[],[],_,_,_,rfl,az,(),aa,?_,?_,rfl⟩
   ·(show _=eL s);unfold eL;first|(rw [hM];rfl)|rfl
   ·rfl
  ·rw [G1 (by assumption) (by assumption)] at hM
   refine⟨[],[],_,_,_,rfl,az,(),aa,?_,?_,rfl⟩
   ·(show _=eL s);unfold eL;first|(rw [hM];rfl)|rfl
   ·rfl
end GL
namespace GL
def ob:List ByteArray→List Pt→Bool→Option (List Pt×Bool)
 |[],out,sm=>some (out,sm)
 |t::l,out,sm=>bif (bP t).2 then ob l (out++[(bP t).1]) (sm|| !(au (bP t).1)) else none
def l4 (o:List Pt) (sm:Bool):List Pt×Bool:=bif decide ((o.length:Int)≠4)|| !sm then ([],false) else (o,true)
def bl (s:ByteArray):List Pt×Bool:=
 match ob (bm s 44) [] false with
 |none=>([],false)
 |some (o,sm)=>l4 o sm
theorem wW {s:ByteArray}(h:ob (bm s 44) [] false=none):bl s=([],false):=by unfold bl;rw [h]
theorem jU {s:ByteArray}{o:List Pt}{sm:Bool}(h:ob (bm s 44) [] false=some (o,sm)):bl s=l4 o sm:=by unfold bl;rw [h]
theorem zU {o:List Pt}{sm:Bool}(h:decide ((o.length:Int)≠4)=true):l4 o sm=([],false):=by unfold l4;rw [h];rfl
theorem zS {o:List Pt}{sm:Bool}(h:(!sm)=true):l4 o sm=([],false):=by unfold l4;rw [h,ZC4];rfl
theorem vI {o:List Pt}{sm:Bool}(h:decide ((o.length:Int)≠4)=false) (h2:(!sm)=false):l4 o sm=(o,true):=by unfold l4;rw [h,h2];rfl
theorem aev {t:ByteArray}{l:List ByteArray}{out:List Pt}{sm:Bool}(h:(!(bP t).2)=false):ob (t::l) out sm=ob l (out++[(bP t).1]) (sm|| !(au (bP t).1)):=by rw [ob,cL h];rfl
theorem ahR {t:ByteArray}{l:List ByteArray}{out:List Pt}{sm:Bool}(h:(!(bP t).2)=true):ob (t::l) out sm=none:=by rw [ob,xi h];rfl
def qb (s:ByteArray):Prop:=s.size≤1000000
def im (s:ByteArray):AV:=.t [.s (.xs 0 5 0 (bl s).1.length),.s (.q (bl s).2)]
def jP (s:ByteArray):List AV:=[.rs ae (bl s).1]
def vU:cn where
 A:=[.s .str]
 B:=[]
 pre:=fun x b=>qb x
 r:=fun x b _=>im x
 o:=fun x b _=>jP x
 nf:=1
theorem S9:Has Tryz.prog 132 vU:=by
 refine Has.fl zT zF zF (l:=[(166,iB),(126,qy),(54,cx)]) ⟨tC,IH,cz,aa⟩ Tryz.func132 ?_
 rintro (s:ByteArray) _ (hp:qb s)
 show vc _ _ _ _ (entry [.str s] []) _
 unfold qb at hp
 have TJ:=tS s 44
 refine⟨⟨tv3,?_⟩,fun x1 w2=>⟨aa,?_⟩⟩
 all_goals first|refine aw ?_|refine ax ?_|exact a8|(dsimp only [iB,iO,qy,mJ];omega)|exact a7|skip
 refine cN (l:=[(166,iB),(126,qy),(54,cx)]) (ex:=zT) (wr:=zF) (pt:=zF) ⟨tC,IH,cz,aa⟩ [.s 0,.s 4,.b 120000] (fun y:Nat×List Pt×Bool=>[(.s 5,.s (.xs 1012 5 0 y.2.1.length)),(.s 6,.s (.q y.2.2)),(.s 7,.int y.1),(.b 1012,.rs ae y.2.1)]) (fun y=>y.1≤(bm s 44).length∧y.2.1.length=y.1∧ob ((bm s 44).drop y.1) y.2.1 y.2.2=ob (bm s 44) [] false) (fun y=>(bm s 44).length-y.1) (0,[],false) [] ⟨ZA7 _,rfl,rfl⟩ dL ?_
 rintro⟨i,out,sm⟩ ⟨(hi:i≤(bm s 44).length),(hl:out.length=i),(hr:ob ((bm s 44).drop i) out sm=ob (bm s 44) [] false)⟩
 have dj:i<(bm s 44).length→(nth ab (bm s 44) i).size≤1000000:=fun h=>ZB0 (oT (s:=s) (c:=44) _ (bR (ek:=ab) h)) hp
 have cO:i<(bm s 44).length→(bm s 44).drop i=nth ab (bm s 44) i::(bm s 44).drop (i+1):=fun h=>bW (ek:=ab) h
 have cm:decide ((i:Int)<((bm s 44).length:Int))=true→i<(bm s 44).length:=fun h=>by have:=aJ h;omega
 have nY:decide ((i:Int)<((bm s 44).length:Int))=false→ob (bm s 44) [] false=some (out,sm):=fun h=>by
  have:=aA h
  rw [←hr,ZB3 (by omega)];rfl
 refine⟨fun w1=>⟨⟨?_,?_⟩,?_,⟨tv2,?_⟩,fun x2 w3=>⟨fun w4=>⟨aa,?_⟩,fun w5=>⟨aa,fun w6=>⟨aa,⟨⟨?_,?_⟩,?_,?_⟩,⟨?_,?_⟩,?_⟩,fun w7=>⟨⟨⟨tv6,aa⟩,aa⟩,fun x8 w9=>⟨aa,⟨⟨?_,?_⟩,?_,?_⟩,⟨?_,?_⟩,?_⟩⟩⟩⟩⟩,fun dx=>⟨aa,fun kx=>⟨aa,?_⟩,fun dI=>⟨fun iS=>⟨aa,?_⟩,fun gN=>?_⟩⟩⟩
 all_goals first|refine aw ?_|refine ax ?_|exact a8|(dsimp only [iB,iO,qy,mJ];omega)|exact a7|(exact dj (cm (by assumption)))|skip
 ·have e:ob (bm s 44) [] false=none:=by rw [←hr,cO (cm (by assumption)),ahR (by assumption)]
  refine⟨[1029],[],_,_,_,rfl,az,(),aa,?_,?_,rfl⟩
  ·(show _=im s);unfold im;first|(rw [wW e];rfl)|rfl
  ·(show _=jP s);unfold jP;first|(rw [wW e];rfl)|rfl
 ·refine⟨(i+1,out++[(bP (nth ab (bm s 44) i)).1],true),[(1012,1039)],?_,?_,?_⟩
  rotate_right
  ·exact bV
  ·have bU:=cm (by assumption)
   refine⟨bU,by show List.length (_++_)=_;rw [ZA0,hl];rfl,?_⟩
   rw [←hr,cO bU,aev (by assumption),show sm=true by assumption];rfl
  ·show (bm s 44).length-(i+1)<(bm s 44).length-i;have:=cm (by assumption);omega
 ·refine⟨(i+1,out++[(bP (nth ab (bm s 44) i)).1],!(au (bP (nth ab (bm s 44) i)).1)),[(1012,1039)],?_,?_,?_⟩
  rotate_right
  ·exact bV
  ·have bU:=cm (by assumption)
   refine⟨bU,by show List.length (_++_)=_;rw [ZA0,hl];rfl,?_⟩
   rw [←hr,cO bU,aev (by assumption),show sm=false by assumption];rfl
  ·show (bm s 44).length-(i+1)<(bm s 44).length-i;have:=cm (by assumption);omega
 ·refine⟨[1047],[],_,_,_,rfl,az,(),aa,?_,?_,rfl⟩
  ·(show _=im s);unfold im;first|(rw [jU (nY (by assumption)),zU (by assumption)];rfl)|rfl
  ·(show _=jP s);unfold jP;first|(rw [jU (nY (by assumption)),zU (by assumption)];rfl)|rfl
 ·refine⟨[1047],[],_,_,_,rfl,az,(),aa,?_,?_,rfl⟩
  ·(show _=im s);unfold im;first|(rw [jU (nY (by assumption)),zS (by assumption)];rfl)|rfl
  ·(show _=jP s);unfold jP;first|(rw [jU (nY (by assumption)),zS (by assumption)];rfl)|rfl
 ·refine⟨[1012],[],_,_,_,rfl,az,(),aa,?_,?_,rfl⟩
  ·(show _=im s);unfold im;first|(rw [jU (nY (by assumption)),vI (by assumption) (by assumption)];rfl)|rfl
  ·(show _=jP s);unfold jP;first|(rw [jU (nY (by assumption)),vI (by assumption) (by assumption)];rfl)|rfl
def gW:List Pt→Nat→ByteArray→Bool→Option (ByteArray×Bool)
 |[],_,out,sm=>some (out,sm)
 |p::l,i,out,sm=>bif aZ p then gW l (i+1) ((bif decide ((i:Int)>0) then out++⟨#[44]⟩ else out)++bc p) (sm|| !(au p)) else none
def rh (o:ByteArray) (sm:Bool):ByteArray×Bool:=bif !sm then (⟨#[]⟩,false) else (o,true)
def re (l:List Pt):ByteArray×Bool:=
 match gW l 0 ⟨#[]⟩ false with
 |none=>(⟨#[]⟩,false)
 |some (o,sm)=>rh o sm
def bE (l:List Pt):ByteArray×Bool:=bif decide ((l.length:Int)≠4) then (⟨#[]⟩,false) else re l
theorem wU {l:List Pt}(h:decide ((l.length:Int)≠4)=true):bE l=(⟨#[]⟩,false):=by unfold bE;rw [h];rfl
theorem wT {l:List Pt}(h:decide ((l.length:Int)≠4)=false):bE l=re l:=by unfold bE;rw [h];rfl
theorem pd {l:List Pt}(h:gW l 0 ⟨#[]⟩ false=none):re l=(⟨#[]⟩,false):=by unfold re;rw [h]
theorem sB {l:List Pt}{o:ByteArray}{sm:Bool}(h:gW l 0 ⟨#[]⟩ false=some (o,sm)):re l=rh o sm:=by unfold re;rw [h]
theorem C1 {o:ByteArray}{sm:Bool}(h:(!sm)=true):rh o sm=(⟨#[]⟩,false):=by unfold rh;rw [h];rfl
theorem wV {o:ByteArray}{sm:Bool}(h:(!sm)=false):rh o sm=(o,true):=by unfold rh;rw [h];rfl
theorem af7 {p:Pt}{l:List Pt}{i:Nat}{out:ByteArray}{sm:Bool}(h:(!(aZ p))=true):gW (p::l) i out sm=none:=by rw [gW,xi h];rfl
theorem FG {p:Pt}{l:List Pt}{i:Nat}{out:ByteArray}{sm:Bool}(h:(!(aZ p))=false):gW (p::l) i out sm=gW l (i+1) ((bif decide ((i:Int)>0) then out++⟨#[44]⟩ else out)++bc p) (sm|| !(au p)):=by rw [gW,cL h];rfl
theorem QB {a b:ByteArray}(ha:a.size≤1000000) (hb:b.size≤1000000):((a.size+b.size:Nat):Int)≤imax:=by
 unfold imax;omega
theorem agt (p:Pt):(bc p).size≤1000000:=ZB0 (gr p) (by omega)
def yh (l:List Pt):Prop:=True
def il (l:List Pt):AV:=.t [.s (.str (bE l).1),.s (.q (bE l).2)]
def abn (l:List Pt):List AV:=[]
def J1:cn where
 A:=[.s (.vz ae)]
 B:=[]
 pre:=fun x b=>yh x
 r:=fun x b _=>il x
 o:=fun x b _=>abn x
theorem adV:Has Tryz.prog 135 J1:=by
 refine Has.fl zT zF zF (l:=[(53,cX),(54,cx),(169,qx)]) ⟨iz,cz,IG,aa⟩ Tryz.func135 ?_
 rintro (l:List Pt) _ (hp:yh l)
 show vc _ _ _ _ (entry [.s (.vz ae l)] []) _
 refine⟨fun w1=>?_,fun w2=>?_⟩
 all_goals first|refine aw ?_|refine ax ?_|exact a8|(dsimp only [cX,dY,qx,p8];omega)|exact a7|skip
 ·refine⟨[],[],_,_,_,rfl,az,(),aa,?_,?_,rfl⟩
  ·(show _=il l);unfold il;first|(rw [wU (by assumption)];rfl)|rfl
  ·rfl
 ·have h4:l.length=4:=by have:=aA (p:=(l.length:Int)≠4) (by assumption);omega
  have hM:=wT (l:=l) (by assumption)
  refine cN (l:=[(53,cX),(54,cx),(169,qx)]) (ex:=zT) (wr:=zF) (pt:=zF) ⟨iz,cz,IG,aa⟩ [.s 0] (fun y:Nat×ByteArray×Bool=>[(.s 4,.str y.2.1),(.s 5,.s (.q y.2.2)),(.s 6,.int y.1)]) (fun y=>y.1≤4∧y.2.1.size≤65*y.1∧gW (l.drop y.1) y.1 y.2.1 y.2.2=gW l 0 ⟨#[]⟩ false) (fun y=>4-y.1) (0,⟨#[]⟩,false) [] ⟨ZA7 _,ZA7 _,rfl⟩ dL ?_
  rintro⟨i,out,sm⟩ ⟨(hi:i≤4),(ho:out.size≤65*i),(hr:gW (l.drop i) i out sm=gW l 0 ⟨#[]⟩ false)⟩
  have cm:decide ((i:Int)<(l.length:Int))=true→i<l.length:=fun h=>by have:=aJ h;omega
  have cO:i<l.length→l.drop i=nth ae l i::l.drop (i+1):=fun h=>bW (ek:=ae) h
  have dj:=gr (nth ae l i)
  have nY:decide ((i:Int)<(l.length:Int))=false→gW l 0 ⟨#[]⟩ false=some (out,sm):=fun h=>by
   have:=aA h
   rw [←hr,ZB3 (by omega)];rfl
  refine⟨fun w1=>⟨⟨?_,?_⟩,⟨⟨tv6,aa⟩,aa⟩,fun x2 w3=>⟨fun w4=>?_,fun w5=>⟨aa,fun w6=>⟨fun w7=>⟨?_,⟨?_,?_⟩,⟨⟨tv6,aa⟩,aa⟩,fun x8 w9=>⟨?_,⟨?_,?_⟩,?_⟩⟩,fun dx=>⟨⟨?_,?_⟩,⟨⟨tv6,aa⟩,aa⟩,fun ku dI=>⟨?_,⟨?_,?_⟩,?_⟩⟩⟩,fun iS=>⟨⟨?_,?_⟩,⟨⟨tv6,aa⟩,aa⟩,fun x14 qG=>⟨fun kc=>⟨?_,⟨?_,?_⟩,⟨⟨tv6,aa⟩,aa⟩,fun x17 rO=>⟨?_,⟨?_,?_⟩,?_⟩⟩,fun oH=>⟨⟨?_,?_⟩,⟨⟨tv6,aa⟩,aa⟩,fun x20 AY=>⟨?_,⟨?_,?_⟩,?_⟩⟩⟩⟩⟩⟩⟩,fun AX=>⟨fun xF=>?_,fun rN=>?_⟩⟩
  all_goals first|refine aw ?_|refine ax ?_|exact a8|(dsimp only [cX,dY,qx,p8];omega)|exact a7|(exact QB (show out.size≤1000000 by omega) (by rw [sz1];omega))|(exact QB (show (out++(⟨#[44]⟩:ByteArray)).size≤1000000 by rw [ZB2,sz1];omega) (agt _))|(exact QB (show out.size≤1000000 by omega) (agt _))|skip
  ·have e:gW l 0 ⟨#[]⟩ false=none:=by rw [←hr,cO (cm (by assumption)),af7 (by assumption)]
   refine⟨[],[],_,_,_,rfl,az,(),aa,?_,?_,rfl⟩
   ·(show _=il l);unfold il;first|(rw [hM,pd e];rfl)|rfl
   ·rfl
  ·have bU:=cm (by assumption)
   refine⟨(i+1,out++⟨#[44]⟩++bc (nth ae l i),true),[],?_,?_,?_⟩
   rotate_right
   ·exact bV
   ·refine⟨by show i+1≤4;omega,by simp only [ZB2,sz1];omega,?_⟩
    rw [←hr,cO bU,FG (by assumption),show decide ((i:Int)>0)=true by assumption,show sm=true by assumption];rfl
   ·show 4-(i+1)<4-i;omega
  ·have bU:=cm (by assumption)
   refine⟨(i+1,out++bc (nth ae l i),true),[],?_,?_,?_⟩
   rotate_right
   ·exact bV
   ·refine⟨by show i+1≤4;omega,by simp only [ZB2,sz1];omega,?_⟩
    rw [←hr,cO bU,FG (by assumption),show decide ((i:Int)>0)=false by assumption,show sm=true by assumption];rfl
   ·show 4-(i+1)<4-i;omega
  ·have bU:=cm (by assumption)
   refine⟨(i+1,out++⟨#[44]⟩++bc (nth ae l i),!(au (nth ae l i))),[],?_,?_,?_⟩
   rotate_right
   ·exact bV
   ·refine⟨by show i+1≤4;omega,by simp only [ZB2,sz1];omega,?_⟩
    rw [←hr,cO bU,FG (by assumption),show decide ((i:Int)>0)=true by assumption,show sm=false by assumption];rfl
   ·show 4-(i+1)<4-i;omega
  ·have bU:=cm (by assumption)
   refine⟨(i+1,out++bc (nth ae l i),!(au (nth ae l i))),[],?_,?_,?_⟩
   rotate_right
   ·exact bV
   ·refine⟨by show i+1≤4;omega,by simp only [ZB2,sz1];omega,?_⟩
    rw [←hr,cO bU,FG (by assumption),show decide ((i:Int)>0)=false by assumption,show sm=false by assumption];rfl
   ·show 4-(i+1)<4-i;omega
  ·refine⟨[],[],_,_,_,rfl,az,(),aa,?_,?_,rfl⟩
   ·(show _=il l);unfold il;first|(rw [hM,sB (nY (by assumption)),C1 (by assumption)];rfl)|rfl
   ·rfl
  ·refine⟨[],[],_,_,_,rfl,az,(),aa,?_,?_,rfl⟩
   ·(show _=il l);unfold il;first|(rw [hM,sB (nY (by assumption)),wV (by assumption)];rfl)|rfl
   ·rfl
end GL
namespace GL
def dA:List ByteArray→ByteArray→ByteArray×Bool
 |[],out=>(out,true)
 |x::l,out=>bif decide ((x.size:Int)>2048) then (⟨#[]⟩,false) else
  bif decide (((out++bX x.size++⟨#[58]⟩++x).size:Int)>2048) then (⟨#[]⟩,false) else dA l (out++bX x.size++⟨#[58]⟩++x)
def cE (l:List ByteArray):ByteArray×Bool:=bif decide ((l.length:Int)≤60) then dA l ⟨#[]⟩ else (⟨#[]⟩,false)
theorem gD {l:List ByteArray}(h:decide ((l.length:Int)≤60)=true):cE l=dA l ⟨#[]⟩:=by unfold cE;rw [h];rfl
theorem tL {l:List ByteArray}(h:decide ((l.length:Int)≤60)=false):cE l=(⟨#[]⟩,false):=by unfold cE;rw [h];rfl
theorem MU {x:ByteArray}{l:List ByteArray}{out:ByteArray}(h:decide ((x.size:Int)>2048)=true):dA (x::l) out=(⟨#[]⟩,false):=by rw [dA,h];rfl
theorem MT {x:ByteArray}{l:List ByteArray}{out:ByteArray}(h:decide (((out++bX x.size++⟨#[58]⟩++x).size:Int)>2048)=true):dA (x::l) out=(⟨#[]⟩,false):=by
 rw [dA,h];cases decide ((x.size:Int)>2048)<;>rfl
theorem MS {x:ByteArray}{l:List ByteArray}{out:ByteArray}(h:decide ((x.size:Int)>2048)=false) (h2:decide (((out++bX x.size++⟨#[58]⟩++x).size:Int)>2048)=false):dA (x::l) out=dA l (out++bX x.size++⟨#[58]⟩++x):=by rw [dA,h,h2];rfl
def ki (l:List ByteArray):Prop:=True
def eV (l:List ByteArray):AV:=.t [.s (.str (cE l).1),.s (.q (cE l).2)]
def OM (l:List ByteArray):List AV:=[]
def jE:cn where
 A:=[.s (.vz ab)]
 B:=[]
 pre:=fun x b=>ki x
 r:=fun x b _=>eV x
 o:=fun x b _=>OM x
theorem vu:Has Tryz.prog 165 jE:=by
 refine Has.fl zT zF zF (l:=[(168,j1)]) ⟨wN,aa⟩ Tryz.func165 ?_
 rintro (l:List ByteArray) _ (hp:ki l)
 show vc _ _ _ _ (entry [.s (.vz ab l)] []) _
 refine cN (l:=[(168,j1)]) (ex:=zT) (wr:=zF) (pt:=zF) ⟨wN,aa⟩ [.s 0] (fun y:Nat×ByteArray=>[(.s 4,.str y.2),(.s 5,.int y.1)]) (fun y=>y.1≤l.length∧y.2.size≤2048∧(l.length≤60→dA (l.drop y.1) y.2=dA l ⟨#[]⟩)∧(60<l.length→y.1=0∧y.2=⟨#[]⟩)) (fun y=>l.length-y.1) (0,⟨#[]⟩) [] ⟨ZA7 _,ZA7 _,fun _=>rfl,fun _=>⟨rfl,rfl⟩⟩ dL ?_
 rintro⟨i,out⟩ ⟨(hi:i≤l.length),(ho:out.size≤2048),(hr:l.length≤60→dA (l.drop i) out=dA l ⟨#[]⟩),(h0:60<l.length→i=0∧out=⟨#[]⟩)⟩
 have cm:decide ((i:Int)<(l.length:Int))=true→i<l.length:=fun h=>by have:=aJ h;omega
 have h60:decide ((l.length:Int)≤60)=true→l.length≤60:=fun h=>by have:=aJ h;omega
 have cO:i<l.length→l.drop i=nth ab l i::l.drop (i+1):=fun h=>bW (ek:=ab) h
 have hsm:decide (((nth ab l i).size:Int)>2048)=false→(nth ab l i).size≤2048∧(bX ((nth ab l i).size:Int)).size≤12:=fun h=>by
  have:=aA h
  exact⟨by omega,db (by omega)⟩
 refine⟨aa,fun w1=>⟨fun w2=>⟨⟨?_,?_⟩,fun w3=>?_,fun w4=>⟨Sq4,Sq23,rfl,Sq0,Sq24,rfl,Sq5,Sq25,rfl,[.s 24,.s 25],Sq26,rfl,⟨?_,?_⟩,Sq26,Sq27,rfl,Sq27,Sq28,rfl,Sq28,Sq29,rfl,⟨tv2,?_,?_⟩,?_,fun x5 w6=>⟨[.s 23,.s 29],Sq30,rfl,?_,Sq30,Sq31,rfl,?_,Sq0,Sq32,rfl,Sq5,Sq33,rfl,[.s 32,.s 33],Sq34,rfl,⟨?_,?_⟩,Sq34,Sq35,rfl,[.s 31,.s 35],Sq36,rfl,?_,Sq36,Sq4,rfl,fun w7=>?_,fun w8=>⟨⟨?_,?_⟩,?_⟩⟩⟩⟩,fun w9=>?_⟩,fun dx=>?_⟩
 all_goals first|refine aw ?_|refine ax ?_|exact a8|(dsimp only [j1,mG];omega)|exact a7|(have:=hsm (by assumption);exact QB (show (out++bX ((nth ab l i).size:Int)).size≤1000000 by rw [ZB2];omega) (by rw [sz1];omega))|(have:=hsm (by assumption);exact QB (show (out++bX ((nth ab l i).size:Int)++(⟨#[58]⟩:ByteArray)).size≤1000000 by rw [ZB2,ZB2,sz1];omega) (show (nth ab l i).size≤1000000 by omega))|skip
 ·have e:dA l ⟨#[]⟩=(⟨#[]⟩,false):=by rw [←hr (h60 (by assumption)),cO (cm (by assumption)),MU (by assumption)]
  refine⟨[],[],_,_,_,rfl,az,(),aa,?_,?_,rfl⟩
  ·(show _=eV l);unfold eV;first|(rw [gD (by assumption),e];rfl)|rfl
  ·rfl
 ·have e:dA l ⟨#[]⟩=(⟨#[]⟩,false):=by rw [←hr (h60 (by assumption)),cO (cm (by assumption)),MT (by assumption)]
  refine⟨[],[],_,_,_,rfl,az,(),aa,?_,?_,rfl⟩
  ·(show _=eV l);unfold eV;first|(rw [gD (by assumption),e];rfl)|rfl
  ·rfl
 ·have bU:=cm (by assumption)
  have h6:=h60 (by assumption)
  have hs2:¬(((out++bX ((nth ab l i).size:Int)++(⟨#[58]⟩:ByteArray)++nth ab l i).size:Int)>2048):=aA (by assumption)
  refine⟨(i+1,out++bX ((nth ab l i).size:Int)++⟨#[58]⟩++nth ab l i),[],?_,?_,?_⟩
  rotate_right
  ·exact bV
  ·refine⟨bU,Int.ofNat_le.1 (ZG8.1 hs2),fun h=>?_,fun h=>absurd h6 (by omega)⟩
   rw [←hr h,cO bU,MS (by assumption) (by assumption)]
  ·show l.length-(i+1)<l.length-i;omega
 ·have hd:decide ((l.length:Int)≤60)=false:=by assumption
  obtain⟨rfl,rfl⟩:=h0 (by have:=aA hd;omega)
  refine⟨[],[],_,_,_,rfl,az,(),aa,?_,?_,rfl⟩
  ·(show _=eV l);unfold eV;first|((rw [tL hd];show AV.t [_,A0.s (SV.q (decide ((l.length:Int)≤60)))]=_;rw [hd];rfl))|rfl
  ·rfl
 ·have FF:¬i<l.length:=by have:=aA (p:=(i:Int)<(l.length:Int)) (by assumption);omega
  have h6:l.length≤60:=by
   by_cases h:l.length≤60
   ·exact h
   ·obtain⟨h1,_⟩:=h0 (by omega);omega
  have hd:decide ((l.length:Int)≤60)=true:=decide_eq_true (by omega)
  have e:cE l=(out,true):=by rw [gD hd,←hr h6,ZB3 (by omega)];rfl
  refine⟨[],[],_,_,_,rfl,az,(),aa,?_,?_,rfl⟩
  ·(show _=eV l);unfold eV;first|((rw [e];show AV.t [_,A0.s (SV.q (decide ((l.length:Int)≤60)))]=_;rw [hd];rfl))|rfl
  ·rfl
end GL
end Go.Proofs.YtclcgjhhehbdeaaGreatDoor
