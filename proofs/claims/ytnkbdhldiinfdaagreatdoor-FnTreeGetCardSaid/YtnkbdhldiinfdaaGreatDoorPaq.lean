/- A drawn law returns true for every code (its row lists package variables, tied by the card): part 17. -/
import Derived.Test.YtnkbdhldiinfdaaGreatDoorPap
set_option maxHeartbeats 20000000
set_option maxRecDepth 100000
set_option linter.all false
namespace Go.Proofs.YtnkbdhldiinfdaaGreatDoor
namespace GL
theorem fP {b sz n m:Nat}(h:n=m):some (AV.s (.xs b sz 0 n))=some (AV.s (.xs b sz 0 m)):=by rw [h]
theorem oP {b sz:Nat}{α:Type}{l:List α}{x:α}:some (AV.s (.xs b sz 0 (l.length+1)))=some (AV.s (.xs b sz 0 (l++[x]).length)):=by rw [ZA0];rfl
theorem bV {P:Prop}(h:P:=by repeat' (first|exact trivial|rfl|exact rfl|exact fP List.length_append.symm|exact oP|apply And.intro)):P:=h
theorem dM {P:Prop}(h:P:=by repeat' (first|exact trivial|rfl|exact rfl|exact fP (Nat.zero_add _)|apply And.intro)):P:=h
theorem bW {ek:EK}{l:List (EK.Ty ek)}{i:Nat}(h:i<l.length):l.drop i=nth ek l i::l.drop (i+1):=by
 rw [List.drop_eq_getElem_cons h]
 congr 1
 have:=oD h
 rw [ZB1 h] at this
 exact ZG8 this
theorem ajI {α:Type}{l:List α}{i:Nat}(h:¬(i:Int)<(l.length:Int)):l.drop i=[]:=ZB3 (by omega)
def C9 (s:ByteArray) (k:Nat):Bool:=decide ((k:Int)<s.size)&&(decide ((k:Int)<9)&&(decide (bL s k≥48)&&decide (bL s k≤57)))
def iN (s:ByteArray):Nat→Int
 |0=>0
 |k+1=>10*iN s k+(bL s k-48)
def sA:Nat→ByteArray→Nat→Nat
 |0,_,k=>k
 |f+1,s,k=>bif C9 s k then sA f s (k+1) else k
def cW (s:ByteArray):Nat:=sA 9 s 0
def CN (s:ByteArray):Int×Int:=bif decide ((cW s:Int)>1)&&decide (bL s 0=48) then (0,1) else (iN s (cW s),cW s)
theorem S2 {s:ByteArray}{k:Nat}(hk:k≤9) (hd:C9 s k=false) (hl:sA (9-k) s k=cW s):cW s=k:=by
 rw [←hl]
 by_cases h:k=9
 ·subst h;rfl
 ·rw [show 9-k=(8-k)+1 by omega,sA,hd];rfl
theorem SF {s:ByteArray}{k:Nat}(h1:iN s k<(10:Int) ^ k) (hk:k≤8):iN s k≤99999999:=by
 have:(10:Int) ^ k≤10 ^ 8:=by exact_mod_cast Nat.pow_le_pow_right (by omega) hk
 omega
theorem ai4 {s:ByteArray}{k:Nat}(e:cW s=k) (h1:decide ((k:Int)>1)=true) (h2:decide (bL s 0=48)=true):CN s=(0,1):=by
 unfold CN;rw [e,h1,h2];rfl
theorem agM {s:ByteArray}{k:Nat}(e:cW s=k) (h1:decide ((k:Int)>1)=false):CN s=(iN s k,(k:Int)):=by
 unfold CN;rw [e,h1];rfl
theorem agL {s:ByteArray}{k:Nat}(e:cW s=k) (h2:decide (bL s 0=48)=false):CN s=(iN s k,(k:Int)):=by
 unfold CN;rw [e,h2,ZD7];rfl
theorem ag3 {s:ByteArray}{k:Nat}(h:decide ((k:Int)<s.size)=false):C9 s k=false:=by unfold C9;rw [h];rfl
theorem ajN {s:ByteArray}{k:Nat}(h:decide ((k:Int)<9)=false):C9 s k=false:=by unfold C9;rw [h,Bool.false_and,ZD7]
theorem ajM {s:ByteArray}{k:Nat}(h:decide (bL s ((k:Int).toNat)≥48)=false):C9 s k=false:=by
 have h:decide (bL s k≥48)=false:=h
 unfold C9;rw [h,Bool.false_and,ZD7,ZD7]
theorem ajL {s:ByteArray}{k:Nat}(h:decide (bL s ((k:Int).toNat)≤57)=false):C9 s k=false:=by
 have h:decide (bL s k≤57)=false:=h
 unfold C9;rw [h,ZD7,ZD7,ZD7]
def k7 (s:ByteArray):Prop:=(s.size:Int)≤1000000000000
def BG (s:ByteArray):AV:=.t [.s (.int (CN s).1),.s (.int (CN s).2)]
def ac6 (s:ByteArray):List AV:=[]
def tZ:cn where
 A:=[.s .str]
 B:=[]
 pre:=fun x b=>k7 x
 r:=fun x b _=>BG x
 o:=fun x b _=>ac6 x
theorem PA:Has Tryz.prog 166 tZ:=by
 refine Has.fm zT zF zF (l:=[]) trivial Tryz.func166 ?_
 rintro (s:ByteArray) _ (hp:k7 s)
 show vc _ _ _ _ (entry [.str s] []) _
 unfold k7 at hp
 refine cN (l:=[]) (ex:=zT) (wr:=zF) (pt:=zF) trivial [.s 0] (fun k:Nat=>[(.s 4,.int (iN s k)),(.s 5,.int k)]) (fun k=>k≤9∧k≤s.size∧(0≤iN s k∧iN s k<(10:Int) ^ k)∧sA (9-k) s k=cW s) (fun k=>9-k) 0 [] ⟨by omega,ZA7 _,⟨ZC1 _,by show (0:Int)<1;omega⟩,rfl⟩ ⟨⟨rfl,rfl,trivial⟩,⟨rfl,trivial⟩⟩ ?_
 rintro k ⟨hk,hks,⟨hn0,hn1⟩,hl⟩
 have hb:=xf s k
 have hsm:=SF hn1
 refine⟨aa,fun w1=>⟨aa,fun w2=>⟨⟨?_,?_⟩,aa,fun w3=>⟨⟨?_,?_⟩,fun w4=>⟨⟨?_,?_⟩,⟨?_,?_⟩,⟨?_,?_⟩,⟨?_,?_⟩,⟨?_,?_⟩,⟨?_,?_⟩,?_⟩,fun w5=>⟨aa,fun w6=>⟨⟨?_,?_⟩,fun w7=>?_,fun w8=>?_⟩,fun w9=>?_⟩⟩,fun dy=>⟨aa,fun kA=>⟨⟨?_,?_⟩,fun dJ=>?_,fun iU=>?_⟩,fun gO=>?_⟩⟩,fun qK=>⟨aa,fun kg=>⟨⟨?_,?_⟩,fun xh=>?_,fun rS=>?_⟩,fun oL=>?_⟩⟩,fun uI=>⟨aa,fun A4=>⟨⟨?_,?_⟩,fun A3=>?_,fun xK=>?_⟩,fun rR=>?_⟩⟩
 all_goals first|refine aw ?_|refine ax ?_|exact a8|exact a7|skip
 ·have h4:C9 s k=true:=by unfold C9;rw [w1,w2,show decide (bL s k≥48)=true from w3,show decide (bL s k≤57)=true from w4];rfl
  have h2:=aJ w2
  have h5:bL s k≥48:=aJ w3
  have h6:bL s k≤57:=aJ w4
  refine⟨(k+1),[],?_,?_,?_⟩
  rotate_right
  ·exact bV
  ·refine⟨by omega,by have:=aJ w1;omega,⟨?_,?_⟩,?_⟩
   ·show 0≤10*iN s k+(bL s k-48);omega
   ·show 10*iN s k+(bL s k-48)<_;rw [Int.pow_succ];omega
   ·rw [←hl,show 9-k=(9-(k+1))+1 by omega,sA,h4];rfl
  ·show 9-(k+1)<9-k;omega
 all_goals
  have e:cW s=k:=S2 hk (by first|exact ag3 (by assumption)|exact ajN (by assumption)|exact ajM (by assumption)|exact ajL (by assumption)) hl
  refine⟨[],[],_,_,_,rfl,az,(),aa,?_,?_,rfl⟩
  ·(show _=BG s);unfold BG;first|(rw [agM e (by assumption)];rfl)|(rw [ai4 e (by assumption) (by assumption)];rfl)|(rw [agL e (by assumption)];rfl)|rfl
  ·rfl
def aD (s:ByteArray):Int×Bool:=bif decide ((CN s).2=0)||decide ((CN s).2≠(s.size:Int)) then (0,false) else ((CN s).1,true)
def gI (s:ByteArray):Prop:=(s.size:Int)≤1000000000000
def ya (s:ByteArray):AV:=.t [.s (.int (aD s).1),.s (.q (aD s).2)]
def abr (s:ByteArray):List AV:=[]
def jF:cn where
 A:=[.s .str]
 B:=[]
 pre:=fun x b=>gI x
 r:=fun x b _=>ya x
 o:=fun x b _=>abr x
theorem vA:Has Tryz.prog 122 jF:=by
 refine Has.fm zT zF zF (l:=[(166,tZ)]) ⟨PA,aa⟩ Tryz.func122 ?_
 rintro (s:ByteArray) _ (hp:gI s)
 show vc _ _ _ _ (entry [.str s] []) _
 unfold gI at hp
 refine⟨⟨tv2,?_⟩,fun x1 w2=>⟨aa,fun w3=>?_,fun w4=>⟨fun w5=>?_,fun w6=>?_⟩⟩⟩
 all_goals first|refine aw ?_|refine ax ?_|exact a8|(dsimp only [tZ,k7];omega)|exact a7|skip
 all_goals
  refine⟨[],[],_,_,_,rfl,az,(),aa,?_,?_,rfl⟩
  ·(show _=ya s);unfold ya;first|((simp only [aD, *];rfl))|rfl
  ·rfl
def iZ (s:ByteArray) (c:Int):Nat→List ByteArray×Nat
 |0=>([],0)
 |k+1=>bif decide (bL s k=c) then ((iZ s c k).1++[s.extract (iZ s c k).2 k],k+1) else iZ s c k
def bm (s:ByteArray) (c:Int):List ByteArray:=(iZ s c s.size).1++[s.extract (iZ s c s.size).2 s.size]
theorem JQ (s:ByteArray) (c:Int):∀k,(iZ s c k).1.length≤k∧(iZ s c k).2≤k
 |0=>⟨ZB5 _,ZB5 _⟩
 |k+1=>by
  have:=JQ s c k
  unfold iZ
  cases decide (bL s k=c) with
  |true=>simp only [cond_true,ZA0,ZA1,ZA4];omega
  |false=>simp only [cond_false];omega
theorem tW (s:ByteArray) (c:Int):1≤(bm s c).length∧(bm s c).length≤s.size+1:=by
 have:=JQ s c s.size
 simp only [bm,ZA0,ZA1,ZA4]
 omega
theorem JP {s:ByteArray}{c:Int}:∀{k:Nat},∀x∈(iZ s c k).1,x.size≤s.size
 |0,x,h=>by cases h
 |k+1,x,h=>by
  unfold iZ at h
  cases hd:decide (bL s k=c) with
  |true=>
   rw [hd,cond_true,ZB4] at h
   rcases h with h |h
   ·exact JP x h
   ·simp only [ZB8,ZF6,or_false] at h
    subst h
    rw [ZC5];omega
  |false=>rw [hd,cond_false] at h;exact JP x h
theorem oX {s:ByteArray}{c:Int}:∀x∈bm s c,x.size≤s.size:=by
 intro x h
 rw [bm,ZB4] at h
 rcases h with h |h
 ·exact JP x h
 ·simp only [ZB8,ZF6,or_false] at h
  subst h
  rw [ZC5];omega
def iQ (s:ByteArray) (c:Int):Prop:=s.size≤1000000
def BF (s:ByteArray) (c:Int):AV:=.s (.xs 0 1 0 (bm s c).length)
def HI (s:ByteArray) (c:Int):List AV:=[.rs ab (bm s c)]
def iD:cn where
 A:=[.s .str,.s .byte]
 B:=[]
 pre:=fun x b=>iQ (x.1) (x.2)
 r:=fun x b _=>BF (x.1) (x.2)
 o:=fun x b _=>HI (x.1) (x.2)
 nf:=1
theorem tG:Has Tryz.prog 167 iD:=by
 refine Has.fm zT zF zF (l:=[]) trivial Tryz.func167 ?_
 rintro⟨(s:ByteArray),(c:Int)⟩ _ (hp:iQ s c)
 show vc _ _ _ _ (entry [.str s,.byte c] []) _
 unfold iQ at hp
 refine⟨aa,?_⟩
 all_goals first|refine aw ?_|refine ax ?_|exact a8|exact a7|skip
 refine cN (l:=[]) (ex:=zT) (wr:=zF) (pt:=zF) trivial [.s 0,.s 1] (fun y:Nat×List ByteArray×Nat=>[(.s 5,.s (.xs 1008 1 0 y.2.1.length)),(.s 6,.int y.2.2),(.s 7,.int y.1),(.b 1008,.rs ab y.2.1)]) (fun y=>y.1≤s.size∧iZ s c y.1=y.2) (fun y=>s.size-y.1) (0,[],0) [] ⟨ZA7 _,rfl⟩ dM ?_
 rintro⟨k,out,fr⟩ ⟨(hk:k≤s.size),(he:iZ s c k=(out,fr))⟩
 have hbd:=JQ s c k
 rw [he] at hbd
 obtain⟨(hb1:out.length≤k),(hb2:fr≤k)⟩:=hbd
 refine⟨fun w1=>⟨⟨?_,?_⟩,fun w2=>⟨⟨?_,?_,?_⟩,aa,⟨⟨?_,?_⟩,?_,?_⟩,⟨?_,?_⟩,⟨?_,?_⟩,?_⟩,fun w3=>⟨⟨?_,?_⟩,?_⟩⟩,fun w4=>⟨⟨?_,?_,?_⟩,aa,⟨⟨?_,?_⟩,?_,?_⟩,?_⟩⟩
 all_goals first|refine aw ?_|refine ax ?_|exact a8|exact a7|skip
 ·have e:iZ s c (k+1)=(out++[s.extract fr k],k+1):=by
   rw [iZ,show decide (bL s k=c)=true by assumption,he];rfl
  refine⟨(k+1,out++[s.extract fr k],k+1),[(1008,1026)],?_,?_,?_⟩
  rotate_right
  ·exact bV
  ·exact⟨by have:=aJ (p:=(k:Int)<s.size) (by assumption);omega,e⟩
  ·show s.size-(k+1)<s.size-k
   have:=aJ (p:=(k:Int)<s.size) (by assumption);omega
 ·have e:iZ s c (k+1)=(out,fr):=by
   rw [iZ,show decide (bL s k=c)=false by assumption,he];rfl
  refine⟨(k+1,out,fr),[],?_,?_,?_⟩
  rotate_right
  ·exact bV
  ·exact⟨by have:=aJ (p:=(k:Int)<s.size) (by assumption);omega,e⟩
  ·show s.size-(k+1)<s.size-k
   have:=aJ (p:=(k:Int)<s.size) (by assumption);omega
 ·have hk':k=s.size:=by have:=aA (p:=(k:Int)<s.size) (by assumption);omega
  subst hk'
  have e:bm s c=out++[s.extract fr s.size]:=by rw [bm,he]
  refine⟨[1034],[],_,_,_,rfl,az,(),aa,?_,?_,rfl⟩
  ·(show _=BF s c);unfold BF;first|(rw [e,ZA0];rfl)|(rw [e];rfl)|rfl
  ·(show _=HI s c);unfold HI;first|(rw [e,ZA0];rfl)|(rw [e];rfl)|rfl
end GL
namespace GL
def lg:List ByteArray→List Int→Option (List Int)
 |[],acc=>some acc
 |t::l,acc=>bif (aD t).2 then lg l (acc++[(aD t).1]) else none
def lH (n:List Int):Pt:=(nth ag n 0,nth ag n 1,nth ag n 2,nth ag n 3,nth ag n 4)
def pU (n:List Int):Pt×Bool:=bif !(aZ (lH n))||au (lH n) then (bM,false) else (lH n,true)
def qW (w:List ByteArray):Pt×Bool:=
 match lg w [] with
 |none=>(bM,false)
 |some n=>pU n
def bP (s:ByteArray):Pt×Bool:=
 bif decide (s=⟨#[45]⟩) then (bM,true) else
 bif decide (((bm s 46).length:Int)≠5) then (bM,false) else qW (bm s 46)
theorem wD {s:ByteArray}(h:decide (s=⟨#[45]⟩)=true):bP s=(bM,true):=by unfold bP;rw [h];rfl
theorem B0 {s:ByteArray}(h:decide (s=⟨#[45]⟩)=false) (h2:decide (((bm s 46).length:Int)≠5)=true):bP s=(bM,false):=by unfold bP;rw [h,h2];rfl
theorem sa {s:ByteArray}(h:decide (s=⟨#[45]⟩)=false) (h2:decide (((bm s 46).length:Int)≠5)=false):bP s=qW (bm s 46):=by unfold bP;rw [h,h2];rfl
theorem BZ {w:List ByteArray}(h:lg w []=none):qW w=(bM,false):=by unfold qW;rw [h]
theorem BY {w:List ByteArray}{n:List Int}(h:lg w []=some n):qW w=pU n:=by unfold qW;rw [h]
theorem RP {n:List Int}(h:(!(aZ (lH n)))=true):pU n=(bM,false):=by unfold pU;rw [h];rfl
theorem RO {n:List Int}(h:au (lH n)=true):pU n=(bM,false):=by unfold pU;rw [h,ZC4];rfl
theorem G6 {n:List Int}(h:(!(aZ (lH n)))=false) (h2:au (lH n)=false):pU n=(lH n,true):=by unfold pU;rw [h,h2];rfl
def mN (s:ByteArray):Prop:=s.size≤1000000
def eM (s:ByteArray):AV:=.t [ptA (bP s).1,.s (.q (bP s).2)]
def abp (s:ByteArray):List AV:=[]
def qD:cn where
 A:=[.s .str]
 B:=[]
 pre:=fun x b=>mN x
 r:=fun x b _=>eM x
 o:=fun x b _=>abp x
theorem IN:Has Tryz.prog 123 qD:=by
 refine Has.fm zT zF zF (l:=[(122,jF),(167,iD),(80,cX),(81,cx)]) ⟨vA,tG,iB,cz,aa⟩ Tryz.func123 ?_
 rintro (s:ByteArray) _ (hp:mN s)
 show vc _ _ _ _ (entry [.str s] []) _
 unfold mN at hp
 have TP:=tW s 46
 refine⟨fun w1=>?_,fun w2=>⟨⟨tv3,?_⟩,fun x3 w4=>⟨fun w5=>?_,fun w6=>⟨aa,?_⟩⟩⟩⟩
 all_goals first|refine aw ?_|refine ax ?_|exact a8|(dsimp only [jF,gI,iD,iQ,cX,dZ];omega)|exact a7|skip
 ·refine⟨[],[],_,_,_,rfl,az,(),aa,?_,?_,rfl⟩
  ·(show _=eM s);unfold eM;first|(rw [wD (by assumption)];rfl)|rfl
  ·rfl
 ·refine⟨[],[],_,_,_,rfl,az,(),aa,?_,?_,rfl⟩
  ·(show _=eM s);unfold eM;first|(rw [B0 (by assumption) (by assumption)];rfl)|rfl
  ·rfl
 ·have h5:(bm s 46).length=5:=by have:=aA (p:=((bm s 46).length:Int)≠5) (by assumption);omega
  have hM:=sa (s:=s) (by assumption) (by assumption)
  refine cN (l:=[(122,jF),(167,iD),(80,cX),(81,cx)]) (ex:=zT) (wr:=zF) (pt:=zF) ⟨vA,tG,iB,cz,aa⟩ [.s 0,.s 2,.s 4,.b 1002,.b 150000] (fun y:Nat×List Int=>[(.s 5,.s (.xs 1019 1 0 y.2.length)),(.s 6,.int y.1),(.b 1019,.rs ag y.2)]) (fun y=>y.1≤5∧y.2.length=y.1∧lg ((bm s 46).drop y.1) y.2=lg (bm s 46) []) (fun y=>5-y.1) (0,[]) [] ⟨ZA7 _,rfl,rfl⟩ dM ?_
  rintro⟨i,n⟩ ⟨(hi:i≤5),(hl:n.length=i),(hr:lg ((bm s 46).drop i) n=lg (bm s 46) [])⟩
  have dj:i<5→(nth ab (bm s 46) i).size≤1000000:=fun h=>ZB0 (oX (s:=s) (c:=46) _ (bR (ek:=ab) (by omega))) hp
  have cO:i<5→(bm s 46).drop i=nth ab (bm s 46) i::(bm s 46).drop (i+1):=fun h=>bW (ek:=ab) (by omega)
  refine⟨fun w1=>⟨⟨?_,?_⟩,?_,⟨tv2,?_⟩,fun x2 w3=>⟨fun w4=>?_,fun w5=>⟨aa,⟨⟨?_,?_⟩,?_,?_⟩,⟨?_,?_⟩,?_⟩⟩⟩,fun w6=>⟨Sq5,Sq39,rfl,Sq39,Sq40,rfl,⟨?_,?_⟩,[.s 40,.b 1019],Sq41,rfl,?_,Sq5,Sq42,rfl,Sq42,Sq43,rfl,⟨?_,?_⟩,[.s 43,.b 1019],Sq44,rfl,?_,Sq5,Sq45,rfl,Sq45,Sq46,rfl,⟨?_,?_⟩,[.s 46,.b 1019],Sq47,rfl,?_,Sq5,Sq48,rfl,Sq48,Sq49,rfl,⟨?_,?_⟩,[.s 49,.b 1019],Sq50,rfl,?_,Sq5,Sq51,rfl,Sq51,Sq52,rfl,⟨?_,?_⟩,[.s 52,.b 1019],Sq53,rfl,?_,[.s 41,.s 44,.s 47,.s 50,.s 53],Sq54,rfl,[.b 1009],[.s 9,.b 1009],rfl,[.s 9,.s 54,.b 1009],[.b 1009],rfl,⟨⟨tv6,aa⟩,aa⟩,fun x7 w8=>⟨aa,fun w9=>?_,fun dy=>⟨⟨⟨tv6,aa⟩,aa⟩,fun kz dJ=>⟨fun iU=>?_,fun gO=>?_⟩⟩⟩⟩⟩
  all_goals first|refine aw ?_|refine ax ?_|exact a8|(dsimp only [jF,gI,iD,iQ,cX,dZ];omega)|exact a7|(have:=dj (by have:=aJ (p:=(i:Int)<5) (by assumption);omega);show ((nth ab (bm s 46) i).size:Int)≤1000000000000;omega)|skip
  ·have bU:i<5:=by have:=aJ (p:=(i:Int)<5) (by assumption);omega
   have e:lg (bm s 46) []=none:=by rw [←hr,cO bU,lg,show (aD (nth ab (bm s 46) i)).2=false from xm (by assumption)];rfl
   refine⟨[],[],_,_,_,rfl,az,(),aa,?_,?_,rfl⟩
   ·(show _=eM s);unfold eM;first|(rw [hM,BZ e];rfl)|rfl
   ·rfl
  ·have bU:i<5:=by have:=aJ (p:=(i:Int)<5) (by assumption);omega
   refine⟨(i+1,n++[(aD (nth ab (bm s 46) i)).1]),[(1019,1038)],?_,?_,?_⟩
   rotate_right
   ·exact bV
   ·refine⟨bU,by show List.length (_++_)=_;rw [ZA0,hl];rfl,?_⟩
    rw [←hr,cO bU,lg,show (aD (nth ab (bm s 46) i)).2=true from cL (by assumption)];rfl
   ·show 5-(i+1)<5-i;omega
  all_goals
   have hi5:i=5:=by have:=aA (p:=(i:Int)<5) (by assumption);omega
   have e:lg (bm s 46) []=some n:=by rw [←hr,ZB3 (by omega)];rfl
   rw [BY e] at hM
  ·rw [RP (by assumption)] at hM
   refine⟨[],[],_,_,_,rfl,az,(),aa,?_,?_,rfl⟩
   ·(show _=eM s);unfold eM;first|(rw [hM];rfl)|rfl
   ·rfl
  ·rw [RO (by assumption)] at hM
   refine⟨[],[],_,_,_,rfl,az,(),aa,?_,?_,rfl⟩
   ·(show _=eM s);unfold eM;first|(rw [hM];rfl)|rfl
   ·rfl
  ·rw [G6 (by assumption) (by assumption)] at hM
   refine⟨[],[],_,_,_,rfl,az,(),aa,?_,?_,rfl⟩
   ·(show _=eM s);unfold eM;first|(rw [hM];rfl)|rfl
   ·rfl
end GL
namespace GL
def oh:List ByteArray→List Pt→Bool→Option (List Pt×Bool)
 |[],out,sm=>some (out,sm)
 |t::l,out,sm=>bif (bP t).2 then oh l (out++[(bP t).1]) (sm|| !(au (bP t).1)) else none
def l8 (o:List Pt) (sm:Bool):List Pt×Bool:=bif decide ((o.length:Int)≠4)|| !sm then ([],false) else (o,true)
def bl (s:ByteArray):List Pt×Bool:=
 match oh (bm s 44) [] false with
 |none=>([],false)
 |some (o,sm)=>l8 o sm
theorem w0 {s:ByteArray}(h:oh (bm s 44) [] false=none):bl s=([],false):=by unfold bl;rw [h]
theorem jX {s:ByteArray}{o:List Pt}{sm:Bool}(h:oh (bm s 44) [] false=some (o,sm)):bl s=l8 o sm:=by unfold bl;rw [h]
theorem zZ {o:List Pt}{sm:Bool}(h:decide ((o.length:Int)≠4)=true):l8 o sm=([],false):=by unfold l8;rw [h];rfl
theorem zY {o:List Pt}{sm:Bool}(h:(!sm)=true):l8 o sm=([],false):=by unfold l8;rw [h,ZC4];rfl
theorem vM {o:List Pt}{sm:Bool}(h:decide ((o.length:Int)≠4)=false) (h2:(!sm)=false):l8 o sm=(o,true):=by unfold l8;rw [h,h2];rfl
theorem aeD {t:ByteArray}{l:List ByteArray}{out:List Pt}{sm:Bool}(h:(!(bP t).2)=false):oh (t::l) out sm=oh l (out++[(bP t).1]) (sm|| !(au (bP t).1)):=by rw [oh,cL h];rfl
theorem ah0 {t:ByteArray}{l:List ByteArray}{out:List Pt}{sm:Bool}(h:(!(bP t).2)=true):oh (t::l) out sm=none:=by rw [oh,xm h];rfl
def qg (s:ByteArray):Prop:=s.size≤1000000
def ir (s:ByteArray):AV:=.t [.s (.xs 0 5 0 (bl s).1.length),.s (.q (bl s).2)]
def jS (s:ByteArray):List AV:=[.rs ae (bl s).1]
def vY:cn where
 A:=[.s .str]
 B:=[]
 pre:=fun x b=>qg x
 r:=fun x b _=>ir x
 o:=fun x b _=>jS x
 nf:=1
theorem TH:Has Tryz.prog 195 vY:=by
 refine Has.fm zT zF zF (l:=[(167,iD),(123,qD),(81,cx)]) ⟨tG,IN,cz,aa⟩ Tryz.func195 ?_
 rintro (s:ByteArray) _ (hp:qg s)
 show vc _ _ _ _ (entry [.str s] []) _
 unfold qg at hp
 have TP:=tW s 44
 refine⟨⟨tv3,?_⟩,fun x1 w2=>⟨aa,?_⟩⟩
 all_goals first|refine aw ?_|refine ax ?_|exact a8|(dsimp only [iD,iQ,qD,mN];omega)|exact a7|skip
 refine cN (l:=[(167,iD),(123,qD),(81,cx)]) (ex:=zT) (wr:=zF) (pt:=zF) ⟨tG,IN,cz,aa⟩ [.s 0,.s 4,.b 120000] (fun y:Nat×List Pt×Bool=>[(.s 5,.s (.xs 1012 5 0 y.2.1.length)),(.s 6,.s (.q y.2.2)),(.s 7,.int y.1),(.b 1012,.rs ae y.2.1)]) (fun y=>y.1≤(bm s 44).length∧y.2.1.length=y.1∧oh ((bm s 44).drop y.1) y.2.1 y.2.2=oh (bm s 44) [] false) (fun y=>(bm s 44).length-y.1) (0,[],false) [] ⟨ZA7 _,rfl,rfl⟩ dM ?_
 rintro⟨i,out,sm⟩ ⟨(hi:i≤(bm s 44).length),(hl:out.length=i),(hr:oh ((bm s 44).drop i) out sm=oh (bm s 44) [] false)⟩
 have dj:i<(bm s 44).length→(nth ab (bm s 44) i).size≤1000000:=fun h=>ZB0 (oX (s:=s) (c:=44) _ (bR (ek:=ab) h)) hp
 have cO:i<(bm s 44).length→(bm s 44).drop i=nth ab (bm s 44) i::(bm s 44).drop (i+1):=fun h=>bW (ek:=ab) h
 have cm:decide ((i:Int)<((bm s 44).length:Int))=true→i<(bm s 44).length:=fun h=>by have:=aJ h;omega
 have ob:decide ((i:Int)<((bm s 44).length:Int))=false→oh (bm s 44) [] false=some (out,sm):=fun h=>by
  have:=aA h
  rw [←hr,ZB3 (by omega)];rfl
 refine⟨fun w1=>⟨⟨?_,?_⟩,?_,⟨tv2,?_⟩,fun x2 w3=>⟨fun w4=>⟨aa,?_⟩,fun w5=>⟨aa,fun w6=>⟨aa,⟨⟨?_,?_⟩,?_,?_⟩,⟨?_,?_⟩,?_⟩,fun w7=>⟨⟨⟨tv6,aa⟩,aa⟩,fun x8 w9=>⟨aa,⟨⟨?_,?_⟩,?_,?_⟩,⟨?_,?_⟩,?_⟩⟩⟩⟩⟩,fun dy=>⟨aa,fun kA=>⟨aa,?_⟩,fun dJ=>⟨fun iU=>⟨aa,?_⟩,fun gO=>?_⟩⟩⟩
 all_goals first|refine aw ?_|refine ax ?_|exact a8|(dsimp only [iD,iQ,qD,mN];omega)|exact a7|(exact dj (cm (by assumption)))|skip
 ·have e:oh (bm s 44) [] false=none:=by rw [←hr,cO (cm (by assumption)),ah0 (by assumption)]
  refine⟨[1029],[],_,_,_,rfl,az,(),aa,?_,?_,rfl⟩
  ·(show _=ir s);unfold ir;first|(rw [w0 e];rfl)|rfl
  ·(show _=jS s);unfold jS;first|(rw [w0 e];rfl)|rfl
 ·refine⟨(i+1,out++[(bP (nth ab (bm s 44) i)).1],true),[(1012,1039)],?_,?_,?_⟩
  rotate_right
  ·exact bV
  ·have bU:=cm (by assumption)
   refine⟨bU,by show List.length (_++_)=_;rw [ZA0,hl];rfl,?_⟩
   rw [←hr,cO bU,aeD (by assumption),show sm=true by assumption];rfl
  ·show (bm s 44).length-(i+1)<(bm s 44).length-i;have:=cm (by assumption);omega
 ·refine⟨(i+1,out++[(bP (nth ab (bm s 44) i)).1],!(au (bP (nth ab (bm s 44) i)).1)),[(1012,1039)],?_,?_,?_⟩
  rotate_right
  ·exact bV
  ·have bU:=cm (by assumption)
   refine⟨bU,by show List.length (_++_)=_;rw [ZA0,hl];rfl,?_⟩
   rw [←hr,cO bU,aeD (by assumption),show sm=false by assumption];rfl
  ·show (bm s 44).length-(i+1)<(bm s 44).length-i;have:=cm (by assumption);omega
 ·refine⟨[1047],[],_,_,_,rfl,az,(),aa,?_,?_,rfl⟩
  ·(show _=ir s);unfold ir;first|(rw [jX (ob (by assumption)),zZ (by assumption)];rfl)|rfl
  ·(show _=jS s);unfold jS;first|(rw [jX (ob (by assumption)),zZ (by assumption)];rfl)|rfl
 ·refine⟨[1047],[],_,_,_,rfl,az,(),aa,?_,?_,rfl⟩
  ·(show _=ir s);unfold ir;first|(rw [jX (ob (by assumption)),zY (by assumption)];rfl)|rfl
  ·(show _=jS s);unfold jS;first|(rw [jX (ob (by assumption)),zY (by assumption)];rfl)|rfl
 ·refine⟨[1012],[],_,_,_,rfl,az,(),aa,?_,?_,rfl⟩
  ·(show _=ir s);unfold ir;first|(rw [jX (ob (by assumption)),vM (by assumption) (by assumption)];rfl)|rfl
  ·(show _=jS s);unfold jS;first|(rw [jX (ob (by assumption)),vM (by assumption) (by assumption)];rfl)|rfl
def gX:List Pt→Nat→ByteArray→Bool→Option (ByteArray×Bool)
 |[],_,out,sm=>some (out,sm)
 |p::l,i,out,sm=>bif aZ p then gX l (i+1) ((bif decide ((i:Int)>0) then out++⟨#[44]⟩ else out)++bc p) (sm|| !(au p)) else none
def rl (o:ByteArray) (sm:Bool):ByteArray×Bool:=bif !sm then (⟨#[]⟩,false) else (o,true)
def rk (l:List Pt):ByteArray×Bool:=
 match gX l 0 ⟨#[]⟩ false with
 |none=>(⟨#[]⟩,false)
 |some (o,sm)=>rl o sm
def bE (l:List Pt):ByteArray×Bool:=bif decide ((l.length:Int)≠4) then (⟨#[]⟩,false) else rk l
theorem wY {l:List Pt}(h:decide ((l.length:Int)≠4)=true):bE l=(⟨#[]⟩,false):=by unfold bE;rw [h];rfl
theorem wX {l:List Pt}(h:decide ((l.length:Int)≠4)=false):bE l=rk l:=by unfold bE;rw [h];rfl
theorem pj {l:List Pt}(h:gX l 0 ⟨#[]⟩ false=none):rk l=(⟨#[]⟩,false):=by unfold rk;rw [h]
theorem sF {l:List Pt}{o:ByteArray}{sm:Bool}(h:gX l 0 ⟨#[]⟩ false=some (o,sm)):rk l=rl o sm:=by unfold rk;rw [h]
theorem C5 {o:ByteArray}{sm:Bool}(h:(!sm)=true):rl o sm=(⟨#[]⟩,false):=by unfold rl;rw [h];rfl
theorem wZ {o:ByteArray}{sm:Bool}(h:(!sm)=false):rl o sm=(o,true):=by unfold rl;rw [h];rfl
theorem agf {p:Pt}{l:List Pt}{i:Nat}{out:ByteArray}{sm:Bool}(h:(!(aZ p))=true):gX (p::l) i out sm=none:=by rw [gX,xm h];rfl
theorem FM {p:Pt}{l:List Pt}{i:Nat}{out:ByteArray}{sm:Bool}(h:(!(aZ p))=false):gX (p::l) i out sm=gX l (i+1) ((bif decide ((i:Int)>0) then out++⟨#[44]⟩ else out)++bc p) (sm|| !(au p)):=by rw [gX,cL h];rfl
theorem QH {a b:ByteArray}(ha:a.size≤1000000) (hb:b.size≤1000000):((a.size+b.size:Nat):Int)≤imax:=by
 unfold imax;omega
theorem agB (p:Pt):(bc p).size≤1000000:=ZB0 (gu p) (by omega)
def ym (l:List Pt):Prop:=True
def iq (l:List Pt):AV:=.t [.s (.str (bE l).1),.s (.q (bE l).2)]
def abv (l:List Pt):List AV:=[]
def J7:cn where
 A:=[.s (.vz ae)]
 B:=[]
 pre:=fun x b=>ym x
 r:=fun x b _=>iq x
 o:=fun x b _=>abv x
theorem ad3:Has Tryz.prog 191 J7:=by
 refine Has.fm zT zF zF (l:=[(80,cX),(81,cx),(162,qC)]) ⟨iB,cz,IM,aa⟩ Tryz.func191 ?_
 rintro (l:List Pt) _ (hp:ym l)
 show vc _ _ _ _ (entry [.s (.vz ae l)] []) _
 refine⟨fun w1=>?_,fun w2=>?_⟩
 all_goals first|refine aw ?_|refine ax ?_|exact a8|(dsimp only [cX,dZ,qC,qd];omega)|exact a7|skip
 ·refine⟨[],[],_,_,_,rfl,az,(),aa,?_,?_,rfl⟩
  ·(show _=iq l);unfold iq;first|(rw [wY (by assumption)];rfl)|rfl
  ·rfl
 ·have h4:l.length=4:=by have:=aA (p:=(l.length:Int)≠4) (by assumption);omega
  have hM:=wX (l:=l) (by assumption)
  refine cN (l:=[(80,cX),(81,cx),(162,qC)]) (ex:=zT) (wr:=zF) (pt:=zF) ⟨iB,cz,IM,aa⟩ [.s 0] (fun y:Nat×ByteArray×Bool=>[(.s 4,.str y.2.1),(.s 5,.s (.q y.2.2)),(.s 6,.int y.1)]) (fun y=>y.1≤4∧y.2.1.size≤65*y.1∧gX (l.drop y.1) y.1 y.2.1 y.2.2=gX l 0 ⟨#[]⟩ false) (fun y=>4-y.1) (0,⟨#[]⟩,false) [] ⟨ZA7 _,ZA7 _,rfl⟩ dM ?_
  rintro⟨i,out,sm⟩ ⟨(hi:i≤4),(ho:out.size≤65*i),(hr:gX (l.drop i) i out sm=gX l 0 ⟨#[]⟩ false)⟩
  have cm:decide ((i:Int)<(l.length:Int))=true→i<l.length:=fun h=>by have:=aJ h;omega
  have cO:i<l.length→l.drop i=nth ae l i::l.drop (i+1):=fun h=>bW (ek:=ae) h
  have dj:=gu (nth ae l i)
  have ob:decide ((i:Int)<(l.length:Int))=false→gX l 0 ⟨#[]⟩ false=some (out,sm):=fun h=>by
   have:=aA h
   rw [←hr,ZB3 (by omega)];rfl
  refine⟨fun w1=>⟨⟨?_,?_⟩,⟨⟨tv6,aa⟩,aa⟩,fun x2 w3=>⟨fun w4=>?_,fun w5=>⟨aa,fun w6=>⟨fun w7=>⟨?_,⟨?_,?_⟩,⟨⟨tv6,aa⟩,aa⟩,fun x8 w9=>⟨?_,⟨?_,?_⟩,?_⟩⟩,fun dy=>⟨⟨?_,?_⟩,⟨⟨tv6,aa⟩,aa⟩,fun kz dJ=>⟨?_,⟨?_,?_⟩,?_⟩⟩⟩,fun iU=>⟨⟨?_,?_⟩,⟨⟨tv6,aa⟩,aa⟩,fun x14 qK=>⟨fun kg=>⟨?_,⟨?_,?_⟩,⟨⟨tv6,aa⟩,aa⟩,fun x17 rS=>⟨?_,⟨?_,?_⟩,?_⟩⟩,fun oL=>⟨⟨?_,?_⟩,⟨⟨tv6,aa⟩,aa⟩,fun x20 A4=>⟨?_,⟨?_,?_⟩,?_⟩⟩⟩⟩⟩⟩⟩,fun A3=>⟨fun xK=>?_,fun rR=>?_⟩⟩
  all_goals first|refine aw ?_|refine ax ?_|exact a8|(dsimp only [cX,dZ,qC,qd];omega)|exact a7|(exact QH (show out.size≤1000000 by omega) (by rw [sz1];omega))|(exact QH (show (out++(⟨#[44]⟩:ByteArray)).size≤1000000 by rw [ZB2,sz1];omega) (agB _))|(exact QH (show out.size≤1000000 by omega) (agB _))|skip
  ·have e:gX l 0 ⟨#[]⟩ false=none:=by rw [←hr,cO (cm (by assumption)),agf (by assumption)]
   refine⟨[],[],_,_,_,rfl,az,(),aa,?_,?_,rfl⟩
   ·(show _=iq l);unfold iq;first|(rw [hM,pj e];rfl)|rfl
   ·rfl
  ·have bU:=cm (by assumption)
   refine⟨(i+1,out++⟨#[44]⟩++bc (nth ae l i),true),[],?_,?_,?_⟩
   rotate_right
   ·exact bV
   ·refine⟨by show i+1≤4;omega,by simp only [ZB2,sz1];omega,?_⟩
    rw [←hr,cO bU,FM (by assumption),show decide ((i:Int)>0)=true by assumption,show sm=true by assumption];rfl
   ·show 4-(i+1)<4-i;omega
  ·have bU:=cm (by assumption)
   refine⟨(i+1,out++bc (nth ae l i),true),[],?_,?_,?_⟩
   rotate_right
   ·exact bV
   ·refine⟨by show i+1≤4;omega,by simp only [ZB2,sz1];omega,?_⟩
    rw [←hr,cO bU,FM (by assumption),show decide ((i:Int)>0)=false by assumption,show sm=true by assumption];rfl
   ·show 4-(i+1)<4-i;omega
  ·have bU:=cm (by assumption)
   refine⟨(i+1,out++⟨#[44]⟩++bc (nth ae l i),!(au (nth ae l i))),[],?_,?_,?_⟩
   rotate_right
   ·exact bV
   ·refine⟨by show i+1≤4;omega,by simp only [ZB2,sz1];omega,?_⟩
    rw [←hr,cO bU,FM (by assumption),show decide ((i:Int)>0)=true by assumption,show sm=false by assumption];rfl
   ·show 4-(i+1)<4-i;omega
  ·have bU:=cm (by assumption)
   refine⟨(i+1,out++bc (nth ae l i),!(au (nth ae l i))),[],?_,?_,?_⟩
   rotate_right
   ·exact bV
   ·refine⟨by show i+1≤4;omega,by simp only [ZB2,sz1];omega,?_⟩
    rw [←hr,cO bU,FM (by assumption),show decide ((i:Int)>0)=false by assumption,show sm=false by assumption];rfl
   ·show 4-(i+1)<4-i;omega
  ·refine⟨[],[],_,_,_,rfl,az,(),aa,?_,?_,rfl⟩
   ·(show _=iq l);unfold iq;first|(rw [hM,sF (ob (by assumption)),C5 (by assumption)];rfl)|rfl
   ·rfl
  ·refine⟨[],[],_,_,_,rfl,az,(),aa,?_,?_,rfl⟩
   ·(show _=iq l);unfold iq;first|(rw [hM,sF (ob (by assumption)),wZ (by assumption)];rfl)|rfl
   ·rfl
end GL
namespace GL
def dB:List ByteArray→ByteArray→ByteArray×Bool
 |[],out=>(out,true)
 |x::l,out=>bif decide ((x.size:Int)>2048) then (⟨#[]⟩,false) else
  bif decide (((out++bX x.size++⟨#[58]⟩++x).size:Int)>2048) then (⟨#[]⟩,false) else dB l (out++bX x.size++⟨#[58]⟩++x)
def cE (l:List ByteArray):ByteArray×Bool:=bif decide ((l.length:Int)≤60) then dB l ⟨#[]⟩ else (⟨#[]⟩,false)
theorem gE {l:List ByteArray}(h:decide ((l.length:Int)≤60)=true):cE l=dB l ⟨#[]⟩:=by unfold cE;rw [h];rfl
theorem tP {l:List ByteArray}(h:decide ((l.length:Int)≤60)=false):cE l=(⟨#[]⟩,false):=by unfold cE;rw [h];rfl
theorem M0 {x:ByteArray}{l:List ByteArray}{out:ByteArray}(h:decide ((x.size:Int)>2048)=true):dB (x::l) out=(⟨#[]⟩,false):=by rw [dB,h];rfl
theorem MZ {x:ByteArray}{l:List ByteArray}{out:ByteArray}(h:decide (((out++bX x.size++⟨#[58]⟩++x).size:Int)>2048)=true):dB (x::l) out=(⟨#[]⟩,false):=by
 rw [dB,h];cases decide ((x.size:Int)>2048)<;>rfl
theorem MY {x:ByteArray}{l:List ByteArray}{out:ByteArray}(h:decide ((x.size:Int)>2048)=false) (h2:decide (((out++bX x.size++⟨#[58]⟩++x).size:Int)>2048)=false):dB (x::l) out=dB l (out++bX x.size++⟨#[58]⟩++x):=by rw [dB,h,h2];rfl
def kl (l:List ByteArray):Prop:=True
def eW (l:List ByteArray):AV:=.t [.s (.str (cE l).1),.s (.q (cE l).2)]
def OS (l:List ByteArray):List AV:=[]
def jG:cn where
 A:=[.s (.vz ab)]
 B:=[]
 pre:=fun x b=>kl x
 r:=fun x b _=>eW x
 o:=fun x b _=>OS x
theorem vB:Has Tryz.prog 160 jG:=by
 refine Has.fm zT zF zF (l:=[(161,j5)]) ⟨wR,aa⟩ Tryz.func160 ?_
 rintro (l:List ByteArray) _ (hp:kl l)
 show vc _ _ _ _ (entry [.s (.vz ab l)] []) _
 refine cN (l:=[(161,j5)]) (ex:=zT) (wr:=zF) (pt:=zF) ⟨wR,aa⟩ [.s 0] (fun y:Nat×ByteArray=>[(.s 4,.str y.2),(.s 5,.int y.1)]) (fun y=>y.1≤l.length∧y.2.size≤2048∧(l.length≤60→dB (l.drop y.1) y.2=dB l ⟨#[]⟩)∧(60<l.length→y.1=0∧y.2=⟨#[]⟩)) (fun y=>l.length-y.1) (0,⟨#[]⟩) [] ⟨ZA7 _,ZA7 _,fun _=>rfl,fun _=>⟨rfl,rfl⟩⟩ dM ?_
 rintro⟨i,out⟩ ⟨(hi:i≤l.length),(ho:out.size≤2048),(hr:l.length≤60→dB (l.drop i) out=dB l ⟨#[]⟩),(h0:60<l.length→i=0∧out=⟨#[]⟩)⟩
 have cm:decide ((i:Int)<(l.length:Int))=true→i<l.length:=fun h=>by have:=aJ h;omega
 have h60:decide ((l.length:Int)≤60)=true→l.length≤60:=fun h=>by have:=aJ h;omega
 have cO:i<l.length→l.drop i=nth ab l i::l.drop (i+1):=fun h=>bW (ek:=ab) h
 have hsm:decide (((nth ab l i).size:Int)>2048)=false→(nth ab l i).size≤2048∧(bX ((nth ab l i).size:Int)).size≤12:=fun h=>by
  have:=aA h
  exact⟨by omega,db (by omega)⟩
 refine⟨aa,fun w1=>⟨fun w2=>⟨⟨?_,?_⟩,fun w3=>?_,fun w4=>⟨Sq4,Sq23,rfl,Sq0,Sq24,rfl,Sq5,Sq25,rfl,[.s 24,.s 25],Sq26,rfl,⟨?_,?_⟩,Sq26,Sq27,rfl,Sq27,Sq28,rfl,Sq28,Sq29,rfl,⟨tv2,?_,?_⟩,?_,fun x5 w6=>⟨[.s 23,.s 29],Sq30,rfl,?_,Sq30,Sq31,rfl,?_,Sq0,Sq32,rfl,Sq5,Sq33,rfl,[.s 32,.s 33],Sq34,rfl,⟨?_,?_⟩,Sq34,Sq35,rfl,[.s 31,.s 35],Sq36,rfl,?_,Sq36,Sq4,rfl,fun w7=>?_,fun w8=>⟨⟨?_,?_⟩,?_⟩⟩⟩⟩,fun w9=>?_⟩,fun dy=>?_⟩
 all_goals first|refine aw ?_|refine ax ?_|exact a8|(dsimp only [j5,mK];omega)|exact a7|(have:=hsm (by assumption);exact QH (show (out++bX ((nth ab l i).size:Int)).size≤1000000 by rw [ZB2];omega) (by rw [sz1];omega))|(have:=hsm (by assumption);exact QH (show (out++bX ((nth ab l i).size:Int)++(⟨#[58]⟩:ByteArray)).size≤1000000 by rw [ZB2,ZB2,sz1];omega) (show (nth ab l i).size≤1000000 by omega))|skip
 ·have e:dB l ⟨#[]⟩=(⟨#[]⟩,false):=by rw [←hr (h60 (by assumption)),cO (cm (by assumption)),M0 (by assumption)]
  refine⟨[],[],_,_,_,rfl,az,(),aa,?_,?_,rfl⟩
  ·(show _=eW l);unfold eW;first|(rw [gE (by assumption),e];rfl)|rfl
  ·rfl
 ·have e:dB l ⟨#[]⟩=(⟨#[]⟩,false):=by rw [←hr (h60 (by assumption)),cO (cm (by assumption)),MZ (by assumption)]
  refine⟨[],[],_,_,_,rfl,az,(),aa,?_,?_,rfl⟩
  ·(show _=eW l);unfold eW;first|(rw [gE (by assumption),e];rfl)|rfl
  ·rfl
 ·have bU:=cm (by assumption)
  have h6:=h60 (by assumption)
  have hs2:¬(((out++bX ((nth ab l i).size:Int)++(⟨#[58]⟩:ByteArray)++nth ab l i).size:Int)>2048):=aA (by assumption)
  refine⟨(i+1,out++bX ((nth ab l i).size:Int)++⟨#[58]⟩++nth ab l i),[],?_,?_,?_⟩
  rotate_right
  ·exact bV
  ·refine⟨bU,Int.ofNat_le.1 (ZH1.1 hs2),fun h=>?_,fun h=>absurd h6 (by omega)⟩
   rw [←hr h,cO bU,MY (by assumption) (by assumption)]
  ·show l.length-(i+1)<l.length-i;omega
 ·have hd:decide ((l.length:Int)≤60)=false:=by assumption
  obtain⟨rfl,rfl⟩:=h0 (by have:=aA hd;omega)
  refine⟨[],[],_,_,_,rfl,az,(),aa,?_,?_,rfl⟩
  ·(show _=eW l);unfold eW;first|((rw [tP hd];show AV.t [_,A0.s (SV.q (decide ((l.length:Int)≤60)))]=_;rw [hd];rfl))|rfl
  ·rfl
 ·have FL:¬i<l.length:=by have:=aA (p:=(i:Int)<(l.length:Int)) (by assumption);omega
  have h6:l.length≤60:=by
   by_cases h:l.length≤60
   ·exact h
   ·obtain⟨h1,_⟩:=h0 (by omega);omega
  have hd:decide ((l.length:Int)≤60)=true:=decide_eq_true (by omega)
  have e:cE l=(out,true):=by rw [gE hd,←hr h6,ZB3 (by omega)];rfl
  refine⟨[],[],_,_,_,rfl,az,(),aa,?_,?_,rfl⟩
  ·(show _=eW l);unfold eW;first|((rw [e];show AV.t [_,A0.s (SV.q (decide ((l.length:Int)≤60)))]=_;rw [hd];rfl))|rfl
  ·rfl
end GL
end Go.Proofs.YtnkbdhldiinfdaaGreatDoor
