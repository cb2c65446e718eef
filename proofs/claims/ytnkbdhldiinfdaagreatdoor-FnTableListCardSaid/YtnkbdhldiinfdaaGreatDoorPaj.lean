/- Part 10 of the proof of a drawn law. -/
import Derived.Test.YtnkbdhldiinfdaaGreatDoorPai
set_option maxHeartbeats 20000000
set_option maxRecDepth 100000
set_option linter.all false
namespace Go.Proofs.YtnkbdhldiinfdaaGreatDoor
namespace GL
theorem fP {b sz n m:Nat}(h:n=m):some (AV.s (.xs b sz 0 n))=some (AV.s (.xs b sz 0 m)):=by rw [h]
theorem oP {b sz:Nat}{α:Type}{l:List α}{x:α}:some (AV.s (.xs b sz 0 (l.length+1)))=some (AV.s (.xs b sz 0 (l++[x]).length)):=by rw [ZA0];rfl
theorem bV {P:Prop}(h:P:=by repeat' (first|exact trivial|rfl|exact rfl|exact fP List.length_append.symm|exact oP|apply And.intro)):P:=h
theorem dM {P:Prop}(h:P:=by repeat' (first|exact trivial|rfl|exact rfl|exact fP (Nat.zero_add _)|apply And.intro)):P:=h
theorem bW {ek:EK}{l:List (EK.Ty ek)}{i:Nat}(h:i<l.length):l.drop i=nth ek l i::l.drop (i+1):=by
 rw [List.drop_eq_getElem_cons h]
 congr 1
 have:=oD h
 rw [ZB1 h] at this
 exact ZG8 this
def C9 (s:ByteArray) (k:Nat):Bool:=decide ((k:Int)<s.size)&&(decide ((k:Int)<9)&&(decide (bL s k≥48)&&decide (bL s k≤57)))
def iN (s:ByteArray):Nat→Int
 |0=>0
 |k+1=>10*iN s k+(bL s k-48)
def sA:Nat→ByteArray→Nat→Nat
 |0,_,k=>k
 |f+1,s,k=>bif C9 s k then sA f s (k+1) else k
def cW (s:ByteArray):Nat:=sA 9 s 0
def CN (s:ByteArray):Int×Int:=bif decide ((cW s:Int)>1)&&decide (bL s 0=48) then (0,1) else (iN s (cW s),cW s)
theorem S2 {s:ByteArray}{k:Nat}(hk:k≤9) (hd:C9 s k=false) (hl:sA (9-k) s k=cW s):cW s=k:=by
 rw [←hl]
 by_cases h:k=9
 ·subst h;rfl
 ·rw [show 9-k=(8-k)+1 by omega,sA,hd];rfl
theorem SF {s:ByteArray}{k:Nat}(h1:iN s k<(10:Int) ^ k) (hk:k≤8):iN s k≤99999999:=by
 have:(10:Int) ^ k≤10 ^ 8:=by exact_mod_cast Nat.pow_le_pow_right (by omega) hk
 omega
theorem ai4 {s:ByteArray}{k:Nat}(e:cW s=k) (h1:decide ((k:Int)>1)=true) (h2:decide (bL s 0=48)=true):CN s=(0,1):=by
 unfold CN;rw [e,h1,h2];rfl
theorem agM {s:ByteArray}{k:Nat}(e:cW s=k) (h1:decide ((k:Int)>1)=false):CN s=(iN s k,(k:Int)):=by
 unfold CN;rw [e,h1];rfl
theorem agL {s:ByteArray}{k:Nat}(e:cW s=k) (h2:decide (bL s 0=48)=false):CN s=(iN s k,(k:Int)):=by
 unfold CN;rw [e,h2,ZD7];rfl
theorem ag3 {s:ByteArray}{k:Nat}(h:decide ((k:Int)<s.size)=false):C9 s k=false:=by unfold C9;rw [h];rfl
theorem ajN {s:ByteArray}{k:Nat}(h:decide ((k:Int)<9)=false):C9 s k=false:=by unfold C9;rw [h,Bool.false_and,ZD7]
theorem ajM {s:ByteArray}{k:Nat}(h:decide (bL s ((k:Int).toNat)≥48)=false):C9 s k=false:=by
 have h:decide (bL s k≥48)=false:=h
 unfold C9;rw [h,Bool.false_and,ZD7,ZD7]
theorem ajL {s:ByteArray}{k:Nat}(h:decide (bL s ((k:Int).toNat)≤57)=false):C9 s k=false:=by
 have h:decide (bL s k≤57)=false:=h
 unfold C9;rw [h,ZD7,ZD7,ZD7]
def k7 (s:ByteArray):Prop:=(s.size:Int)≤1000000000000
def BG (s:ByteArray):AV:=.t [.s (.int (CN s).1),.s (.int (CN s).2)]
def ac6 (s:ByteArray):List AV:=[]
def tZ:cn where
 A:=[.s .str]
 B:=[]
 pre:=λx b=>k7 x
 r:=λx b _=>BG x
 o:=λx b _=>ac6 x
theorem PA:Has Tryz.prog 166 tZ:=by
 refine Has.fm zT zF zF (l:=[]) trivial Tryz.func166 ?_
 rintro (s:ByteArray) _ (hp:k7 s)
 show vc _ _ _ _ (entry [.str s] []) _
 unfold k7 at hp
 refine cN (l:=[]) (ex:=zT) (wr:=zF) (pt:=zF) trivial [.s 0] (λk:Nat=>[(.s 4,.int (iN s k)),(.s 5,.int k)]) (λk=>k≤9∧k≤s.size∧(0≤iN s k∧iN s k<(10:Int) ^ k)∧sA (9-k) s k=cW s) (λk=>9-k) 0 [] ⟨by omega,ZA7 _,⟨ZC1 _,by show (0:Int)<1;omega⟩,rfl⟩ ⟨⟨rfl,rfl,trivial⟩,⟨rfl,trivial⟩⟩ ?_
 rintro k ⟨hk,hks,⟨hn0,hn1⟩,hl⟩
 have hb:=xf s k
 have hsm:=SF hn1
 refine⟨aa,λw1=>⟨aa,λw2=>⟨⟨?_,?_⟩,aa,λw3=>⟨⟨?_,?_⟩,λw4=>⟨⟨?_,?_⟩,⟨?_,?_⟩,⟨?_,?_⟩,⟨?_,?_⟩,⟨?_,?_⟩,⟨?_,?_⟩,?_⟩,λw5=>⟨aa,λw6=>⟨⟨?_,?_⟩,λw7=>?_,λw8=>?_⟩,λw9=>?_⟩⟩,λdy=>⟨aa,λkA=>⟨⟨?_,?_⟩,λdJ=>?_,λiU=>?_⟩,λgO=>?_⟩⟩,λqK=>⟨aa,λkg=>⟨⟨?_,?_⟩,λxh=>?_,λrS=>?_⟩,λoL=>?_⟩⟩,λuI=>⟨aa,λA4=>⟨⟨?_,?_⟩,λA3=>?_,λxK=>?_⟩,λrR=>?_⟩⟩
 all_goals first|refine aw ?_|refine ax ?_|exact a8|exact a7|skip
 ·have h4:C9 s k=true:=by unfold C9;rw [w1,w2,show decide (bL s k≥48)=true from w3,show decide (bL s k≤57)=true from w4];rfl
  have h2:=aJ w2
  have h5:bL s k≥48:=aJ w3
  have h6:bL s k≤57:=aJ w4
  refine⟨(k+1),[],?_,?_,?_⟩
  rotate_right
  ·exact bV
  ·refine⟨by omega,by have:=aJ w1;omega,⟨?_,?_⟩,?_⟩
   ·show 0≤10*iN s k+(bL s k-48);omega
   ·show 10*iN s k+(bL s k-48)<_;rw [Int.pow_succ];omega
   ·rw [←hl,show 9-k=(9-(k+1))+1 by omega,sA,h4];rfl
  ·show 9-(k+1)<9-k;omega
 all_goals
  have e:cW s=k:=S2 hk (by first|exact ag3 (by assumption)|exact ajN (by assumption)|exact ajM (by assumption)|exact ajL (by assumption)) hl
  refine⟨[],[],_,_,_,ζ,az,(),aa,?_,?_,ζ⟩
  ·(show _=BG s);unfold BG;first|(rw [agM e (by assumption)];rfl)|(rw [ai4 e (by assumption) (by assumption)];rfl)|(rw [agL e (by assumption)];rfl)|rfl
  ·rfl
def aD (s:ByteArray):Int×Bool:=bif decide ((CN s).2=0)||decide ((CN s).2≠(s.size:Int)) then (0,false) else ((CN s).1,true)
def gI (s:ByteArray):Prop:=(s.size:Int)≤1000000000000
def ya (s:ByteArray):AV:=.t [.s (.int (aD s).1),.s (.q (aD s).2)]
def abr (s:ByteArray):List AV:=[]
def jF:cn where
 A:=[.s .str]
 B:=[]
 pre:=λx b=>gI x
 r:=λx b _=>ya x
 o:=λx b _=>abr x
theorem vA:Has Tryz.prog 122 jF:=by
 refine Has.fm zT zF zF (l:=[(166,tZ)]) ⟨PA,aa⟩ Tryz.func122 ?_
 rintro (s:ByteArray) _ (hp:gI s)
 show vc _ _ _ _ (entry [.str s] []) _
 unfold gI at hp
 refine⟨⟨tv2,?_⟩,λx1 w2=>⟨aa,λw3=>?_,λw4=>⟨λw5=>?_,λw6=>?_⟩⟩⟩
 all_goals first|refine aw ?_|refine ax ?_|exact a8|(dsimp only [tZ,k7];omega)|exact a7|skip
 all_goals
  refine⟨[],[],_,_,_,ζ,az,(),aa,?_,?_,ζ⟩
  ·(show _=ya s);unfold ya;first|((simp only [aD, *];rfl))|rfl
  ·rfl
def iZ (s:ByteArray) (c:Int):Nat→List ByteArray×Nat
 |0=>([],0)
 |k+1=>bif decide (bL s k=c) then ((iZ s c k).1++[s.extract (iZ s c k).2 k],k+1) else iZ s c k
def bm (s:ByteArray) (c:Int):List ByteArray:=(iZ s c s.size).1++[s.extract (iZ s c s.size).2 s.size]
theorem JQ (s:ByteArray) (c:Int):∀k,(iZ s c k).1.length≤k∧(iZ s c k).2≤k
 |0=>⟨ZB5 _,ZB5 _⟩
 |k+1=>by
  have:=JQ s c k
  unfold iZ
  cases decide (bL s k=c) with
  |true=>simp only [cond_true,ZA0,ZA1,ZA4];omega
  |false=>simp only [cond_false];omega
theorem tW (s:ByteArray) (c:Int):1≤(bm s c).length∧(bm s c).length≤s.size+1:=by
 have:=JQ s c s.size
 simp only [bm,ZA0,ZA1,ZA4]
 omega
theorem JP {s:ByteArray}{c:Int}:∀{k:Nat},∀x∈(iZ s c k).1,x.size≤s.size
 |0,x,h=>by cases h
 |k+1,x,h=>by
  unfold iZ at h
  cases hd:decide (bL s k=c) with
  |true=>
   rw [hd,cond_true,ZB4] at h
   rcases h with h |h
   ·exact JP x h
   ·simp only [ZB8,ZF6,or_false] at h
    subst h
    rw [ZC5];omega
  |false=>rw [hd,cond_false] at h;exact JP x h
theorem oX {s:ByteArray}{c:Int}:∀x∈bm s c,x.size≤s.size:=by
 intro x h
 rw [bm,ZB4] at h
 rcases h with h |h
 ·exact JP x h
 ·simp only [ZB8,ZF6,or_false] at h
  subst h
  rw [ZC5];omega
def iQ (s:ByteArray) (c:Int):Prop:=s.size≤1000000
def BF (s:ByteArray) (c:Int):AV:=.s (.xs 0 1 0 (bm s c).length)
def HI (s:ByteArray) (c:Int):List AV:=[.rs ab (bm s c)]
def iD:cn where
 A:=[.s .str,.s .byte]
 B:=[]
 pre:=λx b=>iQ (x.1) (x.2)
 r:=λx b _=>BF (x.1) (x.2)
 o:=λx b _=>HI (x.1) (x.2)
 nf:=1
theorem tG:Has Tryz.prog 167 iD:=by
 refine Has.fm zT zF zF (l:=[]) trivial Tryz.func167 ?_
 rintro⟨(s:ByteArray),(c:Int)⟩ _ (hp:iQ s c)
 show vc _ _ _ _ (entry [.str s,.byte c] []) _
 unfold iQ at hp
 refine⟨aa,?_⟩
 all_goals first|refine aw ?_|refine ax ?_|exact a8|exact a7|skip
 refine cN (l:=[]) (ex:=zT) (wr:=zF) (pt:=zF) trivial [.s 0,.s 1] (λy:Nat×List ByteArray×Nat=>[(.s 5,.s (.xs 1008 1 0 y.2.1.length)),(.s 6,.int y.2.2),(.s 7,.int y.1),(.b 1008,.rs ab y.2.1)]) (λy=>y.1≤s.size∧iZ s c y.1=y.2) (λy=>s.size-y.1) (0,[],0) [] ⟨ZA7 _,rfl⟩ dM ?_
 rintro⟨k,out,fr⟩ ⟨(hk:k≤s.size),(he:iZ s c k=(out,fr))⟩
 have hbd:=JQ s c k
 rw [he] at hbd
 obtain⟨(hb1:out.length≤k),(hb2:fr≤k)⟩:=hbd
 refine⟨λw1=>⟨⟨?_,?_⟩,λw2=>⟨⟨?_,?_,?_⟩,aa,⟨⟨?_,?_⟩,?_,?_⟩,⟨?_,?_⟩,⟨?_,?_⟩,?_⟩,λw3=>⟨⟨?_,?_⟩,?_⟩⟩,λw4=>⟨⟨?_,?_,?_⟩,aa,⟨⟨?_,?_⟩,?_,?_⟩,?_⟩⟩
 all_goals first|refine aw ?_|refine ax ?_|exact a8|exact a7|skip
 ·have e:iZ s c (k+1)=(out++[s.extract fr k],k+1):=by
   rw [iZ,show decide (bL s k=c)=true by assumption,he];rfl
  refine⟨(k+1,out++[s.extract fr k],k+1),[(1008,1026)],?_,?_,?_⟩
  rotate_right
  ·exact bV
  ·exact⟨by have:=aJ (p:=(k:Int)<s.size) (by assumption);omega,e⟩
  ·show s.size-(k+1)<s.size-k
   have:=aJ (p:=(k:Int)<s.size) (by assumption);omega
 ·have e:iZ s c (k+1)=(out,fr):=by
   rw [iZ,show decide (bL s k=c)=false by assumption,he];rfl
  refine⟨(k+1,out,fr),[],?_,?_,?_⟩
  rotate_right
  ·exact bV
  ·exact⟨by have:=aJ (p:=(k:Int)<s.size) (by assumption);omega,e⟩
  ·show s.size-(k+1)<s.size-k
   have:=aJ (p:=(k:Int)<s.size) (by assumption);omega
 ·have hk':k=s.size:=by have:=aA (p:=(k:Int)<s.size) (by assumption);omega
  subst hk'
  have e:bm s c=out++[s.extract fr s.size]:=by rw [bm,he]
  refine⟨[1034],[],_,_,_,ζ,az,(),aa,?_,?_,ζ⟩
  ·(show _=BF s c);unfold BF;first|(rw [e,ZA0];rfl)|(rw [e];rfl)|rfl
  ·(show _=HI s c);unfold HI;first|(rw [e,ZA0];rfl)|(rw [e];rfl)|rfl
end GL
namespace GL
def lg:List ByteArray→List Int→Option (List Int)
 |[],acc=>some acc
 |t::l,acc=>bif (aD t).2 then lg l (acc++[(aD t).1]) else none
def lH (n:List Int):Pt:=(nth ag n 0,nth ag n 1,nth ag n 2,nth ag n 3,nth ag n 4)
def pU (n:List Int):Pt×Bool:=bif !(aZ (lH n))||au (lH n) then (bM,false) else (lH n,true)
def qW (w:List ByteArray):Pt×Bool:=
 match lg w [] with
 |none=>(bM,false)
 |some n=>pU n
def bP (s:ByteArray):Pt×Bool:=
 bif decide (s=⟨#[45]⟩) then (bM,true) else
 bif decide (((bm s 46).length:Int)≠5) then (bM,false) else qW (bm s 46)
theorem wD {s:ByteArray}(h:decide (s=⟨#[45]⟩)=true):bP s=(bM,true):=by unfold bP;rw [h];rfl
theorem B0 {s:ByteArray}(h:decide (s=⟨#[45]⟩)=false) (h2:decide (((bm s 46).length:Int)≠5)=true):bP s=(bM,false):=by unfold bP;rw [h,h2];rfl
theorem sa {s:ByteArray}(h:decide (s=⟨#[45]⟩)=false) (h2:decide (((bm s 46).length:Int)≠5)=false):bP s=qW (bm s 46):=by unfold bP;rw [h,h2];rfl
theorem BZ {w:List ByteArray}(h:lg w []=none):qW w=(bM,false):=by unfold qW;rw [h]
theorem BY {w:List ByteArray}{n:List Int}(h:lg w []=some n):qW w=pU n:=by unfold qW;rw [h]
theorem RP {n:List Int}(h:(!(aZ (lH n)))=true):pU n=(bM,false):=by unfold pU;rw [h];rfl
theorem RO {n:List Int}(h:au (lH n)=true):pU n=(bM,false):=by unfold pU;rw [h,ZC4];rfl
theorem G6 {n:List Int}(h:(!(aZ (lH n)))=false) (h2:au (lH n)=false):pU n=(lH n,true):=by unfold pU;rw [h,h2];rfl
def mN (s:ByteArray):Prop:=s.size≤1000000
def eM (s:ByteArray):AV:=.t [ptA (bP s).1,.s (.q (bP s).2)]
def abp (s:ByteArray):List AV:=[]
def qD:cn where
 A:=[.s .str]
 B:=[]
 pre:=λx b=>mN x
 r:=λx b _=>eM x
 o:=λx b _=>abp x
theorem IN:Has Tryz.prog 123 qD:=by
 refine Has.fm zT zF zF (l:=[(122,jF),(167,iD),(80,cX),(81,cx)]) ⟨vA,tG,iB,cz,aa⟩ Tryz.func123 ?_
 rintro (s:ByteArray) _ (hp:mN s)
 show vc _ _ _ _ (entry [.str s] []) _
 unfold mN at hp
 have TP:=tW s 46
 refine⟨λw1=>?_,λw2=>⟨⟨tv3,?_⟩,λx3 w4=>⟨λw5=>?_,λw6=>⟨aa,?_⟩⟩⟩⟩
 all_goals first|refine aw ?_|refine ax ?_|exact a8|(dsimp only [jF,gI,iD,iQ,cX,dZ];omega)|exact a7|skip
 ·refine⟨[],[],_,_,_,ζ,az,(),aa,?_,?_,ζ⟩
  ·(show _=eM s);unfold eM;first|(rw [wD (by assumption)];rfl)|rfl
  ·rfl
 ·refine⟨[],[],_,_,_,ζ,az,(),aa,?_,?_,ζ⟩
  ·(show _=eM s);unfold eM;first|(rw [B0 (by assumption) (by assumption)];rfl)|rfl
  ·rfl
 ·have h5:(bm s 46).length=5:=by have:=aA (p:=((bm s 46).length:Int)≠5) (by assumption);omega
  have hM:=sa (s:=s) (by assumption) (by assumption)
  refine cN (l:=[(122,jF),(167,iD),(80,cX),(81,cx)]) (ex:=zT) (wr:=zF) (pt:=zF) ⟨vA,tG,iB,cz,aa⟩ [.s 0,.s 2,.s 4,.b 1002,.b 150000] (λy:Nat×List Int=>[(.s 5,.s (.xs 1019 1 0 y.2.length)),(.s 6,.int y.1),(.b 1019,.rs ag y.2)]) (λy=>y.1≤5∧y.2.length=y.1∧lg ((bm s 46).drop y.1) y.2=lg (bm s 46) []) (λy=>5-y.1) (0,[]) [] ⟨ZA7 _,rfl,rfl⟩ dM ?_
  rintro⟨i,n⟩ ⟨(hi:i≤5),(hl:n.length=i),(hr:lg ((bm s 46).drop i) n=lg (bm s 46) [])⟩
  have dj:i<5→(nth ab (bm s 46) i).size≤1000000:=λh=>ZB0 (oX (s:=s) (c:=46) _ (bR (ek:=ab) (by omega))) hp
  have cO:i<5→(bm s 46).drop i=nth ab (bm s 46) i::(bm s 46).drop (i+1):=λh=>bW (ek:=ab) (by omega)
  refine⟨λw1=>⟨⟨?_,?_⟩,?_,⟨tv2,?_⟩,λx2 w3=>⟨λw4=>?_,λw5=>⟨aa,⟨⟨?_,?_⟩,?_,?_⟩,⟨?_,?_⟩,?_⟩⟩⟩,λw6=>⟨Sq5,Sq39,ζ,Sq39,Sq40,ζ,⟨?_,?_⟩,[.s 40,.b 1019],Sq41,ζ,?_,Sq5,Sq42,ζ,Sq42,Sq43,ζ,⟨?_,?_⟩,[.s 43,.b 1019],Sq44,ζ,?_,Sq5,Sq45,ζ,Sq45,Sq46,ζ,⟨?_,?_⟩,[.s 46,.b 1019],Sq47,ζ,?_,Sq5,Sq48,ζ,Sq48,Sq49,ζ,⟨?_,?_⟩,[.s 49,.b 1019],Sq50,ζ,?_,Sq5,Sq51,ζ,Sq51,Sq52,ζ,⟨?_,?_⟩,[.s 52,.b 1019],Sq53,ζ,?_,[.s 41,.s 44,.s 47,.s 50,.s 53],Sq54,ζ,[.b 1009],[.s 9,.b 1009],ζ,[.s 9,.s 54,.b 1009],[.b 1009],ζ,⟨⟨tv6,aa⟩,aa⟩,λx7 w8=>⟨aa,λw9=>?_,λdy=>⟨⟨⟨tv6,aa⟩,aa⟩,λkz dJ=>⟨λiU=>?_,λgO=>?_⟩⟩⟩⟩⟩
  all_goals first|refine aw ?_|refine ax ?_|exact a8|(dsimp only [jF,gI,iD,iQ,cX,dZ];omega)|exact a7|(have:=dj (by have:=aJ (p:=(i:Int)<5) (by assumption);omega);show ((nth ab (bm s 46) i).size:Int)≤1000000000000;omega)|skip
  ·have bU:i<5:=by have:=aJ (p:=(i:Int)<5) (by assumption);omega
   have e:lg (bm s 46) []=none:=by rw [←hr,cO bU,lg,show (aD (nth ab (bm s 46) i)).2=false from xm (by assumption)];rfl
   refine⟨[],[],_,_,_,ζ,az,(),aa,?_,?_,ζ⟩
   ·(show _=eM s);unfold eM;first|(rw [hM,BZ e];rfl)|rfl
   ·rfl
  ·have bU:i<5:=by have:=aJ (p:=(i:Int)<5) (by assumption);omega
   refine⟨(i+1,n++[(aD (nth ab (bm s 46) i)).1]),[(1019,1038)],?_,?_,?_⟩
   rotate_right
   ·exact bV
   ·refine⟨bU,by show List.length (_++_)=_;rw [ZA0,hl];rfl,?_⟩
    rw [←hr,cO bU,lg,show (aD (nth ab (bm s 46) i)).2=true from cL (by assumption)];rfl
   ·show 5-(i+1)<5-i;omega
  all_goals
   have hi5:i=5:=by have:=aA (p:=(i:Int)<5) (by assumption);omega
   have e:lg (bm s 46) []=some n:=by rw [←hr,ZB3 (by omega)];rfl
   rw [BY e] at hM
  ·rw [RP (by assumption)] at hM
   refine⟨[],[],_,_,_,ζ,az,(),aa,?_,?_,ζ⟩
   ·(show _=eM s);unfold eM;first|(rw [hM];rfl)|rfl
   ·rfl
  ·rw [RO (by assumption)] at hM
   refine⟨[],[],_,_,_,ζ,az,(),aa,?_,?_,ζ⟩
   ·(show _=eM s);unfold eM;first|(rw [hM];rfl)|rfl
   ·rfl
  ·rw [G6 (by assumption) (by assumption)] at hM
   refine⟨[],[],_,_,_,ζ,az,(),aa,?_,?_,ζ⟩
   ·(show _=eM s);unfold eM;first|(rw [hM];rfl)|rfl
   ·rfl
end GL
namespace GL
def oh:List ByteArray→List Pt→Bool→Option (List Pt×Bool)
 |[],out,sm=>some (out,sm)
 |t::l,out,sm=>bif (bP t).2 then oh l (out++[(bP t).1]) (sm|| !(au (bP t).1)) else none
def l8 (o:List Pt) (sm:Bool):List Pt×Bool:=bif decide ((o.length:Int)≠4)|| !sm then ([],false) else (o,true)
def bl (s:ByteArray):List Pt×Bool:=
 match oh (bm s 44) [] false with
 |none=>([],false)
 |some (o,sm)=>l8 o sm
theorem w0 {s:ByteArray}(h:oh (bm s 44) [] false=none):bl s=([],false):=by unfold bl;rw [h]
theorem jX {s:ByteArray}{o:List Pt}{sm:Bool}(h:oh (bm s 44) [] false=some (o,sm)):bl s=l8 o sm:=by unfold bl;rw [h]
theorem zZ {o:List Pt}{sm:Bool}(h:decide ((o.length:Int)≠4)=true):l8 o sm=([],false):=by unfold l8;rw [h];rfl
theorem zY {o:List Pt}{sm:Bool}(h:(!sm)=true):l8 o sm=([],false):=by unfold l8;rw [h,ZC4];rfl
theorem vM {o:List Pt}{sm:Bool}(h:decide ((o.length:Int)≠4)=false) (h2:(!sm)=false):l8 o sm=(o,true):=by unfold l8;rw [h,h2];rfl
theorem aeD {t:ByteArray}{l:List ByteArray}{out:List Pt}{sm:Bool}(h:(!(bP t).2)=false):oh (t::l) out sm=oh l (out++[(bP t).1]) (sm|| !(au (bP t).1)):=by rw [oh,cL h];rfl
theorem ah0 {t:ByteArray}{l:List ByteArray}{out:List Pt}{sm:Bool}(h:(!(bP t).2)=true):oh (t::l) out sm=none:=by rw [oh,xm h];rfl
def qg (s:ByteArray):Prop:=s.size≤1000000
def ir (s:ByteArray):AV:=.t [.s (.xs 0 5 0 (bl s).1.length),.s (.q (bl s).2)]
def jS (s:ByteArray):List AV:=[.rs ae (bl s).1]
def vY:cn where
 A:=[.s .str]
 B:=[]
 pre:=λx b=>qg x
 r:=λx b _=>ir x
 o:=λx b _=>jS x
 nf:=1
theorem TH:Has Tryz.prog 195 vY:=by
 refine Has.fm zT zF zF (l:=[(167,iD),(123,qD),(81,cx)]) ⟨tG,IN,cz,aa⟩ Tryz.func195 ?_
 rintro (s:ByteArray) _ (hp:qg s)
 show vc _ _ _ _ (entry [.str s] []) _
 unfold qg at hp
 have TP:=tW s 44
 refine⟨⟨tv3,?_⟩,λx1 w2=>⟨aa,?_⟩⟩
 all_goals first|refine aw ?_|refine ax ?_|exact a8|(dsimp only [iD,iQ,qD,mN];omega)|exact a7|skip
 refine cN (l:=[(167,iD),(123,qD),(81,cx)]) (ex:=zT) (wr:=zF) (pt:=zF) ⟨tG,IN,cz,aa⟩ [.s 0,.s 4,.b 120000] (λy:Nat×List Pt×Bool=>[(.s 5,.s (.xs 1012 5 0 y.2.1.length)),(.s 6,.s (.q y.2.2)),(.s 7,.int y.1),(.b 1012,.rs ae y.2.1)]) (λy=>y.1≤(bm s 44).length∧y.2.1.length=y.1∧oh ((bm s 44).drop y.1) y.2.1 y.2.2=oh (bm s 44) [] false) (λy=>(bm s 44).length-y.1) (0,[],false) [] ⟨ZA7 _,rfl,rfl⟩ dM ?_
 rintro⟨i,out,sm⟩ ⟨(hi:i≤(bm s 44).length),(hl:out.length=i),(hr:oh ((bm s 44).drop i) out sm=oh (bm s 44) [] false)⟩
 have dj:i<(bm s 44).length→(nth ab (bm s 44) i).size≤1000000:=λh=>ZB0 (oX (s:=s) (c:=44) _ (bR (ek:=ab) h)) hp
 have cO:i<(bm s 44).length→(bm s 44).drop i=nth ab (bm s 44) i::(bm s 44).drop (i+1):=λh=>bW (ek:=ab) h
 have cm:decide ((i:Int)<((bm s 44).length:Int))=true→i<(bm s 44).length:=λh=>by have:=aJ h;omega
 have ob:decide ((i:Int)<((bm s 44).length:Int))=false→oh (bm s 44) [] false=some (out,sm):=λh=>by
  have:=aA h
  rw [←hr,ZB3 (by omega)];rfl
 refine⟨λw1=>⟨⟨?_,?_⟩,?_,⟨tv2,?_⟩,λx2 w3=>⟨λw4=>⟨aa,?_⟩,λw5=>⟨aa,λw6=>⟨aa,⟨⟨?_,?_⟩,?_,?_⟩,⟨?_,?_⟩,?_⟩,λw7=>⟨⟨⟨tv6,aa⟩,aa⟩,λx8 w9=>⟨aa,⟨⟨?_,?_⟩,?_,?_⟩,⟨?_,?_⟩,?_⟩⟩⟩⟩⟩,λdy=>⟨aa,λkA=>⟨aa,?_⟩,λdJ=>⟨λiU=>⟨aa,?_⟩,λgO=>?_⟩⟩⟩
 all_goals first|refine aw ?_|refine ax ?_|exact a8|(dsimp only [iD,iQ,qD,mN];omega)|exact a7|(exact dj (cm (by assumption)))|skip
 ·have e:oh (bm s 44) [] false=none:=by rw [←hr,cO (cm (by assumption)),ah0 (by assumption)]
  refine⟨[1029],[],_,_,_,ζ,az,(),aa,?_,?_,ζ⟩
  ·(show _=ir s);unfold ir;first|(rw [w0 e];rfl)|rfl
  ·(show _=jS s);unfold jS;first|(rw [w0 e];rfl)|rfl
 ·refine⟨(i+1,out++[(bP (nth ab (bm s 44) i)).1],true),[(1012,1039)],?_,?_,?_⟩
  rotate_right
  ·exact bV
  ·have bU:=cm (by assumption)
   refine⟨bU,by show List.length (_++_)=_;rw [ZA0,hl];rfl,?_⟩
   rw [←hr,cO bU,aeD (by assumption),show sm=true by assumption];rfl
  ·show (bm s 44).length-(i+1)<(bm s 44).length-i;have:=cm (by assumption);omega
 ·refine⟨(i+1,out++[(bP (nth ab (bm s 44) i)).1],!(au (bP (nth ab (bm s 44) i)).1)),[(1012,1039)],?_,?_,?_⟩
  rotate_right
  ·exact bV
  ·have bU:=cm (by assumption)
   refine⟨bU,by show List.length (_++_)=_;rw [ZA0,hl];rfl,?_⟩
   rw [←hr,cO bU,aeD (by assumption),show sm=false by assumption];rfl
  ·show (bm s 44).length-(i+1)<(bm s 44).length-i;have:=cm (by assumption);omega
 ·refine⟨[1047],[],_,_,_,ζ,az,(),aa,?_,?_,ζ⟩
  ·(show _=ir s);unfold ir;first|(rw [jX (ob (by assumption)),zZ (by assumption)];rfl)|rfl
  ·(show _=jS s);unfold jS;first|(rw [jX (ob (by assumption)),zZ (by assumption)];rfl)|rfl
 ·refine⟨[1047],[],_,_,_,ζ,az,(),aa,?_,?_,ζ⟩
  ·(show _=ir s);unfold ir;first|(rw [jX (ob (by assumption)),zY (by assumption)];rfl)|rfl
  ·(show _=jS s);unfold jS;first|(rw [jX (ob (by assumption)),zY (by assumption)];rfl)|rfl
 ·refine⟨[1012],[],_,_,_,ζ,az,(),aa,?_,?_,ζ⟩
  ·(show _=ir s);unfold ir;first|(rw [jX (ob (by assumption)),vM (by assumption) (by assumption)];rfl)|rfl
  ·(show _=jS s);unfold jS;first|(rw [jX (ob (by assumption)),vM (by assumption) (by assumption)];rfl)|rfl
def gX:List Pt→Nat→ByteArray→Bool→Option (ByteArray×Bool)
 |[],_,out,sm=>some (out,sm)
 |p::l,i,out,sm=>bif aZ p then gX l (i+1) ((bif decide ((i:Int)>0) then out++⟨#[44]⟩ else out)++bc p) (sm|| !(au p)) else none
def rl (o:ByteArray) (sm:Bool):ByteArray×Bool:=bif !sm then (⟨#[]⟩,false) else (o,true)
def rk (l:List Pt):ByteArray×Bool:=
 match gX l 0 ⟨#[]⟩ false with
 |none=>(⟨#[]⟩,false)
 |some (o,sm)=>rl o sm
def bE (l:List Pt):ByteArray×Bool:=bif decide ((l.length:Int)≠4) then (⟨#[]⟩,false) else rk l
theorem wY {l:List Pt}(h:decide ((l.length:Int)≠4)=true):bE l=(⟨#[]⟩,false):=by unfold bE;rw [h];rfl
theorem wX {l:List Pt}(h:decide ((l.length:Int)≠4)=false):bE l=rk l:=by unfold bE;rw [h];rfl
theorem pj {l:List Pt}(h:gX l 0 ⟨#[]⟩ false=none):rk l=(⟨#[]⟩,false):=by unfold rk;rw [h]
theorem sF {l:List Pt}{o:ByteArray}{sm:Bool}(h:gX l 0 ⟨#[]⟩ false=some (o,sm)):rk l=rl o sm:=by unfold rk;rw [h]
theorem C5 {o:ByteArray}{sm:Bool}(h:(!sm)=true):rl o sm=(⟨#[]⟩,false):=by unfold rl;rw [h];rfl
theorem wZ {o:ByteArray}{sm:Bool}(h:(!sm)=false):rl o sm=(o,true):=by unfold rl;rw [h];rfl
theorem agf {p:Pt}{l:List Pt}{i:Nat}{out:ByteArray}{sm:Bool}(h:(!(aZ p))=true):gX (p::l) i out sm=none:=by rw [gX,xm h];rfl
theorem FM {p:Pt}{l:List Pt}{i:Nat}{out:ByteArray}{sm:Bool}(h:(!(aZ p))=false):gX (p::l) i out sm=gX l (i+1) ((bif decide ((i:Int)>0) then out++⟨#[44]⟩ else out)++bc p) (sm|| !(au p)):=by rw [gX,cL h];rfl
theorem QH {a b:ByteArray}(ha:a.size≤1000000) (hb:b.size≤1000000):((a.size+b.size:Nat):Int)≤imax:=by
 unfold imax;omega
theorem agB (p:Pt):(bc p).size≤1000000:=ZB0 (gu p) (by omega)
def ym (l:List Pt):Prop:=True
def iq (l:List Pt):AV:=.t [.s (.str (bE l).1),.s (.q (bE l).2)]
def abv (l:List Pt):List AV:=[]
def J7:cn where
 A:=[.s (.vz ae)]
 B:=[]
 pre:=λx b=>ym x
 r:=λx b _=>iq x
 o:=λx b _=>abv x
theorem ad3:Has Tryz.prog 191 J7:=by
 refine Has.fm zT zF zF (l:=[(80,cX),(81,cx),(162,qC)]) ⟨iB,cz,IM,aa⟩ Tryz.func191 ?_
 rintro (l:List Pt) _ (hp:ym l)
 show vc _ _ _ _ (entry [.s (.vz ae l)] []) _
 refine⟨λw1=>?_,λw2=>?_⟩
 all_goals first|refine aw ?_|refine ax ?_|exact a8|(dsimp only [cX,dZ,qC,qd];omega)|exact a7|skip
 ·refine⟨[],[],_,_,_,ζ,az,(),aa,?_,?_,ζ⟩
  ·(show _=iq l);unfold iq;first|(rw [wY (by assumption)];rfl)|rfl
  ·rfl
 ·have h4:l.length=4:=by have:=aA (p:=(l.length:Int)≠4) (by assumption);omega
  have hM:=wX (l:=l) (by assumption)
  refine cN (l:=[(80,cX),(81,cx),(162,qC)]) (ex:=zT) (wr:=zF) (pt:=zF) ⟨iB,cz,IM,aa⟩ [.s 0] (λy:Nat×ByteArray×Bool=>[(.s 4,.str y.2.1),(.s 5,.s (.q y.2.2)),(.s 6,.int y.1)]) (λy=>y.1≤4∧y.2.1.size≤65*y.1∧gX (l.drop y.1) y.1 y.2.1 y.2.2=gX l 0 ⟨#[]⟩ false) (λy=>4-y.1) (0,⟨#[]⟩,false) [] ⟨ZA7 _,ZA7 _,rfl⟩ dM ?_
  rintro⟨i,out,sm⟩ ⟨(hi:i≤4),(ho:out.size≤65*i),(hr:gX (l.drop i) i out sm=gX l 0 ⟨#[]⟩ false)⟩
  have cm:decide ((i:Int)<(l.length:Int))=true→i<l.length:=λh=>by have:=aJ h;omega
  have cO:i<l.length→l.drop i=nth ae l i::l.drop (i+1):=λh=>bW (ek:=ae) h
  have dj:=gu (nth ae l i)
  have ob:decide ((i:Int)<(l.length:Int))=false→gX l 0 ⟨#[]⟩ false=some (out,sm):=λh=>by
   have:=aA h
   rw [←hr,ZB3 (by omega)];rfl
  refine⟨λw1=>⟨⟨?_,?_⟩,⟨⟨tv6,aa⟩,aa⟩,λx2 w3=>⟨λw4=>?_,λw5=>⟨aa,λw6=>⟨λw7=>⟨?_,⟨?_,?_⟩,⟨⟨tv6,aa⟩,aa⟩,λx8 w9=>⟨?_,⟨?_,?_⟩,?_⟩⟩,λdy=>⟨⟨?_,?_⟩,⟨⟨tv6,aa⟩,aa⟩,λkz dJ=>⟨?_,⟨?_,?_⟩,?_⟩⟩⟩,λiU=>⟨⟨?_,?_⟩,⟨⟨tv6,aa⟩,aa⟩,λx14 qK=>⟨λkg=>⟨?_,⟨?_,?_⟩,⟨⟨tv6,aa⟩,aa⟩,λx17 rS=>⟨?_,⟨?_,?_⟩,?_⟩⟩,λoL=>⟨⟨?_,?_⟩,⟨⟨tv6,aa⟩,aa⟩,λx20 A4=>⟨?_,⟨?_,?_⟩,?_⟩⟩⟩⟩⟩⟩⟩,λA3=>⟨λxK=>?_,λrR=>?_⟩⟩
  all_goals first|refine aw ?_|refine ax ?_|exact a8|(dsimp only [cX,dZ,qC,qd];omega)|exact a7|(exact QH (show out.size≤1000000 by omega) (by rw [sz1];omega))|(exact QH (show (out++(⟨#[44]⟩:ByteArray)).size≤1000000 by rw [ZB2,sz1];omega) (agB _))|(exact QH (show out.size≤1000000 by omega) (agB _))|skip
  ·have e:gX l 0 ⟨#[]⟩ false=none:=by rw [←hr,cO (cm (by assumption)),agf (by assumption)]
   refine⟨[],[],_,_,_,ζ,az,(),aa,?_,?_,ζ⟩
   ·(show _=iq l);unfold iq;first|(rw [hM,pj e];rfl)|rfl
   ·rfl
  ·have bU:=cm (by assumption)
   refine⟨(i+1,out++⟨#[44]⟩++bc (nth ae l i),true),[],?_,?_,?_⟩
   rotate_right
   ·exact bV
   ·refine⟨by show i+1≤4;omega,by simp only [ZB2,sz1];omega,?_⟩
    rw [←hr,cO bU,FM (by assumption),show decide ((i:Int)>0)=true by assumption,show sm=true by assumption];rfl
   ·show 4-(i+1)<4-i;omega
  ·have bU:=cm (by assumption)
   refine⟨(i+1,out++bc (nth ae l i),true),[],?_,?_,?_⟩
   rotate_right
   ·exact bV
   ·refine⟨by show i+1≤4;omega,by simp only [ZB2,sz1];omega,?_⟩
    rw [←hr,cO bU,FM (by assumption),show decide ((i:Int)>0)=false by assumption,show sm=true by assumption];rfl
   ·show 4-(i+1)<4-i;omega
  ·have bU:=cm (by assumption)
   refine⟨(i+1,out++⟨#[44]⟩++bc (nth ae l i),!(au (nth ae l i))),[],?_,?_,?_⟩
   rotate_right
   ·exact bV
   ·refine⟨by show i+1≤4;omega,by simp only [ZB2,sz1];omega,?_⟩
    rw [←hr,cO bU,FM (by assumption),show decide ((i:Int)>0)=true by assumption,show sm=false by assumption];rfl
   ·show 4-(i+1)<4-i;omega
  ·have bU:=cm (by assumption)
   refine⟨(i+1,out++bc (nth ae l i),!(au (nth ae l i))),[],?_,?_,?_⟩
   rotate_right
   ·exact bV
   ·refine⟨by show i+1≤4;omega,by simp only [ZB2,sz1];omega,?_⟩
    rw [←hr,cO bU,FM (by assumption),show decide ((i:Int)>0)=false by assumption,show sm=false by assumption];rfl
   ·show 4-(i+1)<4-i;omega
  ·refine⟨[],[],_,_,_,ζ,az,(),aa,?_,?_,ζ⟩
   ·(show _=iq l);unfold iq;first|(rw [hM,sF (ob (by assumption)),C5 (by assumption)];rfl)|rfl
   ·rfl
  ·refine⟨[],[],_,_,_,ζ,az,(),aa,?_,?_,ζ⟩
   ·(show _=iq l);unfold iq;first|(rw [hM,sF (ob (by assumption)),wZ (by assumption)];rfl)|rfl
   ·rfl
end GL
namespace GL
def dB:List ByteArray→ByteArray→ByteArray×Bool
 |[],out=>(out,true)
 |x::l,out=>bif decide ((x.size:Int)>2048) then (⟨#[]⟩,false) else
  bif decide (((out++bX x.size++⟨#[58]⟩++x).size:Int)>2048) then (⟨#[]⟩,false) else dB l (out++bX x.size++⟨#[58]⟩++x)
def cE (l:List ByteArray):ByteArray×Bool:=bif decide ((l.length:Int)≤60) then dB l ⟨#[]⟩ else (⟨#[]⟩,false)
theorem gE {l:List ByteArray}(h:decide ((l.length:Int)≤60)=true):cE l=dB l ⟨#[]⟩:=by unfold cE;rw [h];rfl
theorem tP {l:List ByteArray}(h:decide ((l.length:Int)≤60)=false):cE l=(⟨#[]⟩,false):=by unfold cE;rw [h];rfl
theorem M0 {x:ByteArray}{l:List ByteArray}{out:ByteArray}(h:decide ((x.size:Int)>2048)=true):dB (x::l) out=(⟨#[]⟩,false):=by rw [dB,h];rfl
theorem MZ {x:ByteArray}{l:List ByteArray}{out:ByteArray}(h:decide (((out++bX x.size++⟨#[58]⟩++x).size:Int)>2048)=true):dB (x::l) out=(⟨#[]⟩,false):=by
 rw [dB,h];cases decide ((x.size:Int)>2048)<;>rfl
theorem MY {x:ByteArray}{l:List ByteArray}{out:ByteArray}(h:decide ((x.size:Int)>2048)=false) (h2:decide (((out++bX x.size++⟨#[58]⟩++x).size:Int)>2048)=false):dB (x::l) out=dB l (out++bX x.size++⟨#[58]⟩++x):=by rw [dB,h,h2];rfl
def kl (l:List ByteArray):Prop:=True
def eW (l:List ByteArray):AV:=.t [.s (.str (cE l).1),.s (.q (cE l).2)]
def OS (l:List ByteArray):List AV:=[]
def jG:cn where
 A:=[.s (.vz ab)]
 B:=[]
 pre:=λx b=>kl x
 r:=λx b _=>eW x
 o:=λx b _=>OS x
theorem vB:Has Tryz.prog 160 jG:=by
 refine Has.fm zT zF zF (l:=[(161,j5)]) ⟨wR,aa⟩ Tryz.func160 ?_
 rintro (l:List ByteArray) _ (hp:kl l)
 show vc _ _ _ _ (entry [.s (.vz ab l)] []) _
 refine cN (l:=[(161,j5)]) (ex:=zT) (wr:=zF) (pt:=zF) ⟨wR,aa⟩ [.s 0] (λy:Nat×ByteArray=>[(.s 4,.str y.2),(.s 5,.int y.1)]) (λy=>y.1≤l.length∧y.2.size≤2048∧(l.length≤60→dB (l.drop y.1) y.2=dB l ⟨#[]⟩)∧(60<l.length→y.1=0∧y.2=⟨#[]⟩)) (λy=>l.length-y.1) (0,⟨#[]⟩) [] ⟨ZA7 _,ZA7 _,λ_=>rfl,λ_=>⟨rfl,rfl⟩⟩ dM ?_
 rintro⟨i,out⟩ ⟨(hi:i≤l.length),(ho:out.size≤2048),(hr:l.length≤60→dB (l.drop i) out=dB l ⟨#[]⟩),(h0:60<l.length→i=0∧out=⟨#[]⟩)⟩
 have cm:decide ((i:Int)<(l.length:Int))=true→i<l.length:=λh=>by have:=aJ h;omega
 have h60:decide ((l.length:Int)≤60)=true→l.length≤60:=λh=>by have:=aJ h;omega
 have cO:i<l.length→l.drop i=nth ab l i::l.drop (i+1):=λh=>bW (ek:=ab) h
 have hsm:decide (((nth ab l i).size:Int)>2048)=false→(nth ab l i).size≤2048∧(bX ((nth ab l i).size:Int)).size≤12:=λh=>by
  have:=aA h
  exact⟨by omega,db (by omega)⟩
 refine⟨aa,λw1=>⟨λw2=>⟨⟨?_,?_⟩,λw3=>?_,λw4=>⟨Sq4,Sq23,ζ,Sq0,Sq24,ζ,Sq5,Sq25,ζ,[.s 24,.s 25],Sq26,ζ,⟨?_,?_⟩,Sq26,Sq27,ζ,Sq27,Sq28,ζ,Sq28,Sq29,ζ,⟨tv2,?_,?_⟩,?_,λx5 w6=>⟨[.s 23,.s 29],Sq30,ζ,?_,Sq30,Sq31,ζ,?_,Sq0,Sq32,ζ,Sq5,Sq33,ζ,[.s 32,.s 33],Sq34,ζ,⟨?_,?_⟩,Sq34,Sq35,ζ,[.s 31,.s 35],Sq36,ζ,?_,Sq36,Sq4,ζ,λw7=>?_,λw8=>⟨⟨?_,?_⟩,?_⟩⟩⟩⟩,λw9=>?_⟩,λdy=>?_⟩
 all_goals first|refine aw ?_|refine ax ?_|exact a8|(dsimp only [j5,mK];omega)|exact a7|(have:=hsm (by assumption);exact QH (show (out++bX ((nth ab l i).size:Int)).size≤1000000 by rw [ZB2];omega) (by rw [sz1];omega))|(have:=hsm (by assumption);exact QH (show (out++bX ((nth ab l i).size:Int)++(⟨#[58]⟩:ByteArray)).size≤1000000 by rw [ZB2,ZB2,sz1];omega) (show (nth ab l i).size≤1000000 by omega))|skip
 ·have e:dB l ⟨#[]⟩=(⟨#[]⟩,false):=by rw [←hr (h60 (by assumption)),cO (cm (by assumption)),M0 (by assumption)]
  refine⟨[],[],_,_,_,ζ,az,(),aa,?_,?_,ζ⟩
  ·(show _=eW l);unfold eW;first|(rw [gE (by assumption),e];rfl)|rfl
  ·rfl
 ·have e:dB l ⟨#[]⟩=(⟨#[]⟩,false):=by rw [←hr (h60 (by assumption)),cO (cm (by assumption)),MZ (by assumption)]
  refine⟨[],[],_,_,_,ζ,az,(),aa,?_,?_,ζ⟩
  ·(show _=eW l);unfold eW;first|(rw [gE (by assumption),e];rfl)|rfl
  ·rfl
 ·have bU:=cm (by assumption)
  have h6:=h60 (by assumption)
  have hs2:¬(((out++bX ((nth ab l i).size:Int)++(⟨#[58]⟩:ByteArray)++nth ab l i).size:Int)>2048):=aA (by assumption)
  refine⟨(i+1,out++bX ((nth ab l i).size:Int)++⟨#[58]⟩++nth ab l i),[],?_,?_,?_⟩
  rotate_right
  ·exact bV
  ·refine⟨bU,Int.ofNat_le.1 (ZH1.1 hs2),λh=>?_,λh=>absurd h6 (by omega)⟩
   rw [←hr h,cO bU,MY (by assumption) (by assumption)]
  ·show l.length-(i+1)<l.length-i;omega
 ·have hd:decide ((l.length:Int)≤60)=false:=by assumption
  obtain⟨rfl,rfl⟩:=h0 (by have:=aA hd;omega)
  refine⟨[],[],_,_,_,ζ,az,(),aa,?_,?_,ζ⟩
  ·(show _=eW l);unfold eW;first|((rw [tP hd];show AV.t [_,A0.s (SV.q (decide ((l.length:Int)≤60)))]=_;rw [hd];rfl))|rfl
  ·rfl
 ·have FL:¬i<l.length:=by have:=aA (p:=(i:Int)<(l.length:Int)) (by assumption);omega
  have h6:l.length≤60:=by
   by_cases h:l.length≤60
   ·exact h
   ·obtain⟨h1,_⟩:=h0 (by omega);omega
  have hd:decide ((l.length:Int)≤60)=true:=decide_eq_true (by omega)
  have e:cE l=(out,true):=by rw [gE hd,←hr h6,ZB3 (by omega)];rfl
  refine⟨[],[],_,_,_,ζ,az,(),aa,?_,?_,ζ⟩
  ·(show _=eW l);unfold eW;first|((rw [e];show AV.t [_,A0.s (SV.q (decide ((l.length:Int)≤60)))]=_;rw [hd];rfl))|rfl
  ·rfl
end GL
namespace GL
def bj (n:Int):Int:=bif decide (n≤1) then 0 else bif decide (n≤4) then 1 else 2
def ko (k:Int):Int:=bif decide (k=1) then 12 else bif decide (k=2) then 128 else 0
def bh (size each:Int):Int:=(size+each-1) / each
def bH (k s:Int):Int:=bif decide (ko k=0)|| !(ik s 0 (16*ko k)) then -1 else bh s (ko k)
theorem vP (k:Int):ko k=12∨ko k=128∨ko k=0:=by
 unfold ko
 cases decide (k=1)<;>cases decide (k=2)<;>simp
def fe (n:Int):Prop:=True
def uZ (n:Int):AV:=.int (bj n)
def VZ (n:Int):List AV:=[]
def dD:cn where
 A:=[.s .int]
 B:=[]
 pre:=λx b=>fe x
 r:=λx b _=>uZ x
 o:=λx b _=>VZ x
theorem jU:Has Tryz.prog 105 dD:=by
 refine Has.fm zT zF zF (l:=[]) trivial Tryz.func105 ?_
 rintro (n:Int) _ (hp:fe n)
 show vc _ _ _ _ (entry [.int n] []) _
 refine⟨λw1=>?_,λw2=>⟨λw3=>?_,λw4=>?_⟩⟩
 all_goals first|refine aw ?_|refine ax ?_|exact a8|exact a7|skip
 all_goals
  refine⟨[],[],_,_,_,ζ,az,(),aa,?_,?_,ζ⟩
  ·(show _=uZ n);unfold uZ;first|((simp only [bj, *];rfl))|rfl
  ·rfl
def vg (k:Int):Prop:=True
def u6 (k:Int):AV:=.int (ko k)
def V9 (k:Int):List AV:=[]
def DE:cn where
 A:=[.s .int]
 B:=[]
 pre:=λx b=>vg x
 r:=λx b _=>u6 x
 o:=λx b _=>V9 x
theorem abL:Has Tryz.prog 200 DE:=by
 refine Has.fm zT zF zF (l:=[]) trivial Tryz.func200 ?_
 rintro (k:Int) _ (hp:vg k)
 show vc _ _ _ _ (entry [.int k] []) _
 refine⟨λw1=>?_,λw2=>⟨λw3=>?_,λw4=>?_⟩⟩
 all_goals first|refine aw ?_|refine ax ?_|exact a8|exact a7|skip
 all_goals
  refine⟨[],[],_,_,_,ζ,az,(),aa,?_,?_,ζ⟩
  ·(show _=u6 k);unfold u6;first|((simp only [ko, *];rfl))|rfl
  ·rfl
def kj (a:Int) (b:Int):Prop:=0≤a∧a≤1000000∧0<b∧b≤1000000
def rD (a:Int) (b:Int):AV:=.int (bh a b)
def ON (a:Int) (b:Int):List AV:=[]
def lq:cn where
 A:=[.s .int,.s .int]
 B:=[]
 pre:=λx b=>kj (x.1) (x.2)
 r:=λx b _=>rD (x.1) (x.2)
 o:=λx b _=>ON (x.1) (x.2)
theorem D2:Has Tryz.prog 201 lq:=by
 refine Has.fm zT zF zF (l:=[]) trivial Tryz.func201 ?_
 rintro⟨(a:Int),(b:Int)⟩ _ (hp:kj a b)
 show vc _ _ _ _ (entry [.int a,.int b] []) _
 obtain⟨h1,h2,h3,h4⟩:=hp
 refine⟨⟨?_,?_⟩,⟨⟨?_,?_⟩,⟨⟨?_,⟨?_,?_⟩⟩,?_⟩⟩⟩
 all_goals first|refine aw ?_|refine ax ?_|exact a8|exact a7|skip
 refine⟨[],[],_,_,_,ζ,az,(),aa,?_,?_,ζ⟩
 ·(show _=rD a b);unfold rD;first|rfl
 ·rfl
def qe (k:Int) (s:Int):Prop:=True
def pP (k:Int) (s:Int):AV:=.int (bH k s)
def KW (k:Int) (s:Int):List AV:=[]
def uh:cn where
 A:=[.s .int,.s .int]
 B:=[]
 pre:=λx b=>qe (x.1) (x.2)
 r:=λx b _=>pP (x.1) (x.2)
 o:=λx b _=>KW (x.1) (x.2)
theorem PI:Has Tryz.prog 168 uh:=by
 refine Has.fm zT zF zF (l:=[(200,DE),(35,hZ),(201,lq)]) ⟨abL,iA,D2,aa⟩ Tryz.func168 ?_
 rintro⟨(k:Int),(s:Int)⟩ _ (hp:qe k s)
 show vc _ _ _ _ (entry [.int k,.int s] []) _
 have hE:=vP k
 have hI:(!(ik s 0 (16*ko k)))=false→0≤s∧s≤2048:=λh=>by
  have:=cC.1 (cL h)
  omega
 refine⟨⟨tv2,aa⟩,λx1 w2=>⟨aa,λw3=>?_,λw4=>⟨⟨?_,?_⟩,⟨tv4,aa⟩,λx5 w6=>⟨λw7=>?_,λw8=>⟨⟨tv3,?_,?_,?_,?_⟩,λx9 dy=>?_⟩⟩⟩⟩⟩
 all_goals first|refine aw ?_|refine ax ?_|exact a8|(dsimp only [DE,vg,lq,kj];omega)|exact a7|(have:=hI (by assumption);have:=aA (p:=ko k=0) (by assumption);dsimp only [lq,kj];omega)|skip
 all_goals
  refine⟨[],[],_,_,_,ζ,az,(),aa,?_,?_,ζ⟩
  ·(show _=pP k s);unfold pP;first|((simp only [bH, *];rfl))|rfl
  ·rfl
theorem xz (k s:Int): -1≤bH k s∧bH k s≤16:=by
 unfold bH
 cases h:decide (ko k=0)|| !(ik s 0 (16*ko k)) with
 |true=>simp
 |false=>
  simp only [ZE1,decide_eq_false_iff_not] at h
  have h2:=cC.1 (cL h.2)
  simp only [cond_false,bh]
  rcases vP k with e |e |e
  ·rw [e] at h2 ⊢;omega
  ·rw [e] at h2 ⊢;omega
  ·exact absurd e h.1
abbrev fu.root (n:fu):Pt:=(n.2.2.2.1,n.2.2.2.2.1,n.2.2.2.2.2.1,n.2.2.2.2.2.2.1,n.2.2.2.2.2.2.2.1)
abbrev fu.tree (n:fu):bf:=n.2.2.2
def cy (n:fu):Bool:=
 bif decide (bH n.1 n.2.2.1<0)||(decide (n.2.2.2.2.2.2.2.2.2≠bH n.1 n.2.2.1)||(decide (n.2.2.2.2.2.2.2.2.1≠bj (bH n.1 n.2.2.1))|| !(aZ n.root))) then false
 else ik n.2.1 1 (bif decide (n.1=2) then 1 else 9)&&(au n.root||decide (n.2.2.2.2.2.2.2.1=n.2.2.2.2.2.2.2.2.1))
def qf (n:fu):Prop:=True
def yb (n:fu):AV:=.q (cy n)
def abt (n:fu):List AV:=[]
def qF:cn where
 A:=[.a [.int,.int,.int,.int,.int,.int,.int,.int,.int,.int]]
 B:=[]
 pre:=λx b=>qf x
 r:=λx b _=>yb x
 o:=λx b _=>abt x
theorem IQ:Has Tryz.prog 124 qF:=by
 refine Has.fm zT zF zF (l:=[(168,uh),(105,dD),(80,cX),(81,cx),(35,hZ)]) ⟨PI,jU,iB,cz,iA,aa⟩ Tryz.func124 ?_
 rintro⟨(n1:Int),(n2:Int),(n3:Int),(n4:Int),(n5:Int),(n6:Int),(n7:Int),(n8:Int),(n9:Int),(cw:Int)⟩ _ (hp:qf (n1,n2,n3,n4,n5,n6,n7,n8,n9,cw))
 show vc _ _ _ _ (entry [.a [.int n1,.int n2,.int n3,.int n4,.int n5,.int n6,.int n7,.int n8,.int n9,.int cw]] []) _
 have hbd:=xz n1 n3
 refine⟨⟨tv3,aa⟩,λx1 w2=>⟨Sq3,Sq10,ζ,Sq10,Sq11,ζ,Sq11,Sq12,ζ,aa,λw3=>⟨Sq12,Sq13,ζ,Sq12,Sq14,ζ,Sq12,Sq15,ζ,Sq12,Sq16,ζ,Sq12,Sq17,ζ,[.s 12,.s 17],Sq18,ζ,Sq18,Sq19,ζ,Sq19,Sq20,ζ,Sq19,Sq21,ζ,Sq19,Sq22,ζ,Sq19,Sq23,ζ,Sq19,Sq24,ζ,Sq19,Sq25,ζ,[.s 19,.s 25],Sq26,ζ,Sq26,Sq27,ζ,Sq27,Sq28,ζ,Sq27,Sq29,ζ,Sq27,Sq30,ζ,Sq27,Sq31,ζ,Sq27,Sq32,ζ,[.s 27,.s 32],Sq33,ζ,?_⟩,λw4=>⟨[.s 12,.s 1],Sq13,ζ,[.s 12,.s 13],Sq14,ζ,[.s 12,.s 14,.b 1001],Sq15,ζ,[.s 12,.s 3],Sq16,ζ,[.s 12,.s 15,.s 16],Sq17,ζ,[.s 12,.s 17],Sq18,ζ,Sq18,Sq19,ζ,aa,λw5=>⟨Sq19,Sq20,ζ,Sq19,Sq21,ζ,Sq19,Sq22,ζ,Sq19,Sq23,ζ,Sq19,Sq24,ζ,Sq19,Sq25,ζ,[.s 19,.s 25],Sq26,ζ,Sq26,Sq27,ζ,Sq27,Sq28,ζ,Sq27,Sq29,ζ,Sq27,Sq30,ζ,Sq27,Sq31,ζ,Sq27,Sq32,ζ,[.s 27,.s 32],Sq33,ζ,?_⟩,λw6=>⟨[.s 19,.s 1],Sq20,ζ,[.s 19,.s 20],Sq21,ζ,[.s 19,.s 21,.b 1001],Sq22,ζ,[.s 19,.s 3],Sq23,ζ,[.s 19,.s 23],Sq24,ζ,⟨tv2,aa⟩,?_,λx7 w8=>⟨[.s 19,.s 22,.s 24],Sq25,ζ,[.s 19,.s 25],Sq26,ζ,Sq26,Sq27,ζ,aa,λw9=>⟨Sq27,Sq28,ζ,Sq27,Sq29,ζ,Sq27,Sq30,ζ,Sq27,Sq31,ζ,Sq27,Sq32,ζ,[.s 27,.s 32],Sq33,ζ,?_⟩,λdy=>⟨[.s 27,.s 1],Sq28,ζ,[.s 27,.s 28],Sq29,ζ,[.s 27,.s 29,.b 1001],Sq30,ζ,[.s 27,.s 30],Sq31,ζ,⟨⟨tv6,aa⟩,aa⟩,?_,λkz dJ=>⟨[.s 27,.s 31],Sq32,ζ,[.s 27,.s 32],Sq33,ζ,λiU=>?_,λgO=>⟨λqK=>⟨⟨tv4,aa⟩,λx16 xh=>⟨aa,λrS=>⟨⟨⟨tv6,aa⟩,aa⟩,λx19 uI=>⟨aa,λA4=>?_,λA3=>?_⟩⟩,λxK=>?_⟩⟩,λrR=>⟨⟨tv4,aa⟩,λx25 w26=>⟨aa,λw27=>⟨⟨⟨tv6,aa⟩,aa⟩,λx28 w29=>⟨aa,λw30=>?_,λw31=>?_⟩⟩,λw32=>?_⟩⟩⟩⟩⟩⟩⟩⟩⟩⟩
 all_goals first|refine aw ?_|refine ax ?_|exact a8|(dsimp only [uh,qe,dD,fe,cX,dZ];omega)|exact a7|skip
 all_goals
  refine⟨[],[],_,_,_,ζ,az,(),aa,?_,?_,ζ⟩
  ·(show _=yb (n1,n2,n3,n4,n5,n6,n7,n8,n9,cw));unfold yb;first|((simp only [cy, *];rfl))|((simp [cy, *]<;>rfl))|rfl
  ·rfl
theorem pn (n:Int):0≤bj n∧bj n≤2:=by
 unfold bj
 cases decide (n≤1)<;>cases decide (n≤4)<;>simp
theorem lh {n:fu}(h:cy n=true):(1≤n.1∧n.1≤2)∧(1≤n.2.1∧n.2.1≤9)∧(0≤n.2.2.1∧n.2.2.1≤2048)∧(0≤n.2.2.2.2.2.2.2.2.1∧n.2.2.2.2.2.2.2.2.1≤2)∧(0≤n.2.2.2.2.2.2.2.2.2∧n.2.2.2.2.2.2.2.2.2≤16)∧aZ n.root=true∧
  n.2.2.2.2.2.2.2.2.2=bH n.1 n.2.2.1∧n.2.2.2.2.2.2.2.2.1=bj n.2.2.2.2.2.2.2.2.2∧(au n.root=true∨n.2.2.2.2.2.2.2.1=n.2.2.2.2.2.2.2.2.1):=by
 unfold cy at h
 cases hb:decide (bH n.1 n.2.2.1<0)||(decide (n.2.2.2.2.2.2.2.2.2≠bH n.1 n.2.2.1)||(decide (n.2.2.2.2.2.2.2.2.1≠bj (bH n.1 n.2.2.1))|| !(aZ n.root))) with
 |true=>rw [hb] at h;cases h
 |false=>
  rw [hb,cond_false] at h
  simp only [ZE1,decide_eq_false_iff_not,ZE9,Bool.not_eq_false] at hb
  obtain⟨h1,h2,h3,h4⟩:=hb
  have h4:=cL h4
  simp only [ZA9,Bool.or_eq_true,decide_eq_true_eq] at h
  have h5:=cC.1 h.1
  have h6:=xz n.1 n.2.2.1
  have h7:=pn (bH n.1 n.2.2.1)
  have hk:(1≤n.1∧n.1≤2)∧(0≤n.2.2.1∧n.2.2.1≤2048):=by
   unfold bH at h1
   cases hc:decide (ko n.1=0)|| !(ik n.2.2.1 0 (16*ko n.1)) with
   |true=>rw [hc] at h1;exact absurd (show (-1:Int)<0 by decide) h1
   |false=>
    simp only [ZE1,decide_eq_false_iff_not] at hc
    have h8:=cC.1 (cL hc.2)
    have h9:=vP n.1
    refine⟨?_,by omega⟩
    by_cases e1:n.1=1
    ·omega
    ·by_cases e2:n.1=2
     ·omega
     ·exact absurd (by unfold ko;rw [decide_eq_false e1,decide_eq_false e2];rfl) hc.1
  have h10:(bif decide (n.1=2) then (1:Int) else 9)≤9:=by cases decide (n.1=2)<;>simp
  refine⟨hk.1,⟨h5.1,by omega⟩,hk.2,by omega,by omega,h4,by omega,?_,h.2⟩
  rw [show n.2.2.2.2.2.2.2.2.2=bH n.1 n.2.2.1 by omega];omega
def aC (n:fu):ByteArray:=bif cy n then (cE [bX n.1,bX n.2.1,bX n.2.2.1,bc n.root,bX n.2.2.2.2.2.2.2.2.1,bX n.2.2.2.2.2.2.2.2.2,⟨#[101,110,100]⟩]).1 else ⟨#[]⟩
def ra (n:fu):Prop:=True
def nI (n:fu):AV:=.str (aC n)
def WL (n:fu):List AV:=[]
def sO:cn where
 A:=[.a [.int,.int,.int,.int,.int,.int,.int,.int,.int,.int]]
 B:=[]
 pre:=λx b=>ra x
 r:=λx b _=>nI x
 o:=λx b _=>WL x
theorem MK:Has Tryz.prog 118 sO:=by
 refine Has.fm zT zF zF (l:=[(124,qF),(161,j5),(162,qC),(160,jG)]) ⟨IQ,wR,IM,vB,aa⟩ Tryz.func118 ?_
 rintro⟨(n1:Int),(n2:Int),(n3:Int),(n4:Int),(n5:Int),(n6:Int),(n7:Int),(n8:Int),(n9:Int),(cw:Int)⟩ _ (hp:ra (n1,n2,n3,n4,n5,n6,n7,n8,n9,cw))
 show vc _ _ _ _ (entry [.a [.int n1,.int n2,.int n3,.int n4,.int n5,.int n6,.int n7,.int n8,.int n9,.int cw]] []) _
 by_cases cG:cy (n1,n2,n3,n4,n5,n6,n7,n8,n9,cw)=true
 ·obtain⟨b1,b2,b3,b4,b5,b6,_,_,_⟩:=lh cG
  dsimp only at b1 b2 b3 b4 b5 b6
  refine⟨⟨⟨tv11,aa⟩,aa⟩,λx1 w2=>⟨λw3=>?_,λw4=>⟨Sq1,Sq9,ζ,[.s 9,.b 1001],Sq10,ζ,Sq10,Sq11,ζ,⟨tv2,?_,?_⟩,?_,λx5 w6=>⟨Sq1,Sq12,ζ,[.s 12,.b 1001],Sq13,ζ,Sq13,Sq14,ζ,⟨tv2,?_,?_⟩,?_,λx7 w8=>⟨Sq1,Sq15,ζ,[.s 15,.b 1001],Sq16,ζ,Sq16,Sq17,ζ,⟨tv2,?_,?_⟩,?_,λx9 dy=>⟨Sq1,Sq18,ζ,Sq18,Sq19,ζ,[.s 19,.b 1001],Sq20,ζ,Sq20,Sq21,ζ,⟨⟨tv6,aa⟩,aa⟩,?_,λkz dJ=>⟨Sq1,Sq22,ζ,Sq22,Sq23,ζ,[.s 23,.b 1001],Sq24,ζ,Sq24,Sq25,ζ,⟨tv2,?_,?_⟩,?_,λrW gO=>⟨Sq1,Sq26,ζ,Sq26,Sq27,ζ,[.s 27,.b 1001],Sq28,ζ,Sq28,Sq29,ζ,⟨tv2,?_,?_⟩,?_,λky kg=>⟨[.s 11,.s 14,.s 17,.s 21,.s 25,.s 29,.b 1030],[.s 30,.b 1030],ζ,aa,[.s 30,.b 1030],Sq31,ζ,⟨⟨⟨?_,?_⟩,aa⟩,aa⟩,?_,λx17 rS=>⟨Sq31,Sq8,ζ,Sq8,Sq32,ζ,Sq8,Sq33,ζ,Sq32,Sq3,ζ,Sq33,Sq4,ζ,?_⟩⟩⟩⟩⟩⟩⟩⟩⟩⟩
  all_goals first|refine aw ?_|refine ax ?_|exact a8|(dsimp only [qF,qf,j5,mK,qC,qd,jG,kl];omega)|exact a7|skip
  ·rw [cG] at *;contradiction
  ·have e:aC (n1,n2,n3,n4,n5,n6,n7,n8,n9,cw)=(cE [bX n1,bX n2,bX n3,bc (n4,n5,n6,n7,n8),bX n9,bX cw,⟨#[101,110,100]⟩]).1:=by unfold aC;rw [cG];rfl
   refine⟨[],[],_,_,_,ζ,az,(),aa,?_,?_,ζ⟩
   ·(show _=nI (n1,n2,n3,n4,n5,n6,n7,n8,n9,cw));unfold nI;first|(rw [e];rfl)|rfl
   ·rfl
 ·have uy:cy (n1,n2,n3,n4,n5,n6,n7,n8,n9,cw)=false:=by simpa using cG
  refine⟨⟨⟨tv11,aa⟩,aa⟩,λx1 w2=>⟨λw3=>?_,λw4=>⟨Sq1,Sq9,ζ,[.s 9,.b 1001],Sq10,ζ,Sq10,Sq11,ζ,⟨tv2,?_,?_⟩,?_,λx5 w6=>⟨Sq1,Sq12,ζ,[.s 12,.b 1001],Sq13,ζ,Sq13,Sq14,ζ,⟨tv2,?_,?_⟩,?_,λx7 w8=>⟨Sq1,Sq15,ζ,[.s 15,.b 1001],Sq16,ζ,Sq16,Sq17,ζ,⟨tv2,?_,?_⟩,?_,λx9 dy=>⟨Sq1,Sq18,ζ,Sq18,Sq19,ζ,[.s 19,.b 1001],Sq20,ζ,Sq20,Sq21,ζ,⟨⟨tv6,aa⟩,aa⟩,?_,λkz dJ=>⟨Sq1,Sq22,ζ,Sq22,Sq23,ζ,[.s 23,.b 1001],Sq24,ζ,Sq24,Sq25,ζ,⟨tv2,?_,?_⟩,?_,λrW gO=>⟨Sq1,Sq26,ζ,Sq26,Sq27,ζ,[.s 27,.b 1001],Sq28,ζ,Sq28,Sq29,ζ,⟨tv2,?_,?_⟩,?_,λky kg=>⟨[.s 11,.s 14,.s 17,.s 21,.s 25,.s 29,.b 1030],[.s 30,.b 1030],ζ,aa,[.s 30,.b 1030],Sq31,ζ,⟨⟨⟨?_,?_⟩,aa⟩,aa⟩,?_,λx17 rS=>⟨Sq31,Sq8,ζ,Sq8,Sq32,ζ,Sq8,Sq33,ζ,Sq32,Sq3,ζ,Sq33,Sq4,ζ,?_⟩⟩⟩⟩⟩⟩⟩⟩⟩⟩
  all_goals first|exact absurd (cL (by assumption)) cG|skip
  ·have e:aC (n1,n2,n3,n4,n5,n6,n7,n8,n9,cw)=⟨#[]⟩:=by unfold aC;rw [uy];rfl
   refine⟨[],[],_,_,_,ζ,az,(),aa,?_,?_,ζ⟩
   ·(show _=nI (n1,n2,n3,n4,n5,n6,n7,n8,n9,cw));unfold nI;first|(rw [e];rfl)|rfl
   ·rfl
end GL
namespace GL
theorem L5 {s:ByteArray}:∀(f k:Nat),(∀j,j<k→C9 s j=true)→(∀j,j<sA f s k→C9 s j=true)∧sA f s k≤k+f
 |0,k,h=>⟨h,ZB5 _⟩
 |f+1,k,h=>by
  unfold sA
  cases hd:C9 s k with
  |true=>
   have:=L5 (s:=s) f (k+1) (λj hj=>by
    by_cases e:j=k
    ·rw [e];exact hd
    ·exact h j (by omega))
   exact⟨this.1,ZB0 this.2 (by omega)⟩
  |false=>exact⟨h,ZD3 _ _⟩
theorem aeT {s:ByteArray}{k:Nat}(h:C9 s k=true):k<s.size∧48≤bL s k∧bL s k≤57:=by
 unfold C9 at h
 simp only [ZA9,decide_eq_true_eq] at h
 omega
theorem SG {s:ByteArray}:∀(k:Nat),(∀j,j<k→C9 s j=true)→0≤iN s k∧iN s k<(10:Int) ^ k
 |0,_=>⟨ZC1 _,by show (0:Int)<1;omega⟩
 |k+1,h=>by
  have h1:=SG k (λj hj=>h j (by omega))
  have h2:=aeT (h k (by omega))
  rw [Int.pow_succ]
  show 0≤10*iN s k+(bL s k-48)∧10*iN s k+(bL s k-48)<_
  omega
theorem abA (s:ByteArray):cW s≤9∧cW s≤s.size∧(0≤iN s (cW s)∧iN s (cW s)≤999999999):=by
 have h:=L5 (s:=s) 9 0 (λj hj=>absurd hj (by omega))
 have hn:sA 9 s 0=cW s:=rfl
 rw [hn] at h
 have h1:cW s≤9:=by omega
 have h2:=SG _ h.1
 have h3:(10:Int) ^ cW s≤10 ^ 9:=by exact_mod_cast Nat.pow_le_pow_right (by omega) h1
 refine⟨h1,?_,h2.1,by omega⟩
 by_cases e:cW s=0
 ·omega
 ·have:=aeT (h.1 (cW s-1) (by omega));omega
theorem ahE (s:ByteArray):(0≤(CN s).1∧(CN s).1≤999999999)∧(0≤(CN s).2∧(CN s).2≤9)∧(CN s).2≤s.size:=by
 have h:=abA s
 unfold CN
 cases hc:decide ((cW s:Int)>1)&&decide (bL s 0=48) with
 |true=>
  simp only [ZA9,decide_eq_true_eq] at hc
  show (0≤(0:Int)∧(0:Int)≤999999999)∧(0≤(1:Int)∧(1:Int)≤9)∧(1:Int)≤s.size
  omega
 |false=>
  show (0≤iN s (cW s)∧iN s (cW s)≤999999999)∧(0≤(cW s:Int)∧(cW s:Int)≤9)∧(cW s:Int)≤s.size
  omega
def qt (s:ByteArray) (i:Int) (r:Int×Int):Bool:=
 decide (r.2=0)||(decide (i+r.2≥s.size)||(decide (bL s (i+r.2).toNat≠58)||decide (r.1>s.size-i-r.2-1)))
abbrev tQ (s:ByteArray) (i:Int):Int×Int:=CN (s.extract i.toNat s.size)
def JB:Nat→ByteArray→Int→List ByteArray→Option (List ByteArray)
 |0,_,_,_=>none
 |f+1,s,i,out=>bif decide (i<s.size) then
   (bif qt s i (tQ s i) then none else
    JB f s (i+(tQ s i).2+1+(tQ s i).1) (out++[s.extract (i+(tQ s i).2+1).toNat (i+(tQ s i).2+1+(tQ s i).1).toNat]))
  else some out
theorem EA {f:Nat}{s:ByteArray}{i:Int}{out:List ByteArray}(h:decide (i<s.size)=true) (hb:qt s i (tQ s i)=true):JB (f+1) s i out=none:=by rw [JB,h,hb];rfl
theorem ag0 {f:Nat}{s:ByteArray}{i:Int}{out:List ByteArray}(h:decide (i<s.size)=true) (hb:qt s i (tQ s i)=false):JB (f+1) s i out=JB f s (i+(tQ s i).2+1+(tQ s i).1) (out++[s.extract (i+(tQ s i).2+1).toNat (i+(tQ s i).2+1+(tQ s i).1).toNat]):=by rw [JB,h,hb];rfl
theorem aeA {f:Nat}{s:ByteArray}{i:Int}{out:List ByteArray}(h:decide (i<s.size)=false):JB (f+1) s i out=some out:=by rw [JB,h];rfl
theorem aac {s:ByteArray}{i:Int}{r:Int×Int}(h:decide (r.2=0)=true):qt s i r=true:=by unfold qt;rw [h];rfl
theorem aab {s:ByteArray}{i:Int}{r:Int×Int}(h:decide (i+r.2≥s.size)=true):qt s i r=true:=by unfold qt;rw [h,Bool.true_or,ZC4]
theorem aaa {s:ByteArray}{i:Int}{r:Int×Int}(h:decide (bL s (i+r.2).toNat≠58)=true):qt s i r=true:=by unfold qt;rw [h,Bool.true_or,ZC4,ZC4]
theorem Z9 {s:ByteArray}{i:Int}{r:Int×Int}(h:decide (r.1>s.size-i-r.2-1)=true):qt s i r=true:=by unfold qt;rw [h,ZC4,ZC4,ZC4]
theorem aad {s:ByteArray}{i:Int}{r:Int×Int}(h1:decide (r.2=0)=false) (h2:decide (i+r.2≥s.size)=false) (h3:decide (bL s (i+r.2).toNat≠58)=false) (h4:decide (r.1>s.size-i-r.2-1)=false):qt s i r=false:=by unfold qt;rw [h1,h2,h3,h4];rfl
def vJ (s:ByteArray) (out:List ByteArray):List ByteArray×Bool:=bif !(cE out).2||decide ((cE out).1≠s) then ([],false) else (out,true)
def bq (s:ByteArray):List ByteArray×Bool:=
 bif decide ((s.size:Int)≤2048) then (match JB (s.size+1) s 0 [] with
  |none=>([],false)
  |some out=>vJ s out) else ([],false)
theorem gF {s:ByteArray}(h:decide ((s.size:Int)≤2048)=true) (h2:JB (s.size+1) s 0 []=none):bq s=([],false):=by unfold bq;rw [h,h2];rfl
theorem jW {s:ByteArray}{out:List ByteArray}(h:decide ((s.size:Int)≤2048)=true) (h2:JB (s.size+1) s 0 []=some out):bq s=vJ s out:=by unfold bq;rw [h,h2];rfl
theorem oW {s:ByteArray}(h:decide ((s.size:Int)≤2048)=false):bq s=([],false):=by unfold bq;rw [h];rfl
theorem Z7 {s:ByteArray}{out:List ByteArray}(h:(!(cE out).2)=true):vJ s out=([],false):=by unfold vJ;rw [h];rfl
theorem Z6 {s:ByteArray}{out:List ByteArray}(h:decide ((cE out).1≠s)=true):vJ s out=([],false):=by unfold vJ;rw [h,ZC4];rfl
theorem Z5 {s:ByteArray}{out:List ByteArray}(h:(!(cE out).2)=false) (h2:decide ((cE out).1≠s)=false):vJ s out=(out,true):=by unfold vJ;rw [h,h2];rfl
def ns (s:ByteArray):Prop:=s.size≤1000000
def ca (s:ByteArray):AV:=.t [.s (.xs 0 1 0 (bq s).1.length),.s (.q (bq s).2)]
def ct (s:ByteArray):List AV:=[.rs ab (bq s).1]
def vX:cn where
 A:=[.s .str]
 B:=[]
 pre:=λx b=>ns x
 r:=λx b _=>ca x
 o:=λx b _=>ct x
 nf:=1
theorem TG:Has Tryz.prog 121 vX:=by
 refine Has.fm zT zF zF (l:=[(166,tZ),(160,jG)]) ⟨PA,vB,aa⟩ Tryz.func121 ?_
 rintro (s:ByteArray) _ (hp:ns s)
 show vc _ _ _ _ (entry [.str s] []) _
 unfold ns at hp
 refine⟨aa,?_⟩
 all_goals first|refine aw ?_|refine ax ?_|exact a8|(dsimp only [tZ,k7,jG,kl];omega)|exact a7|skip
 refine cN (l:=[(166,tZ),(160,jG)]) (ex:=zT) (wr:=zF) (pt:=zF) ⟨PA,vB,trivial⟩ [.s 0] (λy:Int×List ByteArray×Nat=>[(.s 4,.s (.xs 1010 1 0 y.2.1.length)),(.s 5,.int y.1),(.b 1010,.rs ab y.2.1)]) (λy=>(0≤y.1∧y.1≤s.size)∧(y.2.1.length:Int)≤y.1∧(s.size:Int)<y.1+y.2.2∧(s.size≤2048→JB y.2.2 s y.1 y.2.1=JB (s.size+1) s 0 [])∧(2048<s.size→y.1=0∧y.2.1=[])) (λy=>(s.size-y.1).toNat) (0,[],s.size+1) [] ⟨⟨ZC1 _,by show (0:Int)≤s.size;omega⟩,ZC1 _,by show (s.size:Int)<0+(s.size+1:Nat);omega,λ_=>rfl,λ_=>⟨rfl,rfl⟩⟩ dM ?_
 rintro⟨i,out,f⟩ ⟨⟨(hi0:0≤i),(hi:i≤s.size)⟩,(hl:(out.length:Int)≤i),(hf:(s.size:Int)<i+f),(hr:s.size≤2048→JB f s i out=JB (s.size+1) s 0 []),(h0:2048<s.size→i=0∧out=[])⟩
 have hb:=ahE (s.extract i.toNat s.size)
 rw [ZC5] at hb
 have h48:decide ((s.size:Int)≤2048)=true→s.size≤2048:=λh=>by have:=aJ h;omega
 obtain⟨g,rfl⟩:∃g,f=g+1:=⟨f-1,by omega⟩
 refine⟨aa,λw1=>⟨λw2=>⟨⟨?_,?_,?_⟩,⟨tv2,?_⟩,λx3 w4=>⟨aa,λw5=>⟨aa,?_⟩,λw6=>⟨⟨?_,?_⟩,aa,λw7=>⟨aa,?_⟩,λw8=>⟨⟨?_,?_⟩,⟨?_,?_⟩,aa,λw9=>⟨aa,?_⟩,λdy=>⟨⟨?_,?_⟩,⟨?_,?_⟩,⟨?_,?_⟩,λkA=>⟨aa,?_⟩,λdJ=>⟨⟨?_,?_⟩,⟨?_,?_⟩,⟨?_,?_⟩,⟨?_,?_⟩,⟨?_,?_⟩,⟨?_,?_,?_⟩,aa,⟨⟨?_,?_⟩,?_,?_⟩,⟨?_,?_⟩,⟨?_,?_⟩,⟨?_,?_⟩,?_⟩⟩⟩⟩⟩⟩,λiU=>⟨⟨⟨⟨?_,?_⟩,aa⟩,aa⟩,λx14 qK=>⟨aa,λkg=>⟨aa,?_⟩,λxh=>⟨λrS=>⟨aa,?_⟩,λoL=>?_⟩⟩⟩⟩,λuI=>⟨⟨⟨⟨?_,?_⟩,aa⟩,aa⟩,λx21 A3=>⟨aa,λxK=>⟨aa,?_⟩,λrR=>⟨λw25=>⟨aa,?_⟩,λw26=>?_⟩⟩⟩⟩
 all_goals first|refine aw ?_|refine ax ?_|exact a8|(dsimp only [tZ,k7,jG,kl];omega)|exact a7|(show k7 (s.extract i.toNat s.size);unfold k7;rw [ZC5];omega)|skip
 ·refine⟨[1056],[],_,_,_,ζ,az,(),aa,?_,?_,ζ⟩
  ·(show _=ca s);unfold ca;first|(rw [gF w2 (by rw [←hr (h48 w2),EA w1 (aac w5)])];rfl)|rfl
  ·(show _=ct s);unfold ct;first|(rw [gF w2 (by rw [←hr (h48 w2),EA w1 (aac w5)])];rfl)|rfl
 ·refine⟨[1056],[],_,_,_,ζ,az,(),aa,?_,?_,ζ⟩
  ·(show _=ca s);unfold ca;first|(rw [gF w2 (by rw [←hr (h48 w2),EA w1 (aab w7)])];rfl)|rfl
  ·(show _=ct s);unfold ct;first|(rw [gF w2 (by rw [←hr (h48 w2),EA w1 (aab w7)])];rfl)|rfl
 ·refine⟨[1056],[],_,_,_,ζ,az,(),aa,?_,?_,ζ⟩
  ·(show _=ca s);unfold ca;first|(rw [gF w2 (by rw [←hr (h48 w2),EA w1 (aaa w9)])];rfl)|rfl
  ·(show _=ct s);unfold ct;first|(rw [gF w2 (by rw [←hr (h48 w2),EA w1 (aaa w9)])];rfl)|rfl
 ·refine⟨[1056],[],_,_,_,ζ,az,(),aa,?_,?_,ζ⟩
  ·(show _=ca s);unfold ca;first|(rw [gF w2 (by rw [←hr (h48 w2),EA w1 (Z9 kA)])];rfl)|rfl
  ·(show _=ct s);unfold ct;first|(rw [gF w2 (by rw [←hr (h48 w2),EA w1 (Z9 kA)])];rfl)|rfl
 ·have h5:¬((tQ s i).2=0):=aA w6
  have h6:¬(i+(tQ s i).2≥s.size):=aA w8
  have h7:¬((tQ s i).1>s.size-i-(tQ s i).2-1):=aA dJ
  have h8:s.size≤2048:=h48 w2
  have hb:(0≤(tQ s i).1∧(tQ s i).1≤999999999)∧(0≤(tQ s i).2∧(tQ s i).2≤9)∧_:=hb
  refine⟨(i+(tQ s i).2+1+(tQ s i).1,out++[s.extract (i+(tQ s i).2+1).toNat (i+(tQ s i).2+1+(tQ s i).1).toNat],g),[(1010,1071)],?_,?_,?_⟩
  rotate_right
  ·exact bV
  ·refine⟨⟨?_,?_⟩,?_,?_,λh=>?_,λh=>absurd h8 (by omega)⟩
   ·show 0≤i+(tQ s i).2+1+(tQ s i).1;omega
   ·show i+(tQ s i).2+1+(tQ s i).1≤_;omega
   ·show ((List.length (_++_):Nat):Int)≤i+(tQ s i).2+1+(tQ s i).1;rw [ZA0];show ((out.length+1:Nat):Int)≤_;omega
   ·show (s.size:Int)<i+(tQ s i).2+1+(tQ s i).1+(g:Int);omega
   ·rw [←hr h,ag0 w1 (aad w6 w8 dy dJ)]
  ·show (s.size-(i+(tQ s i).2+1+(tQ s i).1)).toNat<(s.size-i).toNat;omega
 ·obtain⟨rfl,rfl⟩:=h0 (by have:=aA iU;omega)
  refine⟨[1090],[],_,_,_,ζ,az,(),aa,?_,?_,ζ⟩
  ·(show _=ca s);unfold ca;first|(rw [oW iU];rfl)|rfl
  ·(show _=ct s);unfold ct;first|(rw [oW iU];rfl)|rfl
 ·obtain⟨rfl,rfl⟩:=h0 (by have:=aA iU;omega)
  refine⟨[1090],[],_,_,_,ζ,az,(),aa,?_,?_,ζ⟩
  ·(show _=ca s);unfold ca;first|(rw [oW iU];rfl)|rfl
  ·(show _=ct s);unfold ct;first|(rw [oW iU];rfl)|rfl
 ·obtain⟨rfl,rfl⟩:=h0 (by have:=aA iU;omega)
  have h9:¬((⟨#[]⟩:ByteArray)≠s):=aA oL
  have h10:(⟨#[]⟩:ByteArray)=s:=ZE9.1 h9
  have h11:¬((s.size:Int)≤2048):=aA iU
  exact absurd (show ((s.size:Nat):Int)≤2048 by rw [←h10];show (0:Int)≤2048;omega) h11
 all_goals
  have h13:¬(i<(s.size:Int)):=aA uI
  have h14:JB (g+1) s i out=some out:=aeA uI
  have xE:decide ((s.size:Int)≤2048)=true:=by
   cases hh:decide ((s.size:Int)≤2048) with
   |true=>rfl
   |false=>
    have h16:=aA hh
    obtain⟨rfl,_⟩:=h0 (by omega)
    omega
  have e:JB (s.size+1) s 0 []=some out:=by rw [←hr (h48 xE),h14]
 ·refine⟨[1090],[],_,_,_,ζ,az,(),aa,?_,?_,ζ⟩
  ·(show _=ca s);unfold ca;first|(rw [jW xE e,Z7 (out:=out) xK];rfl)|rfl
  ·(show _=ct s);unfold ct;first|(rw [jW xE e,Z7 (out:=out) xK];rfl)|rfl
 ·refine⟨[1090],[],_,_,_,ζ,az,(),aa,?_,?_,ζ⟩
  ·(show _=ca s);unfold ca;first|(rw [jW xE e,Z6 (out:=out) w25];rfl)|rfl
  ·(show _=ct s);unfold ct;first|(rw [jW xE e,Z6 (out:=out) w25];rfl)|rfl
 ·refine⟨[1010],[],_,_,_,ζ,az,(),aa,?_,?_,ζ⟩
  ·(show _=ca s);unfold ca;first|(rw [jW xE e,Z5 (out:=out) rR w26];rfl)|rfl
  ·(show _=ct s);unfold ct;first|(rw [jW xE e,Z5 (out:=out) rR w26];rfl)|rfl
def mS (w:List ByteArray):fu:=
 ((aD (nth ab w 0)).1,(aD (nth ab w 1)).1,(aD (nth ab w 2)).1,
   (bP (nth ab w 3)).1.1,(bP (nth ab w 3)).1.2.1,(bP (nth ab w 3)).1.2.2.1,(bP (nth ab w 3)).1.2.2.2.1,(bP (nth ab w 3)).1.2.2.2.2,
   (aD (nth ab w 4)).1,(aD (nth ab w 5)).1)
def nz:fu:=(0,0,0,0,0,0,0,0,0,0)
def bz (s:ByteArray):fu×Bool:=
 bif !(bq s).2||(decide (((bq s).1.length:Int)≠7)||(!(cy (mS (bq s).1))||decide (aC (mS (bq s).1)≠s))) then (nz,false) else (mS (bq s).1,true)
theorem yu {s:ByteArray}(h:(!(bq s).2)=true):bz s=(nz,false):=by unfold bz;rw [h];rfl
theorem tC {s:ByteArray}(h:decide (((bq s).1.length:Int)≠7)=true):bz s=(nz,false):=by unfold bz;rw [h,Bool.true_or,ZC4];rfl
theorem yt {s:ByteArray}(h:(!(cy (mS (bq s).1)))=true):bz s=(nz,false):=by unfold bz;rw [h,Bool.true_or,ZC4,ZC4];rfl
theorem yr {s:ByteArray}(h:decide (aC (mS (bq s).1)≠s)=true):bz s=(nz,false):=by unfold bz;rw [h,ZC4,ZC4,ZC4];rfl
theorem yv {s:ByteArray}(h1:(!(bq s).2)=false) (h2:decide (((bq s).1.length:Int)≠7)=false) (h3:(!(cy (mS (bq s).1)))=false) (h4:decide (aC (mS (bq s).1)≠s)=false):bz s=(mS (bq s).1,true):=by unfold bz;rw [h1,h2,h3,h4];rfl
def ndA (n:fu):A0:=.a (EK.AX o7 n)
theorem aez {s:ByteArray}:∀{f:Nat}{i:Int}{out r:List ByteArray},JB f s i out=some r→(∀x∈out,x.size≤s.size)→∀x∈r,x.size≤s.size
 |0,_,_,_,h,_=>by cases h
 |f+1,i,out,r,h,ho=>by
  unfold JB at h
  cases hc:decide (i<(s.size:Int)) with
  |true=>
   rw [hc,cond_true] at h
   cases hb:qt s i (tQ s i) with
   |true=>rw [hb] at h;cases h
   |false=>
    rw [hb,cond_false] at h
    refine aez h λx hx=>?_
    rcases ZB4.1 hx with hx |hx
    ·exact ho x hx
    ·simp only [ZB8,ZF6,or_false] at hx
     subst hx
     rw [ZC5];omega
  |false=>rw [hc] at h;cases h;exact ho
theorem K4 {s:ByteArray}:∀x∈(bq s).1,x.size≤s.size:=by
 intro x hx
 unfold bq at hx
 cases hc:decide ((s.size:Int)≤2048) with
 |true=>
  rw [hc,cond_true] at hx
  cases hr:JB (s.size+1) s 0 [] with
  |none=>rw [hr] at hx;cases hx
  |some out=>
   rw [hr] at hx
   have ho:=aez hr (λ_ h=>by cases h)
   unfold vJ at hx
   cases hd: !(cE out).2||decide ((cE out).1≠s) with
   |true=>simp only [hd,cond_true] at hx;cases hx
   |false=>simp only [hd,cond_false] at hx;exact ho x hx
 |false=>rw [hc] at hx;cases hx
def lf (s:ByteArray):Prop:=s.size≤1000000
def fc (s:ByteArray):AV:=.t [ndA (bz s).1,.s (.q (bz s).2)]
def WM (s:ByteArray):List AV:=[]
def ng:cn where
 A:=[.s .str]
 B:=[]
 pre:=λx b=>lf x
 r:=λx b _=>fc x
 o:=λx b _=>WM x
theorem CT:Has Tryz.prog 82 ng:=by
 refine Has.fm zT zF zF (l:=[(121,vX),(122,jF),(123,qD),(124,qF),(118,sO)]) ⟨TG,vA,IN,IQ,MK,aa⟩ Tryz.func82 ?_
 rintro (s:ByteArray) _ (hp:lf s)
 show vc _ _ _ _ (entry [.str s] []) _
 unfold lf at hp
 have dj:∀k,(nth ab (bq s).1 k).size≤1000000:=λk=>by
  by_cases h:k<(bq s).1.length
  ·exact ZB0 (K4 _ (bR (ek:=ab) h)) hp
  ·unfold nth;rw [ZD8 (by omega)];exact ZA7 _
 have af4:∀k,gI (nth ab (bq s).1 k):=λk=>by unfold gI;have:=dj k;omega
 refine⟨⟨tv2,?_⟩,λx1 w2=>⟨aa,λw3=>?_,λw4=>⟨λw5=>?_,λw6=>⟨⟨?_,?_⟩,?_,⟨tv2,?_⟩,λx7 w8=>⟨⟨?_,?_⟩,?_,⟨tv2,?_⟩,λx9 dy=>⟨⟨?_,?_⟩,?_,⟨tv2,?_⟩,λkz dJ=>⟨⟨?_,?_⟩,?_,⟨tv2,?_⟩,λrW gO=>⟨⟨?_,?_⟩,?_,⟨tv2,?_⟩,λky kg=>⟨⟨?_,?_⟩,?_,⟨tv2,?_⟩,λx17 rS=>⟨⟨⟨tv11,aa⟩,aa⟩,λx19 uI=>⟨aa,λA4=>?_,λA3=>⟨⟨⟨tv11,aa⟩,aa⟩,λx23 rR=>⟨λw25=>?_,λw26=>?_⟩⟩⟩⟩⟩⟩⟩⟩⟩⟩⟩⟩⟩
 all_goals first|refine aw ?_|refine ax ?_|exact a8|(dsimp only [vX,ns,jF,gI,qD,mN,qF,qf,sO,ra];omega)|exact a7|exact dj _|exact af4 _|skip
 ·refine⟨[],[],_,_,_,ζ,az,(),aa,?_,?_,ζ⟩
  ·(show _=fc s);unfold fc;first|(rw [yu w3];rfl)|rfl
  ·rfl
 ·refine⟨[],[],_,_,_,ζ,az,(),aa,?_,?_,ζ⟩
  ·(show _=fc s);unfold fc;first|(rw [tC w5];rfl)|rfl
  ·rfl
 ·refine⟨[],[],_,_,_,ζ,az,(),aa,?_,?_,ζ⟩
  ·(show _=fc s);unfold fc;first|(rw [yt A4];rfl)|rfl
  ·rfl
 ·refine⟨[],[],_,_,_,ζ,az,(),aa,?_,?_,ζ⟩
  ·(show _=fc s);unfold fc;first|(rw [yr w25];rfl)|rfl
  ·rfl
 ·refine⟨[],[],_,_,_,ζ,az,(),aa,?_,?_,ζ⟩
  ·(show _=fc s);unfold fc;first|(rw [yv w4 w6 A3 w26];rfl)|rfl
  ·rfl
