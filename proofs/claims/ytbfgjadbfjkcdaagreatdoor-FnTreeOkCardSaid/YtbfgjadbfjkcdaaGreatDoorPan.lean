/- FnTreeOk returns true for every code (its row lists package variables, tied by the card): part 14. -/
import Derived.Test.YtbfgjadbfjkcdaaGreatDoorPam
set_option maxHeartbeats 20000000
set_option linter.all false
namespace Go.Proofs.YtbfgjadbfjkcdaaGreatDoor
namespace GL
theorem fP {b sz n m:Nat}(h:n=m):some (AV.s (.xs b sz 0 n))=some (AV.s (.xs b sz 0 m)):=by rw [h]
theorem oU {b sz:Nat}{α:Type}{l:List α}{x:α}:some (AV.s (.xs b sz 0 (l.length+1)))=some (AV.s (.xs b sz 0 (l++[x]).length)):=by rw [ZA0];rfl
theorem bX {P:Prop}(h:P:=by repeat' (first|exact trivial|rfl|exact rfl|exact fP List.length_append.symm|exact oU|apply And.intro)):P:=h
theorem dN {P:Prop}(h:P:=by repeat' (first|exact trivial|rfl|exact rfl|exact fP (Nat.zero_add _)|apply And.intro)):P:=h
theorem bZ {ek:EK}{l:List (EK.Ty ek)}{i:Nat}(h:i<l.length):l.drop i=nth ek l i::l.drop (i+1):=by
 rw [List.drop_eq_getElem_cons h]
 congr 1
 have:=oK h
 rw [ZB2 h] at this
 exact ZE7 this
theorem aj1 {α:Type}{l:List α}{i:Nat}(h:¬(i:Int)<(l.length:Int)):l.drop i=[]:=ZB4 (by omega)
def DG (s:ByteArray) (k:Nat):Bool:=decide ((k:Int)<s.size)&&(decide ((k:Int)<9)&&(decide (bN s k≥48)&&decide (bN s k≤57)))
def iP (s:ByteArray):Nat→Int
 |0=>0
 |k+1=>10*iP s k+(bN s k-48)
def sF:Nat→ByteArray→Nat→Nat
 |0,_,k=>k
 |f+1,s,k=>bif DG s k then sF f s (k+1) else k
def cX (s:ByteArray):Nat:=sF 9 s 0
def CT (s:ByteArray):Int×Int:=bif decide ((cX s:Int)>1)&&decide (bN s 0=48) then (0,1) else (iP s (cX s),cX s)
theorem TL {s:ByteArray}{k:Nat}(hk:k≤9) (hd:DG s k=false) (hl:sF (9-k) s k=cX s):cX s=k:=by
 rw [←hl]
 by_cases h:k=9
 ·subst h;rfl
 ·rw [show 9-k=(8-k)+1 by omega,sF,hd];rfl
theorem SY {s:ByteArray}{k:Nat}(h1:iP s k<(10:Int) ^ k) (hk:k≤8):iP s k≤99999999:=by
 have:(10:Int) ^ k≤10 ^ 8:=by exact_mod_cast Nat.pow_le_pow_right (by omega) hk
 omega
theorem ajo {s:ByteArray}{k:Nat}(e:cX s=k) (h1:decide ((k:Int)>1)=true) (h2:decide (bN s 0=48)=true):CT s=(0,1):=by
 unfold CT;rw [e,h1,h2];rfl
theorem ag6 {s:ByteArray}{k:Nat}(e:cX s=k) (h1:decide ((k:Int)>1)=false):CT s=(iP s k,(k:Int)):=by
 unfold CT;rw [e,h1];rfl
theorem ag5 {s:ByteArray}{k:Nat}(e:cX s=k) (h2:decide (bN s 0=48)=false):CT s=(iP s k,(k:Int)):=by
 unfold CT;rw [e,h2,ZD8];rfl
theorem ahn {s:ByteArray}{k:Nat}(h:decide ((k:Int)<s.size)=false):DG s k=false:=by unfold DG;rw [h];rfl
theorem aj6 {s:ByteArray}{k:Nat}(h:decide ((k:Int)<9)=false):DG s k=false:=by unfold DG;rw [h,Bool.false_and,ZD8]
theorem aj5 {s:ByteArray}{k:Nat}(h:decide (bN s ((k:Int).toNat)≥48)=false):DG s k=false:=by
 have h:decide (bN s k≥48)=false:=h
 unfold DG;rw [h,Bool.false_and,ZD8,ZD8]
theorem aj4 {s:ByteArray}{k:Nat}(h:decide (bN s ((k:Int).toNat)≤57)=false):DG s k=false:=by
 have h:decide (bN s k≤57)=false:=h
 unfold DG;rw [h,ZD8,ZD8,ZD8]
def lj (s:ByteArray):Prop:=(s.size:Int)≤1000000000000
def BM (s:ByteArray):AV:=.t [.s (.int (CT s).1),.s (.int (CT s).2)]
def adq (s:ByteArray):List AV:=[]
def ud:Con where
 A:=[.s .str]
 B:=[]
 pre:=fun x b=>lj x
 α:=fun _ _=>Unit
 φ:=fun _ _ _=>True
 r:=fun x b _=>BM x
 o:=fun x b _=>adq x
 nf:=0
set_option maxRecDepth 100000 in
theorem PM:Has Tryz.prog 113 ud:=by
 refine Has.ofE (fun _=>true) (fun _=>false) (fun _=>false) (l:=[]) trivial (fn:=Tryz.f113) Tryz.func113 rfl (by decide) (aZ rfl) ?_
 rintro (s:ByteArray) _ (hp:lj s)
 show vc _ _ _ _ (entry [.str s] []) _
 unfold lj at hp
 refine cO (l:=[]) (ex:=fun _=>true) (wr:=fun _=>false) (pt:=fun _=>false) trivial [.s 0] (fun k:Nat=>[(.s 4,.int (iP s k)),(.s 5,.int k)]) (fun k=>k≤9∧k≤s.size∧(0≤iP s k∧iP s k<(10:Int) ^ k)∧sF (9-k) s k=cX s) (fun k=>9-k) 0 [] ⟨by omega,ZA8 _,⟨ZC1 _,by show (0:Int)<1;omega⟩,rfl⟩ ⟨⟨rfl,rfl,trivial⟩,⟨rfl,trivial⟩⟩ ?_
 rintro k ⟨hk,hks,⟨hn0,hn1⟩,hl⟩
 have hb:=xn s k
 have hsm:=SY hn1
 refine⟨aa,fun w1=>⟨aa,fun w2=>⟨⟨?_,?_⟩,aa,fun w3=>⟨⟨?_,?_⟩,fun w4=>⟨⟨?_,?_⟩,⟨?_,?_⟩,⟨?_,?_⟩,⟨?_,?_⟩,⟨?_,?_⟩,⟨?_,?_⟩,?_⟩,fun w5=>⟨aa,fun w6=>⟨⟨?_,?_⟩,fun w7=>?_,fun w8=>?_⟩,fun w9=>?_⟩⟩,fun dq=>⟨aa,fun kk=>⟨⟨?_,?_⟩,fun dI=>?_,fun iJ=>?_⟩,fun gI=>?_⟩⟩,fun pe=>⟨aa,fun kj=>⟨⟨?_,?_⟩,fun wC=>?_,fun qX=>?_⟩,fun oB=>?_⟩⟩,fun uw=>⟨aa,fun zm=>⟨⟨?_,?_⟩,fun zl=>?_,fun xD=>?_⟩,fun rG=>?_⟩⟩
 all_goals first|refine aw ?_|refine ax ?_|exact ba|exact a8|skip
 ·have h4:DG s k=true:=by unfold DG;rw [w1,w2,show decide (bN s k≥48)=true from w3,show decide (bN s k≤57)=true from w4];rfl
  have h2:=aE w2
  have h5:bN s k≥48:=aE w3
  have h6:bN s k≤57:=aE w4
  refine⟨(k+1),[],?_,?_,?_⟩
  rotate_right
  ·exact bX
  ·refine⟨by omega,by have:=aE w1;omega,⟨?_,?_⟩,?_⟩
   ·show 0≤10*iP s k+(bN s k-48);omega
   ·show 10*iP s k+(bN s k-48)<_;rw [Int.pow_succ];omega
   ·rw [←hl,show 9-k=(9-(k+1))+1 by omega,sF,h4];rfl
  ·show 9-(k+1)<9-k;omega
 all_goals
  have e:cX s=k:=TL hk (by first|exact ahn (by assumption)|exact aj6 (by assumption)|exact aj5 (by assumption)|exact aj4 (by assumption)) hl
  refine⟨[],[],_,_,_,rfl,az,(),aa,?_,?_,rfl⟩
  ·(show _=BM s);unfold BM;first|(rw [ag6 e (by assumption)];rfl)|(rw [ajo e (by assumption) (by assumption)];rfl)|(rw [ag5 e (by assumption)];rfl)|rfl
  ·rfl
def aD (s:ByteArray):Int×Bool:=bif decide ((CT s).2=0)||decide ((CT s).2≠(s.size:Int)) then (0,false) else ((CT s).1,true)
def gM (s:ByteArray):Prop:=(s.size:Int)≤1000000000000
def yi (s:ByteArray):AV:=.t [.s (.int (aD s).1),.s (.q (aD s).2)]
def abJ (s:ByteArray):List AV:=[]
def jH:Con where
 A:=[.s .str]
 B:=[]
 pre:=fun x b=>gM x
 α:=fun _ _=>Unit
 φ:=fun _ _ _=>True
 r:=fun x b _=>yi x
 o:=fun x b _=>abJ x
 nf:=0
set_option maxRecDepth 100000 in
theorem vH:Has Tryz.prog 74 jH:=by
 refine Has.ofE (fun _=>true) (fun _=>false) (fun _=>false) (l:=[(113,ud)]) ⟨PM,trivial⟩ (fn:=Tryz.f74) Tryz.func74 rfl (by decide) (aZ rfl) ?_
 rintro (s:ByteArray) _ (hp:gM s)
 show vc _ _ _ _ (entry [.str s] []) _
 unfold gM at hp
 refine⟨⟨⟨aa,aa⟩,?_⟩,fun x1 w2=>⟨aa,fun w3=>?_,fun w4=>⟨fun w5=>?_,fun w6=>?_⟩⟩⟩
 all_goals first|refine aw ?_|refine ax ?_|exact ba|(dsimp only [ud,lj];omega)|exact a8|skip
 all_goals
  refine⟨[],[],_,_,_,rfl,az,(),aa,?_,?_,rfl⟩
  ·(show _=yi s);unfold yi;first|((simp only [aD, *];rfl))|rfl
  ·rfl
def ja (s:ByteArray) (c:Int):Nat→List ByteArray×Nat
 |0=>([],0)
 |k+1=>bif decide (bN s k=c) then ((ja s c k).1++[s.extract (ja s c k).2 k],k+1) else ja s c k
def bo (s:ByteArray) (c:Int):List ByteArray:=(ja s c s.size).1++[s.extract (ja s c s.size).2 s.size]
theorem J0 (s:ByteArray) (c:Int):∀k,(ja s c k).1.length≤k∧(ja s c k).2≤k
 |0=>⟨ZB6 _,ZB6 _⟩
 |k+1=>by
  have:=J0 s c k
  unfold ja
  cases decide (bN s k=c) with
  |true=>simp only [cond_true,ZA0,ZA1,ZA4];omega
  |false=>simp only [cond_false];omega
theorem ua (s:ByteArray) (c:Int):1≤(bo s c).length∧(bo s c).length≤s.size+1:=by
 have:=J0 s c s.size
 simp only [bo,ZA0,ZA1,ZA4]
 omega
theorem JZ {s:ByteArray}{c:Int}:∀{k:Nat},∀x∈(ja s c k).1,x.size≤s.size
 |0,x,h=>by cases h
 |k+1,x,h=>by
  unfold ja at h
  cases hd:decide (bN s k=c) with
  |true=>
   rw [hd,cond_true,ZB5] at h
   rcases h with h |h
   ·exact JZ x h
   ·simp only [ZB9,ZF3,or_false] at h
    subst h
    rw [ZC5];omega
  |false=>rw [hd,cond_false] at h;exact JZ x h
theorem o6 {s:ByteArray}{c:Int}:∀x∈bo s c,x.size≤s.size:=by
 intro x h
 rw [bo,ZB5] at h
 rcases h with h |h
 ·exact JZ x h
 ·simp only [ZB9,ZF3,or_false] at h
  subst h
  rw [ZC5];omega
def iS (s:ByteArray) (c:Int):Prop:=s.size≤1000000
def BL (s:ByteArray) (c:Int):AV:=.s (.xs 0 1 0 (bo s c).length)
def HT (s:ByteArray) (c:Int):List AV:=[.rs ab (bo s c)]
def iE:Con where
 A:=[.s .str,.s .byte]
 B:=[]
 pre:=fun x b=>iS (x.1) (x.2)
 α:=fun _ _=>Unit
 φ:=fun _ _ _=>True
 r:=fun x b _=>BL (x.1) (x.2)
 o:=fun x b _=>HT (x.1) (x.2)
 nf:=1
set_option maxRecDepth 100000 in
theorem tK:Has Tryz.prog 115 iE:=by
 refine Has.ofE (fun _=>true) (fun _=>false) (fun _=>false) (l:=[]) trivial (fn:=Tryz.f115) Tryz.func115 rfl (by decide) (aZ rfl) ?_
 rintro⟨(s:ByteArray),(c:Int)⟩ _ (hp:iS s c)
 show vc _ _ _ _ (entry [.str s,.byte c] []) _
 unfold iS at hp
 refine⟨aa,?_⟩
 all_goals first|refine aw ?_|refine ax ?_|exact ba|exact a8|skip
 refine cO (l:=[]) (ex:=fun _=>true) (wr:=fun _=>false) (pt:=fun _=>false) trivial [.s 0,.s 1] (fun y:Nat×List ByteArray×Nat=>[(.s 5,.s (.xs 1008 1 0 y.2.1.length)),(.s 6,.int y.2.2),(.s 7,.int y.1),(.b 1008,.rs ab y.2.1)]) (fun y=>y.1≤s.size∧ja s c y.1=y.2) (fun y=>s.size-y.1) (0,[],0) [] ⟨ZA8 _,rfl⟩ dN ?_
 rintro⟨k,out,fr⟩ ⟨(hk:k≤s.size),(he:ja s c k=(out,fr))⟩
 have hbd:=J0 s c k
 rw [he] at hbd
 obtain⟨(hb1:out.length≤k),(hb2:fr≤k)⟩:=hbd
 refine⟨fun w1=>⟨⟨?_,?_⟩,fun w2=>⟨⟨?_,?_,?_⟩,aa,⟨⟨?_,?_⟩,?_,?_⟩,⟨?_,?_⟩,⟨?_,?_⟩,?_⟩,fun w3=>⟨⟨?_,?_⟩,?_⟩⟩,fun w4=>⟨⟨?_,?_,?_⟩,aa,⟨⟨?_,?_⟩,?_,?_⟩,?_⟩⟩
 all_goals first|refine aw ?_|refine ax ?_|exact ba|exact a8|skip
 ·have e:ja s c (k+1)=(out++[s.extract fr k],k+1):=by
   rw [ja,show decide (bN s k=c)=true by assumption,he];rfl
  refine⟨(k+1,out++[s.extract fr k],k+1),[(1008,1026)],?_,?_,?_⟩
  rotate_right
  ·exact bX
  ·exact⟨by have:=aE (p:=(k:Int)<s.size) (by assumption);omega,e⟩
  ·show s.size-(k+1)<s.size-k
   have:=aE (p:=(k:Int)<s.size) (by assumption);omega
 ·have e:ja s c (k+1)=(out,fr):=by
   rw [ja,show decide (bN s k=c)=false by assumption,he];rfl
  refine⟨(k+1,out,fr),[],?_,?_,?_⟩
  rotate_right
  ·exact bX
  ·exact⟨by have:=aE (p:=(k:Int)<s.size) (by assumption);omega,e⟩
  ·show s.size-(k+1)<s.size-k
   have:=aE (p:=(k:Int)<s.size) (by assumption);omega
 ·have hk':k=s.size:=by have:=aA (p:=(k:Int)<s.size) (by assumption);omega
  subst hk'
  have e:bo s c=out++[s.extract fr s.size]:=by rw [bo,he]
  refine⟨[1034],[],_,_,_,rfl,az,(),aa,?_,?_,rfl⟩
  ·(show _=BL s c);unfold BL;first|(rw [e,ZA0];rfl)|(rw [e];rfl)|rfl
  ·(show _=HT s c);unfold HT;first|(rw [e,ZA0];rfl)|(rw [e];rfl)|rfl
end GL
namespace GL
def lx:List ByteArray→List Int→Option (List Int)
 |[],acc=>some acc
 |t::l,acc=>bif (aD t).2 then lx l (acc++[(aD t).1]) else none
def lO (n:List Int):Pt:=(nth ag n 0,nth ag n 1,nth ag n 2,nth ag n 3,nth ag n 4)
def pY (n:List Int):Pt×Bool:=bif !(a6 (lO n))||au (lO n) then (bO,false) else (lO n,true)
def q8 (w:List ByteArray):Pt×Bool:=
 match lx w [] with
 |none=>(bO,false)
 |some n=>pY n
def bR (s:ByteArray):Pt×Bool:=
 bif decide (s=⟨#[45]⟩) then (bO,true) else
 bif decide (((bo s 46).length:Int)≠5) then (bO,false) else q8 (bo s 46)
theorem wL {s:ByteArray}(h:decide (s=⟨#[45]⟩)=true):bR s=(bO,true):=by unfold bR;rw [h];rfl
theorem B5 {s:ByteArray}(h:decide (s=⟨#[45]⟩)=false) (h2:decide (((bo s 46).length:Int)≠5)=true):bR s=(bO,false):=by unfold bR;rw [h,h2];rfl
theorem sf {s:ByteArray}(h:decide (s=⟨#[45]⟩)=false) (h2:decide (((bo s 46).length:Int)≠5)=false):bR s=q8 (bo s 46):=by unfold bR;rw [h,h2];rfl
theorem B4 {w:List ByteArray}(h:lx w []=none):q8 w=(bO,false):=by unfold q8;rw [h]
theorem B3 {w:List ByteArray}{n:List Int}(h:lx w []=some n):q8 w=pY n:=by unfold q8;rw [h]
theorem R4 {n:List Int}(h:(!(a6 (lO n)))=true):pY n=(bO,false):=by unfold pY;rw [h];rfl
theorem R3 {n:List Int}(h:au (lO n)=true):pY n=(bO,false):=by unfold pY;rw [h,ZC4];rfl
theorem HI {n:List Int}(h:(!(a6 (lO n)))=false) (h2:au (lO n)=false):pY n=(lO n,true):=by unfold pY;rw [h,h2];rfl
def mT (s:ByteArray):Prop:=s.size≤1000000
def eO (s:ByteArray):AV:=.t [ptA (bR s).1,.s (.q (bR s).2)]
def abH (s:ByteArray):List AV:=[]
def qI:Con where
 A:=[.s .str]
 B:=[]
 pre:=fun x b=>mT x
 α:=fun _ _=>Unit
 φ:=fun _ _ _=>True
 r:=fun x b _=>eO x
 o:=fun x b _=>abH x
 nf:=0
set_option maxRecDepth 100000 in
theorem IZ:Has Tryz.prog 75 qI:=by
 refine Has.ofE (fun _=>true) (fun _=>false) (fun _=>false) (l:=[(74,jH),(115,iE),(25,cY),(26,bm)]) ⟨vH,tK,iB,cB,trivial⟩ (fn:=Tryz.f75) Tryz.func75 rfl (by decide) (aZ rfl) ?_
 rintro (s:ByteArray) _ (hp:mT s)
 show vc _ _ _ _ (entry [.str s] []) _
 unfold mT at hp
 have T7:=ua s 46
 refine⟨fun w1=>?_,fun w2=>⟨⟨⟨aa,aa,aa⟩,?_⟩,fun x3 w4=>⟨fun w5=>?_,fun w6=>⟨aa,?_⟩⟩⟩⟩
 all_goals first|refine aw ?_|refine ax ?_|exact ba|(dsimp only [jH,gM];omega)|(dsimp only [iE,iS];omega)|(dsimp only [cY,ee];omega)|(dsimp only [bm,cj];omega)|exact a8|skip
 ·refine⟨[],[],_,_,_,rfl,az,(),aa,?_,?_,rfl⟩
  ·(show _=eO s);unfold eO;first|(rw [wL (by assumption)];rfl)|rfl
  ·rfl
 ·refine⟨[],[],_,_,_,rfl,az,(),aa,?_,?_,rfl⟩
  ·(show _=eO s);unfold eO;first|(rw [B5 (by assumption) (by assumption)];rfl)|rfl
  ·rfl
 ·have h5:(bo s 46).length=5:=by have:=aA (p:=((bo s 46).length:Int)≠5) (by assumption);omega
  have hM:=sf (s:=s) (by assumption) (by assumption)
  refine cO (l:=[(74,jH),(115,iE),(25,cY),(26,bm)]) (ex:=fun _=>true) (wr:=fun _=>false) (pt:=fun _=>false) ⟨vH,tK,iB,cB,aa⟩ [.s 0,.s 2,.s 4,.b 1002,.b 150000] (fun y:Nat×List Int=>[(.s 5,.s (.xs 1019 1 0 y.2.length)),(.s 6,.int y.1),(.b 1019,.rs ag y.2)]) (fun y=>y.1≤5∧y.2.length=y.1∧lx ((bo s 46).drop y.1) y.2=lx (bo s 46) []) (fun y=>5-y.1) (0,[]) [] ⟨ZA8 _,rfl,rfl⟩ dN ?_
  rintro⟨i,n⟩ ⟨(hi:i≤5),(hl:n.length=i),(hr:lx ((bo s 46).drop i) n=lx (bo s 46) [])⟩
  have dk:i<5→(nth ab (bo s 46) i).size≤1000000:=fun h=>ZB1 (o6 (s:=s) (c:=46) _ (bT (ek:=ab) (by omega))) hp
  have cP:i<5→(bo s 46).drop i=nth ab (bo s 46) i::(bo s 46).drop (i+1):=fun h=>bZ (ek:=ab) (by omega)
  refine⟨fun w1=>⟨⟨?_,?_⟩,?_,⟨⟨aa,aa⟩,?_⟩,fun x2 w3=>⟨fun w4=>?_,fun w5=>⟨aa,⟨⟨?_,?_⟩,?_,?_⟩,⟨?_,?_⟩,?_⟩⟩⟩,fun w6=>⟨[.s 5],[.s 39],rfl,[.s 39],[.s 40],rfl,⟨?_,?_⟩,[.s 40,.b 1019],[.s 41],rfl,?_,[.s 5],[.s 42],rfl,[.s 42],[.s 43],rfl,⟨?_,?_⟩,[.s 43,.b 1019],[.s 44],rfl,?_,[.s 5],[.s 45],rfl,[.s 45],[.s 46],rfl,⟨?_,?_⟩,[.s 46,.b 1019],[.s 47],rfl,?_,[.s 5],[.s 48],rfl,[.s 48],[.s 49],rfl,⟨?_,?_⟩,[.s 49,.b 1019],[.s 50],rfl,?_,[.s 5],[.s 51],rfl,[.s 51],[.s 52],rfl,⟨?_,?_⟩,[.s 52,.b 1019],[.s 53],rfl,?_,[.s 41,.s 44,.s 47,.s 50,.s 53],[.s 54],rfl,[.b 1009],[.s 9,.b 1009],rfl,[.s 9,.s 54,.b 1009],[.b 1009],rfl,⟨⟨⟨aa,aa,aa,aa,aa,aa⟩,aa⟩,aa⟩,fun x7 w8=>⟨aa,fun w9=>?_,fun dq=>⟨⟨⟨⟨aa,aa,aa,aa,aa,aa⟩,aa⟩,aa⟩,fun kE dI=>⟨fun iJ=>?_,fun gI=>?_⟩⟩⟩⟩⟩
  all_goals first|refine aw ?_|refine ax ?_|exact ba|(dsimp only [jH,gM];omega)|(dsimp only [iE,iS];omega)|(dsimp only [cY,ee];omega)|(dsimp only [bm,cj];omega)|exact a8|(have:=dk (by have:=aE (p:=(i:Int)<5) (by assumption);omega);show ((nth ab (bo s 46) i).size:Int)≤1000000000000;omega)|skip
  ·have bU:i<5:=by have:=aE (p:=(i:Int)<5) (by assumption);omega
   have e:lx (bo s 46) []=none:=by rw [←hr,cP bU,lx,show (aD (nth ab (bo s 46) i)).2=false from xv (by assumption)];rfl
   refine⟨[],[],_,_,_,rfl,az,(),aa,?_,?_,rfl⟩
   ·(show _=eO s);unfold eO;first|(rw [hM,B4 e];rfl)|rfl
   ·rfl
  ·have bU:i<5:=by have:=aE (p:=(i:Int)<5) (by assumption);omega
   refine⟨(i+1,n++[(aD (nth ab (bo s 46) i)).1]),[(1019,1038)],?_,?_,?_⟩
   rotate_right
   ·exact bX
   ·refine⟨bU,by show List.length (_++_)=_;rw [ZA0,hl];rfl,?_⟩
    rw [←hr,cP bU,lx,show (aD (nth ab (bo s 46) i)).2=true from cI (by assumption)];rfl
   ·show 5-(i+1)<5-i;omega
  all_goals
   have hi5:i=5:=by have:=aA (p:=(i:Int)<5) (by assumption);omega
   have e:lx (bo s 46) []=some n:=by rw [←hr,ZB4 (by omega)];rfl
   rw [B3 e] at hM
  ·rw [R4 (by assumption)] at hM
   refine⟨[],[],_,_,_,rfl,az,(),aa,?_,?_,rfl⟩
   ·(show _=eO s);unfold eO;first|(rw [hM];rfl)|rfl
   ·rfl
  ·rw [R3 (by assumption)] at hM
   refine⟨[],[],_,_,_,rfl,az,(),aa,?_,?_,rfl⟩
   ·(show _=eO s);unfold eO;first|(rw [hM];rfl)|rfl
   ·rfl
  ·rw [HI (by assumption) (by assumption)] at hM
   refine⟨[],[],_,_,_,rfl,az,(),aa,?_,?_,rfl⟩
   ·(show _=eO s);unfold eO;first|(rw [hM];rfl)|rfl
   ·rfl
end GL
namespace GL
def ov:List ByteArray→List Pt→Bool→Option (List Pt×Bool)
 |[],out,sm=>some (out,sm)
 |t::l,out,sm=>bif (bR t).2 then ov l (out++[(bR t).1]) (sm|| !(au (bR t).1)) else none
def mh (o:List Pt) (sm:Bool):List Pt×Bool:=bif decide ((o.length:Int)≠4)|| !sm then ([],false) else (o,true)
def bn (s:ByteArray):List Pt×Bool:=
 match ov (bo s 44) [] false with
 |none=>([],false)
 |some (o,sm)=>mh o sm
theorem xi {s:ByteArray}(h:ov (bo s 44) [] false=none):bn s=([],false):=by unfold bn;rw [h]
theorem jY {s:ByteArray}{o:List Pt}{sm:Bool}(h:ov (bo s 44) [] false=some (o,sm)):bn s=mh o sm:=by unfold bn;rw [h]
theorem AE {o:List Pt}{sm:Bool}(h:decide ((o.length:Int)≠4)=true):mh o sm=([],false):=by unfold mh;rw [h];rfl
theorem AD {o:List Pt}{sm:Bool}(h:(!sm)=true):mh o sm=([],false):=by unfold mh;rw [h,ZC4];rfl
theorem vT {o:List Pt}{sm:Bool}(h:decide ((o.length:Int)≠4)=false) (h2:(!sm)=false):mh o sm=(o,true):=by unfold mh;rw [h,h2];rfl
theorem aeY {t:ByteArray}{l:List ByteArray}{out:List Pt}{sm:Bool}(h:(!(bR t).2)=false):ov (t::l) out sm=ov l (out++[(bR t).1]) (sm|| !(au (bR t).1)):=by rw [ov,cI h];rfl
theorem aij {t:ByteArray}{l:List ByteArray}{out:List Pt}{sm:Bool}(h:(!(bR t).2)=true):ov (t::l) out sm=none:=by rw [ov,xv h];rfl
def qk (s:ByteArray):Prop:=s.size≤1000000
def ir (s:ByteArray):AV:=.t [.s (.xs 0 5 0 (bn s).1.length),.s (.q (bn s).2)]
def jT (s:ByteArray):List AV:=[.rs ae (bn s).1]
def we:Con where
 A:=[.s .str]
 B:=[]
 pre:=fun x b=>qk x
 α:=fun _ _=>Unit
 φ:=fun _ _ _=>True
 r:=fun x b _=>ir x
 o:=fun x b _=>jT x
 nf:=1
set_option maxRecDepth 100000 in
theorem TZ:Has Tryz.prog 89 we:=by
 refine Has.ofE (fun _=>true) (fun _=>false) (fun _=>false) (l:=[(115,iE),(75,qI),(26,bm)]) ⟨tK,IZ,cB,trivial⟩ (fn:=Tryz.f89) Tryz.func89 rfl (by decide) (aZ rfl) ?_
 rintro (s:ByteArray) _ (hp:qk s)
 show vc _ _ _ _ (entry [.str s] []) _
 unfold qk at hp
 have T7:=ua s 44
 refine⟨⟨⟨aa,aa,aa⟩,?_⟩,fun x1 w2=>⟨aa,?_⟩⟩
 all_goals first|refine aw ?_|refine ax ?_|exact ba|(dsimp only [iE,iS];omega)|(dsimp only [qI,mT];omega)|(dsimp only [bm,cj];omega)|exact a8|skip
 refine cO (l:=[(115,iE),(75,qI),(26,bm)]) (ex:=fun _=>true) (wr:=fun _=>false) (pt:=fun _=>false) ⟨tK,IZ,cB,aa⟩ [.s 0,.s 4,.b 120000] (fun y:Nat×List Pt×Bool=>[(.s 5,.s (.xs 1012 5 0 y.2.1.length)),(.s 6,.s (.q y.2.2)),(.s 7,.int y.1),(.b 1012,.rs ae y.2.1)]) (fun y=>y.1≤(bo s 44).length∧y.2.1.length=y.1∧ov ((bo s 44).drop y.1) y.2.1 y.2.2=ov (bo s 44) [] false) (fun y=>(bo s 44).length-y.1) (0,[],false) [] ⟨ZA8 _,rfl,rfl⟩ dN ?_
 rintro⟨i,out,sm⟩ ⟨(hi:i≤(bo s 44).length),(hl:out.length=i),(hr:ov ((bo s 44).drop i) out sm=ov (bo s 44) [] false)⟩
 have dk:i<(bo s 44).length→(nth ab (bo s 44) i).size≤1000000:=fun h=>ZB1 (o6 (s:=s) (c:=44) _ (bT (ek:=ab) h)) hp
 have cP:i<(bo s 44).length→(bo s 44).drop i=nth ab (bo s 44) i::(bo s 44).drop (i+1):=fun h=>bZ (ek:=ab) h
 have cr:decide ((i:Int)<((bo s 44).length:Int))=true→i<(bo s 44).length:=fun h=>by have:=aE h;omega
 have oo:decide ((i:Int)<((bo s 44).length:Int))=false→ov (bo s 44) [] false=some (out,sm):=fun h=>by
  have:=aA h
  rw [←hr,ZB4 (by omega)];rfl
 refine⟨fun w1=>⟨⟨?_,?_⟩,?_,⟨⟨aa,aa⟩,?_⟩,fun x2 w3=>⟨fun w4=>⟨aa,?_⟩,fun w5=>⟨aa,fun w6=>⟨aa,⟨⟨?_,?_⟩,?_,?_⟩,⟨?_,?_⟩,?_⟩,fun w7=>⟨⟨⟨⟨aa,aa,aa,aa,aa,aa⟩,aa⟩,aa⟩,fun x8 w9=>⟨aa,⟨⟨?_,?_⟩,?_,?_⟩,⟨?_,?_⟩,?_⟩⟩⟩⟩⟩,fun dq=>⟨aa,fun kk=>⟨aa,?_⟩,fun dI=>⟨fun iJ=>⟨aa,?_⟩,fun gI=>?_⟩⟩⟩
 all_goals first|refine aw ?_|refine ax ?_|exact ba|(dsimp only [iE,iS];omega)|(dsimp only [qI,mT];omega)|(dsimp only [bm,cj];omega)|exact a8|(exact dk (cr (by assumption)))|skip
 ·have e:ov (bo s 44) [] false=none:=by rw [←hr,cP (cr (by assumption)),aij (by assumption)]
  refine⟨[1029],[],_,_,_,rfl,az,(),aa,?_,?_,rfl⟩
  ·(show _=ir s);unfold ir;first|(rw [xi e];rfl)|rfl
  ·(show _=jT s);unfold jT;first|(rw [xi e];rfl)|rfl
 ·refine⟨(i+1,out++[(bR (nth ab (bo s 44) i)).1],true),[(1012,1039)],?_,?_,?_⟩
  rotate_right
  ·exact bX
  ·have bU:=cr (by assumption)
   refine⟨bU,by show List.length (_++_)=_;rw [ZA0,hl];rfl,?_⟩
   rw [←hr,cP bU,aeY (by assumption),show sm=true by assumption];rfl
  ·show (bo s 44).length-(i+1)<(bo s 44).length-i;have:=cr (by assumption);omega
 ·refine⟨(i+1,out++[(bR (nth ab (bo s 44) i)).1],!(au (bR (nth ab (bo s 44) i)).1)),[(1012,1039)],?_,?_,?_⟩
  rotate_right
  ·exact bX
  ·have bU:=cr (by assumption)
   refine⟨bU,by show List.length (_++_)=_;rw [ZA0,hl];rfl,?_⟩
   rw [←hr,cP bU,aeY (by assumption),show sm=false by assumption];rfl
  ·show (bo s 44).length-(i+1)<(bo s 44).length-i;have:=cr (by assumption);omega
 ·refine⟨[1047],[],_,_,_,rfl,az,(),aa,?_,?_,rfl⟩
  ·(show _=ir s);unfold ir;first|(rw [jY (oo (by assumption)),AE (by assumption)];rfl)|rfl
  ·(show _=jT s);unfold jT;first|(rw [jY (oo (by assumption)),AE (by assumption)];rfl)|rfl
 ·refine⟨[1047],[],_,_,_,rfl,az,(),aa,?_,?_,rfl⟩
  ·(show _=ir s);unfold ir;first|(rw [jY (oo (by assumption)),AD (by assumption)];rfl)|rfl
  ·(show _=jT s);unfold jT;first|(rw [jY (oo (by assumption)),AD (by assumption)];rfl)|rfl
 ·refine⟨[1012],[],_,_,_,rfl,az,(),aa,?_,?_,rfl⟩
  ·(show _=ir s);unfold ir;first|(rw [jY (oo (by assumption)),vT (by assumption) (by assumption)];rfl)|rfl
  ·(show _=jT s);unfold jT;first|(rw [jY (oo (by assumption)),vT (by assumption) (by assumption)];rfl)|rfl
def hZ:List Pt→Nat→ByteArray→Bool→Option (ByteArray×Bool)
 |[],_,out,sm=>some (out,sm)
 |p::l,i,out,sm=>bif a6 p then hZ l (i+1) ((bif decide ((i:Int)>0) then out++⟨#[44]⟩ else out)++bd p) (sm|| !(au p)) else none
def ry (o:ByteArray) (sm:Bool):ByteArray×Bool:=bif !sm then (⟨#[]⟩,false) else (o,true)
def rv (l:List Pt):ByteArray×Bool:=
 match hZ l 0 ⟨#[]⟩ false with
 |none=>(⟨#[]⟩,false)
 |some (o,sm)=>ry o sm
def bG (l:List Pt):ByteArray×Bool:=bif decide ((l.length:Int)≠4) then (⟨#[]⟩,false) else rv l
theorem xg {l:List Pt}(h:decide ((l.length:Int)≠4)=true):bG l=(⟨#[]⟩,false):=by unfold bG;rw [h];rfl
theorem xf {l:List Pt}(h:decide ((l.length:Int)≠4)=false):bG l=rv l:=by unfold bG;rw [h];rfl
theorem px {l:List Pt}(h:hZ l 0 ⟨#[]⟩ false=none):rv l=(⟨#[]⟩,false):=by unfold rv;rw [h]
theorem sK {l:List Pt}{o:ByteArray}{sm:Bool}(h:hZ l 0 ⟨#[]⟩ false=some (o,sm)):rv l=ry o sm:=by unfold rv;rw [h]
theorem DB {o:ByteArray}{sm:Bool}(h:(!sm)=true):ry o sm=(⟨#[]⟩,false):=by unfold ry;rw [h];rfl
theorem xh {o:ByteArray}{sm:Bool}(h:(!sm)=false):ry o sm=(o,true):=by unfold ry;rw [h];rfl
theorem agy {p:Pt}{l:List Pt}{i:Nat}{out:ByteArray}{sm:Bool}(h:(!(a6 p))=true):hZ (p::l) i out sm=none:=by rw [hZ,xv h];rfl
theorem FY {p:Pt}{l:List Pt}{i:Nat}{out:ByteArray}{sm:Bool}(h:(!(a6 p))=false):hZ (p::l) i out sm=hZ l (i+1) ((bif decide ((i:Int)>0) then out++⟨#[44]⟩ else out)++bd p) (sm|| !(au p)):=by rw [hZ,cI h];rfl
theorem QW {a b:ByteArray}(ha:a.size≤1000000) (hb:b.size≤1000000):((a.size+b.size:Nat):Int)≤imax:=by
 unfold imax;omega
theorem agV (p:Pt):(bd p).size≤1000000:=ZB1 (gw p) (by omega)
def yx (l:List Pt):Prop:=True
def iq (l:List Pt):AV:=.t [.s (.str (bG l).1),.s (.q (bG l).2)]
def abM (l:List Pt):List AV:=[]
def KI:Con where
 A:=[.s (.vz ae)]
 B:=[]
 pre:=fun x b=>yx x
 α:=fun _ _=>Unit
 φ:=fun _ _ _=>True
 r:=fun x b _=>iq x
 o:=fun x b _=>abM x
 nf:=0
set_option maxRecDepth 100000 in
theorem aem:Has Tryz.prog 121 KI:=by
 refine Has.ofE (fun _=>true) (fun _=>false) (fun _=>false) (l:=[(25,cY),(26,bm),(118,qH)]) ⟨iB,cB,IY,trivial⟩ (fn:=Tryz.f121) Tryz.func121 rfl (by decide) (aZ rfl) ?_
 rintro (l:List Pt) _ (hp:yx l)
 show vc _ _ _ _ (entry [.s (.vz ae l)] []) _
 refine⟨fun w1=>?_,fun w2=>?_⟩
 all_goals first|refine aw ?_|refine ax ?_|exact ba|(dsimp only [cY,ee];omega)|(dsimp only [bm,cj];omega)|(dsimp only [qH,qh];omega)|exact a8|skip
 ·refine⟨[],[],_,_,_,rfl,az,(),aa,?_,?_,rfl⟩
  ·(show _=iq l);unfold iq;first|(rw [xg (by assumption)];rfl)|rfl
  ·rfl
 ·have h4:l.length=4:=by have:=aA (p:=(l.length:Int)≠4) (by assumption);omega
  have hM:=xf (l:=l) (by assumption)
  refine cO (l:=[(25,cY),(26,bm),(118,qH)]) (ex:=fun _=>true) (wr:=fun _=>false) (pt:=fun _=>false) ⟨iB,cB,IY,aa⟩ [.s 0] (fun y:Nat×ByteArray×Bool=>[(.s 4,.str y.2.1),(.s 5,.s (.q y.2.2)),(.s 6,.int y.1)]) (fun y=>y.1≤4∧y.2.1.size≤65*y.1∧hZ (l.drop y.1) y.1 y.2.1 y.2.2=hZ l 0 ⟨#[]⟩ false) (fun y=>4-y.1) (0,⟨#[]⟩,false) [] ⟨ZA8 _,ZA8 _,rfl⟩ dN ?_
  rintro⟨i,out,sm⟩ ⟨(hi:i≤4),(ho:out.size≤65*i),(hr:hZ (l.drop i) i out sm=hZ l 0 ⟨#[]⟩ false)⟩
  have cr:decide ((i:Int)<(l.length:Int))=true→i<l.length:=fun h=>by have:=aE h;omega
  have cP:i<l.length→l.drop i=nth ae l i::l.drop (i+1):=fun h=>bZ (ek:=ae) h
  have dk:=gw (nth ae l i)
  have oo:decide ((i:Int)<(l.length:Int))=false→hZ l 0 ⟨#[]⟩ false=some (out,sm):=fun h=>by
   have:=aA h
   rw [←hr,ZB4 (by omega)];rfl
  refine⟨fun w1=>⟨⟨?_,?_⟩,⟨⟨⟨aa,aa,aa,aa,aa,aa⟩,aa⟩,aa⟩,fun x2 w3=>⟨fun w4=>?_,fun w5=>⟨aa,fun w6=>⟨fun w7=>⟨?_,⟨?_,?_⟩,⟨⟨⟨aa,aa,aa,aa,aa,aa⟩,aa⟩,aa⟩,fun x8 w9=>⟨?_,⟨?_,?_⟩,?_⟩⟩,fun dq=>⟨⟨?_,?_⟩,⟨⟨⟨aa,aa,aa,aa,aa,aa⟩,aa⟩,aa⟩,fun kE dI=>⟨?_,⟨?_,?_⟩,?_⟩⟩⟩,fun iJ=>⟨⟨?_,?_⟩,⟨⟨⟨aa,aa,aa,aa,aa,aa⟩,aa⟩,aa⟩,fun x14 pe=>⟨fun kj=>⟨?_,⟨?_,?_⟩,⟨⟨⟨aa,aa,aa,aa,aa,aa⟩,aa⟩,aa⟩,fun x17 qX=>⟨?_,⟨?_,?_⟩,?_⟩⟩,fun oB=>⟨⟨?_,?_⟩,⟨⟨⟨aa,aa,aa,aa,aa,aa⟩,aa⟩,aa⟩,fun x20 zm=>⟨?_,⟨?_,?_⟩,?_⟩⟩⟩⟩⟩⟩⟩,fun zl=>⟨fun xD=>?_,fun rG=>?_⟩⟩
  all_goals first|refine aw ?_|refine ax ?_|exact ba|(dsimp only [cY,ee];omega)|(dsimp only [bm,cj];omega)|(dsimp only [qH,qh];omega)|exact a8|(exact QW (show out.size≤1000000 by omega) (by rw [sz1];omega))|(exact QW (show (out++(⟨#[44]⟩:ByteArray)).size≤1000000 by rw [ZB3,sz1];omega) (agV _))|(exact QW (show out.size≤1000000 by omega) (agV _))|skip
  ·have e:hZ l 0 ⟨#[]⟩ false=none:=by rw [←hr,cP (cr (by assumption)),agy (by assumption)]
   refine⟨[],[],_,_,_,rfl,az,(),aa,?_,?_,rfl⟩
   ·(show _=iq l);unfold iq;first|(rw [hM,px e];rfl)|rfl
   ·rfl
  ·have bU:=cr (by assumption)
   refine⟨(i+1,out++⟨#[44]⟩++bd (nth ae l i),true),[],?_,?_,?_⟩
   rotate_right
   ·exact bX
   ·refine⟨by show i+1≤4;omega,by simp only [ZB3,sz1];omega,?_⟩
    rw [←hr,cP bU,FY (by assumption),show decide ((i:Int)>0)=true by assumption,show sm=true by assumption];rfl
   ·show 4-(i+1)<4-i;omega
  ·have bU:=cr (by assumption)
   refine⟨(i+1,out++bd (nth ae l i),true),[],?_,?_,?_⟩
   rotate_right
   ·exact bX
   ·refine⟨by show i+1≤4;omega,by simp only [ZB3,sz1];omega,?_⟩
    rw [←hr,cP bU,FY (by assumption),show decide ((i:Int)>0)=false by assumption,show sm=true by assumption];rfl
   ·show 4-(i+1)<4-i;omega
  ·have bU:=cr (by assumption)
   refine⟨(i+1,out++⟨#[44]⟩++bd (nth ae l i),!(au (nth ae l i))),[],?_,?_,?_⟩
   rotate_right
   ·exact bX
   ·refine⟨by show i+1≤4;omega,by simp only [ZB3,sz1];omega,?_⟩
    rw [←hr,cP bU,FY (by assumption),show decide ((i:Int)>0)=true by assumption,show sm=false by assumption];rfl
   ·show 4-(i+1)<4-i;omega
  ·have bU:=cr (by assumption)
   refine⟨(i+1,out++bd (nth ae l i),!(au (nth ae l i))),[],?_,?_,?_⟩
   rotate_right
   ·exact bX
   ·refine⟨by show i+1≤4;omega,by simp only [ZB3,sz1];omega,?_⟩
    rw [←hr,cP bU,FY (by assumption),show decide ((i:Int)>0)=false by assumption,show sm=false by assumption];rfl
   ·show 4-(i+1)<4-i;omega
  ·refine⟨[],[],_,_,_,rfl,az,(),aa,?_,?_,rfl⟩
   ·(show _=iq l);unfold iq;first|(rw [hM,sK (oo (by assumption)),DB (by assumption)];rfl)|rfl
   ·rfl
  ·refine⟨[],[],_,_,_,rfl,az,(),aa,?_,?_,rfl⟩
   ·(show _=iq l);unfold iq;first|(rw [hM,sK (oo (by assumption)),xh (by assumption)];rfl)|rfl
   ·rfl
end GL
namespace GL
def dC:List ByteArray→ByteArray→ByteArray×Bool
 |[],out=>(out,true)
 |x::l,out=>bif decide ((x.size:Int)>2048) then (⟨#[]⟩,false) else
  bif decide (((out++ca x.size++⟨#[58]⟩++x).size:Int)>2048) then (⟨#[]⟩,false) else dC l (out++ca x.size++⟨#[58]⟩++x)
def cG (l:List ByteArray):ByteArray×Bool:=bif decide ((l.length:Int)≤60) then dC l ⟨#[]⟩ else (⟨#[]⟩,false)
theorem gG {l:List ByteArray}(h:decide ((l.length:Int)≤60)=true):cG l=dC l ⟨#[]⟩:=by unfold cG;rw [h];rfl
theorem tT {l:List ByteArray}(h:decide ((l.length:Int)≤60)=false):cG l=(⟨#[]⟩,false):=by unfold cG;rw [h];rfl
theorem NC {x:ByteArray}{l:List ByteArray}{out:ByteArray}(h:decide ((x.size:Int)>2048)=true):dC (x::l) out=(⟨#[]⟩,false):=by rw [dC,h];rfl
theorem NB {x:ByteArray}{l:List ByteArray}{out:ByteArray}(h:decide (((out++ca x.size++⟨#[58]⟩++x).size:Int)>2048)=true):dC (x::l) out=(⟨#[]⟩,false):=by
 rw [dC,h];cases decide ((x.size:Int)>2048)<;>rfl
theorem NA {x:ByteArray}{l:List ByteArray}{out:ByteArray}(h:decide ((x.size:Int)>2048)=false) (h2:decide (((out++ca x.size++⟨#[58]⟩++x).size:Int)>2048)=false):dC (x::l) out=dC l (out++ca x.size++⟨#[58]⟩++x):=by rw [dC,h,h2];rfl
def kq (l:List ByteArray):Prop:=True
def eY (l:List ByteArray):AV:=.t [.s (.str (cG l).1),.s (.q (cG l).2)]
def O4 (l:List ByteArray):List AV:=[]
def jI:Con where
 A:=[.s (.vz ab)]
 B:=[]
 pre:=fun x b=>kq x
 α:=fun _ _=>Unit
 φ:=fun _ _ _=>True
 r:=fun x b _=>eY x
 o:=fun x b _=>O4 x
 nf:=0
set_option maxRecDepth 100000 in
theorem vI:Has Tryz.prog 114 jI:=by
 refine Has.ofE (fun _=>true) (fun _=>false) (fun _=>false) (l:=[(117,j6)]) ⟨wZ,trivial⟩ (fn:=Tryz.f114) Tryz.func114 rfl (by decide) (aZ rfl) ?_
 rintro (l:List ByteArray) _ (hp:kq l)
 show vc _ _ _ _ (entry [.s (.vz ab l)] []) _
 refine cO (l:=[(117,j6)]) (ex:=fun _=>true) (wr:=fun _=>false) (pt:=fun _=>false) ⟨wZ,aa⟩ [.s 0] (fun y:Nat×ByteArray=>[(.s 4,.str y.2),(.s 5,.int y.1)]) (fun y=>y.1≤l.length∧y.2.size≤2048∧(l.length≤60→dC (l.drop y.1) y.2=dC l ⟨#[]⟩)∧(60<l.length→y.1=0∧y.2=⟨#[]⟩)) (fun y=>l.length-y.1) (0,⟨#[]⟩) [] ⟨ZA8 _,ZA8 _,fun _=>rfl,fun _=>⟨rfl,rfl⟩⟩ dN ?_
 rintro⟨i,out⟩ ⟨(hi:i≤l.length),(ho:out.size≤2048),(hr:l.length≤60→dC (l.drop i) out=dC l ⟨#[]⟩),(h0:60<l.length→i=0∧out=⟨#[]⟩)⟩
 have cr:decide ((i:Int)<(l.length:Int))=true→i<l.length:=fun h=>by have:=aE h;omega
 have h60:decide ((l.length:Int)≤60)=true→l.length≤60:=fun h=>by have:=aE h;omega
 have cP:i<l.length→l.drop i=nth ab l i::l.drop (i+1):=fun h=>bZ (ek:=ab) h
 have hsm:decide (((nth ab l i).size:Int)>2048)=false→(nth ab l i).size≤2048∧(ca ((nth ab l i).size:Int)).size≤12:=fun h=>by
  have:=aA h
  exact⟨by omega,dc (by omega)⟩
 refine⟨aa,fun w1=>⟨fun w2=>⟨⟨?_,?_⟩,fun w3=>?_,fun w4=>⟨[.s 4],[.s 23],rfl,[.s 0],[.s 24],rfl,[.s 5],[.s 25],rfl,[.s 24,.s 25],[.s 26],rfl,⟨?_,?_⟩,[.s 26],[.s 27],rfl,[.s 27],[.s 28],rfl,[.s 28],[.s 29],rfl,⟨⟨aa,aa⟩,?_,?_⟩,?_,fun x5 w6=>⟨[.s 23,.s 29],[.s 30],rfl,?_,[.s 30],[.s 31],rfl,?_,[.s 0],[.s 32],rfl,[.s 5],[.s 33],rfl,[.s 32,.s 33],[.s 34],rfl,⟨?_,?_⟩,[.s 34],[.s 35],rfl,[.s 31,.s 35],[.s 36],rfl,?_,[.s 36],[.s 4],rfl,fun w7=>?_,fun w8=>⟨⟨?_,?_⟩,?_⟩⟩⟩⟩,fun w9=>?_⟩,fun dq=>?_⟩
 all_goals first|refine aw ?_|refine ax ?_|exact ba|(dsimp only [j6,mQ];omega)|exact a8|(have:=hsm (by assumption);exact QW (show (out++ca ((nth ab l i).size:Int)).size≤1000000 by rw [ZB3];omega) (by rw [sz1];omega))|(have:=hsm (by assumption);exact QW (show (out++ca ((nth ab l i).size:Int)++(⟨#[58]⟩:ByteArray)).size≤1000000 by rw [ZB3,ZB3,sz1];omega) (show (nth ab l i).size≤1000000 by omega))|skip
 ·have e:dC l ⟨#[]⟩=(⟨#[]⟩,false):=by rw [←hr (h60 (by assumption)),cP (cr (by assumption)),NC (by assumption)]
  refine⟨[],[],_,_,_,rfl,az,(),aa,?_,?_,rfl⟩
  ·(show _=eY l);unfold eY;first|(rw [gG (by assumption),e];rfl)|rfl
  ·rfl
 ·have e:dC l ⟨#[]⟩=(⟨#[]⟩,false):=by rw [←hr (h60 (by assumption)),cP (cr (by assumption)),NB (by assumption)]
  refine⟨[],[],_,_,_,rfl,az,(),aa,?_,?_,rfl⟩
  ·(show _=eY l);unfold eY;first|(rw [gG (by assumption),e];rfl)|rfl
  ·rfl
 ·have bU:=cr (by assumption)
  have h6:=h60 (by assumption)
  have hs2:¬(((out++ca ((nth ab l i).size:Int)++(⟨#[58]⟩:ByteArray)++nth ab l i).size:Int)>2048):=aA (by assumption)
  refine⟨(i+1,out++ca ((nth ab l i).size:Int)++⟨#[58]⟩++nth ab l i),[],?_,?_,?_⟩
  rotate_right
  ·exact bX
  ·refine⟨bU,Int.ofNat_le.1 (ZG9.1 hs2),fun h=>?_,fun h=>absurd h6 (by omega)⟩
   rw [←hr h,cP bU,NA (by assumption) (by assumption)]
  ·show l.length-(i+1)<l.length-i;omega
 ·have hd:decide ((l.length:Int)≤60)=false:=by assumption
  obtain⟨rfl,rfl⟩:=h0 (by have:=aA hd;omega)
  refine⟨[],[],_,_,_,rfl,az,(),aa,?_,?_,rfl⟩
  ·(show _=eY l);unfold eY;first|((rw [tT hd];show AV.t [_,A0.s (SV.q (decide ((l.length:Int)≤60)))]=_;rw [hd];rfl))|rfl
  ·rfl
 ·have FX:¬i<l.length:=by have:=aA (p:=(i:Int)<(l.length:Int)) (by assumption);omega
  have h6:l.length≤60:=by
   by_cases h:l.length≤60
   ·exact h
   ·obtain⟨h1,_⟩:=h0 (by omega);omega
  have hd:decide ((l.length:Int)≤60)=true:=decide_eq_true (by omega)
  have e:cG l=(out,true):=by rw [gG hd,←hr h6,ZB4 (by omega)];rfl
  refine⟨[],[],_,_,_,rfl,az,(),aa,?_,?_,rfl⟩
  ·(show _=eY l);unfold eY;first|((rw [e];show AV.t [_,A0.s (SV.q (decide ((l.length:Int)≤60)))]=_;rw [hd];rfl))|rfl
  ·rfl
end GL
end Go.Proofs.YtbfgjadbfjkcdaaGreatDoor
