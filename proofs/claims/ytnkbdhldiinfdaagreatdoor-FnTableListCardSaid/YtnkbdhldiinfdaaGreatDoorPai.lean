/- Part 9 of the proof of a drawn law. -/
import Derived.Test.YtnkbdhldiinfdaaGreatDoorPah
set_option maxHeartbeats 20000000
set_option maxRecDepth 100000
set_option linter.all false
namespace Go.Proofs.YtnkbdhldiinfdaaGreatDoor
namespace GL
def yi (sp:List Int×List Int):Prop:=sp.1.length≤1000000∧sp.2.length≤1000000
def VJ (sp:List Int×List Int):AV:=.a [.xs 0 1 0 sp.1.length,.xs 1 1 0 sp.2.length]
def abg (sp:List Int×List Int):List AV:=[.rs ag sp.1,.rs ag sp.2]
def J1:cn where
 A:=[.a [.vz ag,.vz ag]]
 B:=[]
 pre:=λx b=>yi x
 r:=λx b _=>VJ x
 o:=λx b _=>abg x
 nf:=2
theorem adY:Has Tryz.prog 150 J1:=by
 refine Has.fm zT zF zF (l:=[]) trivial Tryz.func150 ?_
 rintro⟨(dA:List Int),(eI:List Int)⟩ _ (hp:yi (dA,eI))
 show vc _ _ _ _ (entry [.a [.vz ag dA,.vz ag eI]] []) _
 obtain⟨(h1:dA.length≤1000000),(h2:eI.length≤1000000)⟩:=hp
 refine⟨[.b 1003],[.s 3,.b 1003],ζ,aa,Sq1,Sq4,ζ,[.s 4,.b 1001],Sq5,ζ,[.s 3,.s 5,.b 1003,.b 1006],[.s 6,.b 1006,.b 1003],ζ,⟨⟨?_,?_⟩,aa⟩,[.b 1007],[.s 7,.b 1007],ζ,aa,Sq1,Sq8,ζ,[.s 8,.b 1001],Sq9,ζ,[.s 7,.s 9,.b 1007,.b 1010],[.s 10,.b 1010,.b 1007],ζ,⟨⟨?_,?_⟩,aa⟩,[.s 6,.s 10],Sq11,ζ,[.s 2,.s 11,.b 1002],[.b 1002],ζ,?_⟩
 all_goals first|refine aw ?_|refine ax ?_|exact a8|exact a7|(simp only [dC,ZA4];omega)|skip
 refine⟨[1006,1010],[],_,_,_,ζ,az,(),aa,?_,?_,ζ⟩
 ·show AV.a [.xs 0 1 0 (0+dA.length),.xs 1 1 0 (0+eI.length)]=AV.a [.xs 0 1 0 dA.length,.xs 1 1 0 eI.length]
  rw [ZA6,ZA6]
 ·rfl
def ay.small (s:ay):Prop:=s.rows.length≤1000000∧s.refs.length≤1000000∧s.last.length≤1000000∧s.gone.length≤1000000∧s.dead.length≤1000000
def pX (S:ay):Prop:=S.small
def VE (S:ay):AV:=.a (kW 0 1 2 3 4 S)
def abb (S:ay):List AV:=GF S
def jD:cn where
 A:=[.a xv]
 B:=[]
 pre:=λx b=>pX x
 r:=λx b _=>VE x
 o:=λx b _=>abb x
 nf:=5
theorem IH:Has Tryz.prog 99 jD:=by
 refine Has.fm zT zF zF (l:=[(150,J1)]) ⟨adY,aa⟩ Tryz.func99 ?_
 rintro⟨(aj:List ByteArray),(ak:List Int),(an:List Int),(ao:Int),(ah:List Pt),(aq:Int),(ai:List Pt),(ar:Bool)⟩ _ (hp:pX (aj,ak,an,ao,ah,aq,ai,ar))
 show vc _ _ _ _ (entry [.a [.vz ab aj,.vz ag ak,.vz ag an,.int ao,.vz ae ah,.int aq,.vz ae ai,.q ar]] []) _
 obtain⟨h1,h2,h3,h4,h5⟩:=hp
 dsimp only [ay.rows,ay.refs,ay.last,ay.gone,ay.dead] at h1 h2 h3 h4 h5
 refine⟨aa,⟨⟨?_,?_⟩,aa⟩,⟨⟨tv3,aa⟩,?_,?_⟩,λx1 w2=>⟨aa,⟨⟨?_,?_⟩,aa⟩,aa,⟨⟨?_,?_⟩,aa⟩,?_⟩⟩
 all_goals first|refine aw ?_|refine ax ?_|exact a8|(dsimp only [J1,yi];omega)|exact a7|(simp only [dC,ZA4];omega)|skip
 refine⟨[1006,110000,110001,1015,1020],[],_,_,_,ζ,az,(),aa,?_,?_,ζ⟩
 ·exact congrArg AV.a (uU (s:=(aj,ak,an,ao,ah,aq,ai,ar)) (ZA6 _) rfl rfl rfl (ZA6 _) rfl (ZA6 _) rfl)
 ·rfl
def inL (l:List Int) (n:Int):Bool:=decide (n∈l)
theorem bR {ek:EK}{l:List (EK.Ty ek)}{k:Nat}(h:k<l.length):nth ek l k∈l:=by
 have:=oD h
 exact ZB6 this
def zt (l:List Int) (n:Int):Prop:=l.length≤1000000
def acI (l:List Int) (n:Int):AV:=.q (inL l n)
def afF (l:List Int) (n:Int):List AV:=[]
def PY:cn where
 A:=[.s (.vz ag),.s .int]
 B:=[]
 pre:=λx b=>zt (x.1) (x.2)
 r:=λx b _=>acI (x.1) (x.2)
 o:=λx b _=>afF (x.1) (x.2)
theorem adV:Has Tryz.prog 189 PY:=by
 refine Has.fm zT zF zF (l:=[]) trivial Tryz.func189 ?_
 rintro⟨(l:List Int),(n:Int)⟩ _ (hp:zt l n)
 show vc _ _ _ _ (entry [.s (.vz ag l),.int n] []) _
 unfold zt at hp
 refine cN (l:=[]) (ex:=zT) (wr:=zF) (pt:=zF) trivial [.s 0,.s 1] (λi:Nat=>[(.s 5,.int i)]) (λi=>i≤l.length∧∀j,j<i→nth ag l j≠n) (λi=>l.length-i) 0 [] ⟨ZA7 _,λj hj=>absurd hj (by omega)⟩ (by repeat' (first|exact trivial|rfl|exact rfl|exact fP (ZA6 _)|apply And.intro)) ?_
 rintro i ⟨hi,uy⟩
 refine⟨λw1=>⟨⟨?_,?_⟩,⟨λw2=>?_,λw3=>⟨⟨?_,?_⟩,?_⟩⟩⟩,λw4=>?_⟩
 all_goals first|refine aw ?_|refine ax ?_|exact a8|exact a7|skip
 ·have bU:i<l.length:=by have:=aJ w1;omega
  refine⟨[],[],_,_,_,ζ,az,(),aa,?_,?_,ζ⟩
  ·show AV.q true=AV.q (inL l n)
   rw [show inL l n=true from decide_eq_true (by rw [←aJ w2];exact bR bU)]
  ·rfl
 ·have bU:i<l.length:=by have:=aJ w1;omega
  refine⟨(i+1),[],?_,?_,?_⟩
  rotate_right
  ·repeat' (first|exact trivial|rfl|exact rfl|exact fP ZA0.symm|exact oP|apply And.intro)
  ·refine⟨bU,λj hj=>?_⟩
   by_cases e:j=i
   ·subst e;exact aA w3
   ·exact uy j (by omega)
  ·show l.length-(i+1)<l.length-i
   omega
 ·have FL:i=l.length:=by have:¬((i:Int)<(l.length:Int)):=aA w4;omega
  refine⟨[],[],_,_,_,ζ,az,(),aa,?_,?_,ζ⟩
  ·show AV.q false=AV.q (inL l n)
   rw [show inL l n=false from decide_eq_false (λhm=>by
    obtain⟨j,hj,e⟩:=List.getElem_of_mem hm
    have h1:=oD (ek:=ag) hj
    rw [ZB1 hj,e] at h1
    exact uy j (by omega) (ZG8 h1).symm)]
  ·rfl
def findF:Nat→Nat→List Int→Int
 |0,_,_=> -1
 |f+1,i,rf=>bif decide (nth ag rf i=0) then (i:Int) else findF f (i+1) rf
def oe (rf:List Int):Int:=findF 56 8 rf
theorem T2:∀(f i:Nat) (rf:List Int),findF f i rf= -1∨((i:Int)≤findF f i rf∧findF f i rf<i+f)
 |0,_,_=>.inl rfl
 |f+1,i,rf=>by
  unfold findF
  cases decide (nth ag rf i=0) with
  |true=>right;simp only [cond_true];omega
  |false=>
   simp only [cond_false]
   rcases T2 f (i+1) rf with h |h
   ·exact .inl h
   ·right;omega
theorem T1 (rf:List Int):oe rf= -1∨(8≤oe rf∧oe rf<64):=T2 56 8 rf
def yh (sp:List Int×List Int) (fr:Int) (bu:List Int):Prop:=sp.1.length=64∧fr=8∧bu=[]
def VI (sp:List Int×List Int) (fr:Int) (bu:List Int):AV:=.int (oe sp.1)
def abf (sp:List Int×List Int) (fr:Int) (bu:List Int):List AV:=[]
def J0:cn where
 A:=[.a [.vz ag,.vz ag],.s .int,.s (.vz ag)]
 B:=[]
 pre:=λx b=>yh (x.1) (x.2.1) (x.2.2)
 r:=λx b _=>VI (x.1) (x.2.1) (x.2.2)
 o:=λx b _=>abf (x.1) (x.2.1) (x.2.2)
theorem adX:Has Tryz.prog 142 J0:=by
 refine Has.fm zT zF zF (l:=[(120,oY),(189,PY)]) ⟨zI,adV,aa⟩ Tryz.func142 ?_
 rintro⟨⟨(dA:List Int),(eI:List Int)⟩,(fr:Int),(bu:List Int)⟩ _ (hp:yh (dA,eI) fr bu)
 show vc _ _ _ _ (entry [.a [.vz ag dA,.vz ag eI],.int fr,.s (.vz ag bu)] []) _
 obtain⟨(h1:dA.length=64),rfl,rfl⟩:=hp
 refine⟨⟨⟨trivial,trivial⟩,trivial⟩,λx1 w1=>⟨λw2=>absurd w2 (by decide),λw3=>?_⟩⟩
 refine cN (l:=[(120,oY),(189,PY)]) (ex:=zT) (wr:=zF) (pt:=zF) ⟨zI,adV,trivial⟩ [.s 1,.s 2,.s 3,.s 7,.b 1003] (λi:Nat=>[(.s 8,.int i)]) (λi=>i≤56∧findF (56-i) (8+i) dA=oe dA) (λi=>56-i) 0 [] ⟨ZA7 _,rfl⟩ (by repeat' (first|exact trivial|rfl|exact rfl|exact fP (ZA6 _)|apply And.intro)) ?_
 rintro i ⟨hi,hr⟩
 have XH:i<56→(8+(8-8+(i:Int)) % 56).toNat=8+i:=λh=>by omega
 refine⟨λw1=>⟨⟨?_,?_⟩,⟨?_,?_⟩,⟨?_,?_⟩,⟨?_,?_⟩,⟨?_,?_⟩,aa,λw2=>⟨⟨tv3,?_⟩,λx3 w4=>⟨λw5=>?_,λw6=>⟨⟨?_,?_⟩,?_⟩⟩⟩,λw7=>⟨⟨?_,?_⟩,?_⟩⟩,λw8=>?_⟩
 all_goals first|refine aw ?_|refine ax ?_|exact a8|(dsimp only [oY,sd,PY,zt];omega)|exact a7|exact ZA7 _|skip
 ·have bU:i<56:=by have:=aJ w1;omega
  have h2:=aJ w2
  rw [XH bU] at h2
  refine⟨[],[],_,_,_,ζ,az,(),aa,?_,?_,ζ⟩
  ·show AV.int (8+(8-8+(i:Int)) % 56)=AV.int (oe dA)
   rw [←hr,show 56-i=(55-i)+1 by omega,findF,decide_eq_true h2]
   show AV.int _=AV.int ((8+i:Nat):Int)
   rw [show 8+(8-8+(i:Int)) % 56=((8+i:Nat):Int) by omega]
  ·rfl
 ·exact absurd (show true=false from w6) (by decide)
 ·have bU:i<56:=by have:=aJ w1;omega
  have h2:=aA w7
  rw [XH bU] at h2
  refine⟨(i+1),[],?_,?_,?_⟩
  rotate_right
  ·repeat' (first|exact trivial|rfl|exact rfl|exact fP ZA0.symm|exact oP|apply And.intro)
  ·refine⟨bU,?_⟩
   rw [←hr,show 56-i=(56-(i+1))+1 by omega,findF,decide_eq_false h2]
   rfl
  ·show 56-(i+1)<56-i
   omega
 ·have FL:i=56:=by have:¬((i:Int)<56):=aA w8;omega
  subst FL
  refine⟨[],[],_,_,_,ζ,az,(),aa,?_,?_,ζ⟩
  ·show AV.int (-1)=AV.int (oe dA)
   rw [←hr];rfl
  ·rfl
def vr (s:ay) (text:ByteArray) (i:Nat):Bool:=decide (nth ab s.rows i=text)&&(decide (nth ag s.last i<s.cg)&&decide (nth ag s.refs i<s.cg))
def sx:Nat→Nat→ay→ByteArray→Int
 |0,_,_,_=> -1
 |f+1,i,s,text=>bif vr s text i then (i:Int) else sx f (i+1) s text
def re (s:ay) (text:ByteArray):Int:=sx 56 8 s text
theorem SY:∀(f i:Nat) (s:ay) (text:ByteArray),sx f i s text= -1∨((i:Int)≤sx f i s text∧sx f i s text<i+f)
 |0,_,_,_=>.inl rfl
 |f+1,i,s,text=>by
  unfold sx
  cases vr s text i with
  |true=>right;simp only [cond_true];omega
  |false=>
   simp only [cond_false]
   rcases SY f (i+1) s text with h |h
   ·exact .inl h
   ·right;omega
theorem SX (s:ay) (text:ByteArray):re s text= -1∨(8≤re s text∧re s text<64):=SY 56 8 s text
def ye (S:ay) (text:ByteArray):Prop:=S.n64
def VB (S:ay) (text:ByteArray):AV:=.int (re S text)
def aa9 (S:ay) (text:ByteArray):List AV:=[]
def JY:cn where
 A:=[.a xv,.s .str]
 B:=[]
 pre:=λx b=>ye (x.1) (x.2)
 r:=λx b _=>VB (x.1) (x.2)
 o:=λx b _=>aa9 (x.1) (x.2)
theorem adT:Has Tryz.prog 141 JY:=by
 refine Has.fm zT zF zF (l:=[]) trivial Tryz.func141 ?_
 rintro⟨⟨(aj:List ByteArray),(ak:List Int),(an:List Int),(ao:Int),(ah:List Pt),(aq:Int),(ai:List Pt),(ar:Bool)⟩,(text:ByteArray)⟩ _ (hp:ye (aj,ak,an,ao,ah,aq,ai,ar) text)
 show vc _ _ _ _ (entry [.a [.vz ab aj,.vz ag ak,.vz ag an,.int ao,.vz ae ah,.int aq,.vz ae ai,.q ar],.str text] []) _
 let g':=(aj,ak,an,ao,ah,aq,ai,ar)
 obtain⟨l1,l2,l3⟩:=hp
 dsimp only [ay.rows,ay.refs,ay.last] at l1 l2 l3
 refine cN (l:=[]) (ex:=zT) (wr:=zF) (pt:=zF) trivial [.s 1,.s 2,.b 1002] (λi:Nat=>[(.s 5,.int ((8+i:Nat):Int))]) (λi=>i≤56∧sx (56-i) (8+i) g' text=re g' text) (λi=>56-i) 0 [] ⟨ZA7 _,rfl⟩ (by repeat' (first|exact trivial|rfl|exact rfl|exact fP (ZA6 _)|apply And.intro)) ?_
 rintro i ⟨hi,hr⟩
 have XH:(((8+i:Nat):Int)).toNat=8+i:=rfl
 have aea:(((8+i:Nat):Int)<64)↔i<56:=by omega
 have cO:i<56→sx (56-i) (8+i) g' text=bif vr g' text (8+i) then ((8+i:Nat):Int) else sx (55-i) (8+i+1) g' text:=λh=>by
  rw [show 56-i=(55-i)+1 by omega,sx]
 refine⟨λw1=>⟨Sq2,Sq10,ζ,[.s 10,.b 1002],Sq11,ζ,Sq5,Sq12,ζ,[.s 11,.s 12],Sq13,ζ,⟨?_,?_⟩,Sq13,Sq14,ζ,Sq1,Sq15,ζ,[.s 14,.s 15],Sq16,ζ,Sq16,Sq17,ζ,aa,λw2=>⟨[.s 17,.s 2],Sq18,ζ,[.s 17,.s 18],Sq19,ζ,[.s 17,.s 19,.b 1002],Sq20,ζ,[.s 17,.s 5],Sq21,ζ,[.s 17,.s 20,.s 21],Sq22,ζ,⟨?_,?_⟩,[.s 17,.s 22],Sq23,ζ,[.s 17,.s 2],Sq24,ζ,[.s 17,.s 24,.b 1002],Sq25,ζ,[.s 17,.s 23,.s 25],Sq26,ζ,[.s 17,.s 26],Sq27,ζ,Sq27,Sq28,ζ,aa,λw3=>⟨[.s 28,.s 2],Sq29,ζ,[.s 28,.s 29],Sq30,ζ,[.s 28,.s 30,.b 1002],Sq31,ζ,[.s 28,.s 5],Sq32,ζ,[.s 28,.s 31,.s 32],Sq33,ζ,⟨?_,?_⟩,[.s 28,.s 33],Sq34,ζ,[.s 28,.s 2],Sq35,ζ,[.s 28,.s 35,.b 1002],Sq36,ζ,[.s 28,.s 34,.s 36],Sq37,ζ,[.s 28,.s 37],Sq38,ζ,λw4=>?_,λw5=>⟨⟨?_,?_⟩,?_⟩⟩,λw6=>⟨Sq28,Sq29,ζ,Sq28,Sq30,ζ,Sq28,Sq31,ζ,Sq28,Sq32,ζ,Sq28,Sq33,ζ,Sq28,Sq34,ζ,Sq28,Sq35,ζ,Sq28,Sq36,ζ,Sq28,Sq37,ζ,[.s 28,.s 37],Sq38,ζ,⟨?_,?_⟩,?_⟩⟩,λw7=>⟨Sq17,Sq18,ζ,Sq17,Sq19,ζ,Sq17,Sq20,ζ,Sq17,Sq21,ζ,Sq17,Sq22,ζ,Sq17,Sq23,ζ,Sq17,Sq24,ζ,Sq17,Sq25,ζ,Sq17,Sq26,ζ,[.s 17,.s 26],Sq27,ζ,Sq27,Sq28,ζ,Sq28,Sq29,ζ,Sq28,Sq30,ζ,Sq28,Sq31,ζ,Sq28,Sq32,ζ,Sq28,Sq33,ζ,Sq28,Sq34,ζ,Sq28,Sq35,ζ,Sq28,Sq36,ζ,Sq28,Sq37,ζ,[.s 28,.s 37],Sq38,ζ,⟨?_,?_⟩,?_⟩⟩,λw8=>?_⟩
 all_goals first|refine aw ?_|refine ax ?_|exact a8|exact a7|skip
 ·have bU:i<56:=aea.1 (aJ w1)
  rw [XH] at w2 w3 w4
  refine⟨[],[],_,_,_,ζ,az,(),aa,?_,?_,ζ⟩
  ·show AV.int ((8+i:Nat):Int)=AV.int (re g' text)
   have e:vr g' text (8+i)=true:=by show (decide _&&(decide _&&decide _))=true;rw [w2,w3,w4];rfl
   rw [←hr,cO bU,e]
   rfl
  ·rfl
 ·have bU:i<56:=aea.1 (aJ w1)
  rw [XH] at w2 w3 w5
  have e:vr g' text (8+i)=false:=by show (decide _&&(decide _&&decide _))=false;rw [w2,w3,w5];rfl
  refine⟨(i+1),[],?_,?_,?_⟩
  rotate_right
  ·repeat' (first|exact trivial|rfl|exact rfl|exact fP ZA0.symm|exact oP|apply And.intro)
  ·refine⟨bU,?_⟩
   rw [←hr,cO bU,e,show 56-(i+1)=55-i by omega]
   rfl
  ·show 56-(i+1)<56-i
   omega
 ·have bU:i<56:=aea.1 (aJ w1)
  rw [XH] at w2 w6
  have e:vr g' text (8+i)=false:=by show (decide _&&(decide _&&decide _))=false;rw [w2,w6];rfl
  refine⟨(i+1),[],?_,?_,?_⟩
  rotate_right
  ·repeat' (first|exact trivial|rfl|exact rfl|exact fP ZA0.symm|exact oP|apply And.intro)
  ·refine⟨bU,?_⟩
   rw [←hr,cO bU,e,show 56-(i+1)=55-i by omega]
   rfl
  ·show 56-(i+1)<56-i
   omega
 ·have bU:i<56:=aea.1 (aJ w1)
  rw [XH] at w7
  have e:vr g' text (8+i)=false:=by show (decide _&&(decide _&&decide _))=false;rw [w7];rfl
  refine⟨(i+1),[],?_,?_,?_⟩
  rotate_right
  ·repeat' (first|exact trivial|rfl|exact rfl|exact fP ZA0.symm|exact oP|apply And.intro)
  ·refine⟨bU,?_⟩
   rw [←hr,cO bU,e,show 56-(i+1)=55-i by omega]
   rfl
  ·show 56-(i+1)<56-i
   omega
 ·have FL:i=56:=by
   have h3:¬(i<56):=λh=>aA w8 (aea.2 h)
   omega
  subst FL
  refine⟨[],[],_,_,_,ζ,az,(),aa,?_,?_,ζ⟩
  ·show AV.int (-1)=AV.int (re g' text)
   rw [←hr];rfl
  ·rfl
theorem KA {b:Bool}(h:(!b)=true):b=false:=by cases b with |true=>cases h |false=>rfl
theorem oH {b:Bool}(h:(!b)=false):b=true:=by cases b with |true=>rfl |false=>cases h
def bF (s:ay) (p:Pt):ByteArray×Bool:=
 bif au p then (⟨#[]⟩,true) else bif iX p (nth ab s.rows p.1.toNat) then (nth ab s.rows p.1.toNat,true) else (⟨#[]⟩,false)
theorem fT {s:ay}{p:Pt}(h:au p=true):bF s p=(⟨#[]⟩,true):=by unfold bF;rw [h];rfl
theorem yc {s:ay}{p:Pt}(h:au p=false) (h2:iX p (nth ab s.rows p.1.toNat)=true):bF s p=(nth ab s.rows p.1.toNat,true):=by unfold bF;rw [h,h2];rfl
theorem LP {s:ay}{p:Pt}(h:au p=false) (h2:iX p (nth ab s.rows p.1.toNat)=false):bF s p=(⟨#[]⟩,false):=by unfold bF;rw [h,h2];rfl
def ay.szs (s:ay):Prop:=∀x∈s.rows,x.size≤1000000
def fV (S:ay) (p:Pt):Prop:=S.szs∧0≤p.1∧p.1<S.rows.length
def VA (S:ay) (p:Pt):AV:=.t [.s (.str (bF S p).1),.s (.q (bF S p).2)]
def aa8 (S:ay) (p:Pt):List AV:=[]
def eA:cn where
 A:=[.a xv,.a [.int,.int,.int,.int,.int]]
 B:=[]
 pre:=λx b=>fV (x.1) (x.2)
 r:=λx b _=>VA (x.1) (x.2)
 o:=λx b _=>aa8 (x.1) (x.2)
theorem lZ:Has Tryz.prog 71 eA:=by
 refine Has.fm zT zF zF (l:=[(81,cx),(108,sN)]) ⟨cz,MJ,aa⟩ Tryz.func71 ?_
 rintro⟨⟨(aj:List ByteArray),(ak:List Int),(an:List Int),(ao:Int),(ah:List Pt),(aq:Int),(ai:List Pt),(ar:Bool)⟩,⟨(p1:Int),(p2:Int),(p3:Int),(p4:Int),(p5:Int)⟩⟩ _ (hp:fV (aj,ak,an,ao,ah,aq,ai,ar) (p1,p2,p3,p4,p5))
 show vc _ _ _ _ (entry [.a [.vz ab aj,.vz ag ak,.vz ag an,.int ao,.vz ae ah,.int aq,.vz ae ai,.q ar],.a [.int p1,.int p2,.int p3,.int p4,.int p5]] []) _
 let g':=(aj,ak,an,ao,ah,aq,ai,ar)
 let A':=(p1,p2,p3,p4,p5)
 obtain⟨h1,(h2:0≤p1),(h3:p1<aj.length)⟩:=hp
 have dj:(nth ab aj p1.toNat).size≤1000000:=h1 _ (bR (ek:=ab) (show p1.toNat<aj.length by omega))
 refine⟨⟨⟨tv6,aa⟩,aa⟩,λx1 w2=>⟨λw3=>?_,λw4=>⟨[.s 3,.b 1003],Sq8,ζ,Sq2,Sq9,ζ,[.s 9,.b 1002],Sq10,ζ,Sq3,Sq11,ζ,[.s 11,.b 1003],Sq12,ζ,[.s 10,.s 12],Sq13,ζ,⟨?_,?_⟩,Sq13,Sq14,ζ,[.s 8,.s 14],Sq15,ζ,⟨⟨tv6,tv2⟩,?_⟩,?_,λx5 w6=>⟨Sq15,Sq16,ζ,λw7=>?_,λw8=>⟨⟨?_,?_⟩,?_⟩⟩⟩⟩⟩
 all_goals first|refine aw ?_|refine ax ?_|exact a8|(dsimp only [sN,nP];omega)|exact a7|(show ((nth ab aj p1.toNat).size:Int)≤1000000000000;omega)|skip
 ·refine⟨[],[],_,_,_,ζ,az,(),aa,?_,?_,ζ⟩
  ·show AV.t [.s (.str ⟨#[]⟩),.s (.q true)]=AV.t [.s (.str (bF g' A').1),.s (.q (bF g' A').2)]
   rw [fT w3]
  ·rfl
 ·refine⟨[],[],_,_,_,ζ,az,(),aa,?_,?_,ζ⟩
  ·show AV.t [.s (.str ⟨#[]⟩),.s (.q false)]=AV.t [.s (.str (bF g' A').1),.s (.q (bF g' A').2)]
   rw [LP w4 (KA w7)]
  ·rfl
 ·refine⟨[],[],_,_,_,ζ,az,(),aa,?_,?_,ζ⟩
  ·show AV.t [.s (.str (nth ab aj p1.toNat)),.s (.q true)]=AV.t [.s (.str (bF g' A').1),.s (.q (bF g' A').2)]
   rw [yc w4 (oH w8)]
  ·rfl
end GL
namespace GL
def A1 (s:ay) (text:ByteArray) (level:Int):Int:=bif s.same&&decide (level=0) then re s text else -1
def da (s:ay) (text:ByteArray) (level:Int):Int:=bif decide (A1 s text level<0) then oe s.refs else A1 s text level
def uO (s:ay) (text:ByteArray) (k:Nat):ay:=
 (s.rows.set k text,s.refs.set k (xu (nth ag s.refs k+1)),s.last.set k s.cg,s.cg,s.gone,s.bZ,s.dead,s.same)
def bd (s:ay) (text:ByteArray) (level:Int):ay×Pt×Bool:=
 bif decide (da s text level<0) then (s,bM,false)
 else bif (gv (da s text level) s.cg level text).2 then (uO s text (da s text level).toNat,(gv (da s text level) s.cg level text).1,true)
 else (s,bM,false)
theorem wo {s:ay}{text:ByteArray}{level:Int}(h1:s.same=true) (h2:decide (level=0)=true) (h3:decide (re s text<0)=true):da s text level=oe s.refs:=by
 unfold da A1;rw [h1,h2,show (true&&true)=true from rfl,cond_true,h3];rfl
theorem AZ {s:ay}{text:ByteArray}{level:Int}(h1:s.same=true) (h2:decide (level=0)=true) (h3:decide (re s text<0)=false):da s text level=re s text:=by
 unfold da A1;rw [h1,h2,show (true&&true)=true from rfl,cond_true,h3];rfl
theorem wm {s:ay}{text:ByteArray}{level:Int}(h2:decide (level=0)=false):da s text level=oe s.refs:=by
 unfold da A1;rw [h2,ZD7];rfl
theorem wk {s:ay}{text:ByteArray}{level:Int}(h1:s.same=false):da s text level=oe s.refs:=by
 unfold da A1;rw [h1,Bool.false_and];rfl
theorem nA {s:ay}{text:ByteArray}{level a:Int}(e:da s text level=a) (h:decide (a<0)=true):bd s text level=(s,bM,false):=by
 unfold bd;rw [e,h];rfl
theorem mz {s:ay}{text:ByteArray}{level a:Int}(e:da s text level=a) (h:decide (a<0)=false) (h2:(!(gv a s.cg level text).2)=true):bd s text level=(s,bM,false):=by
 unfold bd;rw [e,h,KA h2];rfl
theorem o8 {s:ay}{text:ByteArray}{level a:Int}(e:da s text level=a) (h:decide (a<0)=false) (h2:(!(gv a s.cg level text).2)=false):bd s text level=(uO s text a.toNat,(gv a s.cg level text).1,true):=by
 unfold bd;rw [e,h,oH h2];rfl
def nM (S:ay) (text:ByteArray) (level:Int):Prop:=S.n64∧(text.size:Int)≤1000000000000
def QZ (S:ay) (text:ByteArray) (level:Int):AV:=.t [.a (kW 0 1 2 3 4 (bd S text level).1),ptA (bd S text level).2.1,.s (.q (bd S text level).2.2)]
def V0 (S:ay) (text:ByteArray) (level:Int):List AV:=GF (bd S text level).1
def nb:cn where
 A:=[.a (stB 0 1 2 3 4),.s .str,.s .int]
 B:=[.r ab,.r ag,.r ag,.r ae,.r ae]
 pre:=λx b=>stW x.1 b∧nM (gP x.1 b) (x.2.1) (x.2.2)
 r:=λx b _=>QZ (gP x.1 b) (x.2.1) (x.2.2)
 o:=λx b _=>V0 (gP x.1 b) (x.2.1) (x.2.2)
theorem CQ:Has Tryz.prog 93 nb:=by
 refine Has.fm zT (λd=>Nat.beq d 59) zF (l:=[(141,JY),(142,J0),(98,o0)]) ⟨adT,adX,FJ,aa⟩ Tryz.func93 ?_
 rintro⟨⟨(AU:Nat),(AT:Nat),(AS:Nat),(ao:Int),(AR:Nat),(aq:Int),(AQ:Nat),(ar:Bool)⟩,(text:ByteArray),(level:Int)⟩ ⟨(aj:List ByteArray),(ak:List Int),(an:List Int),(ah:List Pt),(ai:List Pt)⟩ ⟨⟨(gC:AU=List.length aj),(gB:AT=List.length ak),(gA:AS=List.length an),(gz:AR=List.length ah),(gy:AQ=List.length ai)⟩,(hp:nM (aj,ak,an,ao,ah,aq,ai,ar) text level)⟩
 subst gC gB gA gz gy
 show vc _ _ _ _ (entry [.a [.xs 0 1 0 aj.length,.xs 1 1 0 ak.length,.xs 2 1 0 an.length,.int ao,.xs 3 5 0 ah.length,.int aq,.xs 4 5 0 ai.length,.q ar],.str text,.int level] [.rs ab aj,.rs ag ak,.rs ag an,.rs ae ah,.rs ae ai]) _
 obtain⟨⟨l1,l2,l3⟩,hs⟩:=hp
 dsimp only [ay.rows,ay.refs,ay.last] at l1 l2 l3
 have hL:=SX (aj,ak,an,ao,ah,aq,ai,ar) text
 have hF:=T1 ak
 refine⟨aa,λw1=>⟨λw2=>⟨⟨⟨⟨⟨?_,?_⟩,⟨?_,?_⟩,⟨?_,?_⟩,aa,⟨?_,?_⟩,aa,⟨?_,?_⟩,tv2⟩,tv2⟩,?_,?_,?_⟩,λx3 w4=>⟨λw5=>⟨aa,⟨⟨⟨⟨?_,?_⟩,⟨?_,?_⟩,aa⟩,aa,⟨?_,?_⟩,aa⟩,?_,?_,?_⟩,λx6 w7=>⟨λw8=>?_,λw9=>⟨⟨tv5,?_⟩,λx10 kA=>⟨λdJ=>?_,λiU=>⟨⟨?_,?_⟩,?_,Sq3,Sq49,ζ,Sq49,Sq50,ζ,[.s 50,.b 1003],Sq51,ζ,Sq9,Sq52,ζ,Sq3,Sq53,ζ,Sq53,Sq54,ζ,[.s 54,.b 1003],Sq55,ζ,Sq9,Sq56,ζ,[.s 55,.s 56],Sq57,ζ,⟨?_,?_⟩,[.s 57,.b 1],Sq58,ζ,?_,Sq58,Sq59,ζ,[.s 51,.s 52],Sq60,ζ,⟨?_,?_⟩,[.s 60,.s 59,.b 1],[.b 1],ζ,?_,⟨?_,?_⟩,?_,[.s 3,.b 1003],Sq68,ζ,[.s 10,.b 1010],Sq69,ζ,[.s 6,.s 68,.b 1006],[.b 1006],ζ,[.s 7,.s 69,.b 1007],[.b 1007],ζ,[],Sq8,ζ,?_⟩⟩⟩⟩⟩,λgO=>⟨λqK=>?_,λkg=>⟨⟨tv5,?_⟩,λx17 rS=>⟨λoL=>?_,λuI=>⟨⟨?_,?_⟩,?_,Sq3,Sq49,ζ,Sq49,Sq50,ζ,[.s 50,.b 1003],Sq51,ζ,Sq9,Sq52,ζ,Sq3,Sq53,ζ,Sq53,Sq54,ζ,[.s 54,.b 1003],Sq55,ζ,Sq9,Sq56,ζ,[.s 55,.s 56],Sq57,ζ,⟨?_,?_⟩,[.s 57,.b 1],Sq58,ζ,?_,Sq58,Sq59,ζ,[.s 51,.s 52],Sq60,ζ,⟨?_,?_⟩,[.s 60,.s 59,.b 1],[.b 1],ζ,?_,⟨?_,?_⟩,?_,[.s 3,.b 1003],Sq68,ζ,[.s 10,.b 1010],Sq69,ζ,[.s 6,.s 68,.b 1006],[.b 1006],ζ,[.s 7,.s 69,.b 1007],[.b 1007],ζ,[],Sq8,ζ,?_⟩⟩⟩⟩⟩⟩,λA4=>⟨λA3=>⟨aa,⟨⟨⟨⟨?_,?_⟩,⟨?_,?_⟩,aa⟩,aa,⟨?_,?_⟩,aa⟩,?_,?_,?_⟩,λx23 rR=>⟨λw25=>?_,λw26=>⟨⟨tv5,?_⟩,λx27 w28=>⟨λw29=>?_,λw30=>⟨⟨?_,?_⟩,?_,Sq3,Sq49,ζ,Sq49,Sq50,ζ,[.s 50,.b 1003],Sq51,ζ,Sq9,Sq52,ζ,Sq3,Sq53,ζ,Sq53,Sq54,ζ,[.s 54,.b 1003],Sq55,ζ,Sq9,Sq56,ζ,[.s 55,.s 56],Sq57,ζ,⟨?_,?_⟩,[.s 57,.b 1],Sq58,ζ,?_,Sq58,Sq59,ζ,[.s 51,.s 52],Sq60,ζ,⟨?_,?_⟩,[.s 60,.s 59,.b 1],[.b 1],ζ,?_,⟨?_,?_⟩,?_,[.s 3,.b 1003],Sq68,ζ,[.s 10,.b 1010],Sq69,ζ,[.s 6,.s 68,.b 1006],[.b 1006],ζ,[.s 7,.s 69,.b 1007],[.b 1007],ζ,[],Sq8,ζ,?_⟩⟩⟩⟩⟩,λw31=>⟨λw32=>?_,λw33=>⟨⟨tv5,?_⟩,λx34 w35=>⟨λw36=>?_,λw37=>⟨⟨?_,?_⟩,?_,Sq3,Sq49,ζ,Sq49,Sq50,ζ,[.s 50,.b 1003],Sq51,ζ,Sq9,Sq52,ζ,Sq3,Sq53,ζ,Sq53,Sq54,ζ,[.s 54,.b 1003],Sq55,ζ,Sq9,Sq56,ζ,[.s 55,.s 56],Sq57,ζ,⟨?_,?_⟩,[.s 57,.b 1],Sq58,ζ,?_,Sq58,Sq59,ζ,[.s 51,.s 52],Sq60,ζ,⟨?_,?_⟩,[.s 60,.s 59,.b 1],[.b 1],ζ,?_,⟨?_,?_⟩,?_,[.s 3,.b 1003],Sq68,ζ,[.s 10,.b 1010],Sq69,ζ,[.s 6,.s 68,.b 1006],[.b 1006],ζ,[.s 7,.s 69,.b 1007],[.b 1007],ζ,[],Sq8,ζ,?_⟩⟩⟩⟩⟩⟩,λw38=>⟨λw39=>⟨aa,⟨⟨⟨⟨?_,?_⟩,⟨?_,?_⟩,aa⟩,aa,⟨?_,?_⟩,aa⟩,?_,?_,?_⟩,λx40 w41=>⟨λw42=>?_,λw43=>⟨⟨tv5,?_⟩,λx44 w45=>⟨λw46=>?_,λw47=>⟨⟨?_,?_⟩,?_,Sq3,Sq49,ζ,Sq49,Sq50,ζ,[.s 50,.b 1003],Sq51,ζ,Sq9,Sq52,ζ,Sq3,Sq53,ζ,Sq53,Sq54,ζ,[.s 54,.b 1003],Sq55,ζ,Sq9,Sq56,ζ,[.s 55,.s 56],Sq57,ζ,⟨?_,?_⟩,[.s 57,.b 1],Sq58,ζ,?_,Sq58,Sq59,ζ,[.s 51,.s 52],Sq60,ζ,⟨?_,?_⟩,[.s 60,.s 59,.b 1],[.b 1],ζ,?_,⟨?_,?_⟩,?_,[.s 3,.b 1003],Sq68,ζ,[.s 10,.b 1010],Sq69,ζ,[.s 6,.s 68,.b 1006],[.b 1006],ζ,[.s 7,.s 69,.b 1007],[.b 1007],ζ,[],Sq8,ζ,?_⟩⟩⟩⟩⟩,λw48=>⟨λw49=>?_,λw50=>⟨⟨tv5,?_⟩,λx51 w52=>⟨λw53=>?_,λw54=>⟨⟨?_,?_⟩,?_,Sq3,Sq49,ζ,Sq49,Sq50,ζ,[.s 50,.b 1003],Sq51,ζ,Sq9,Sq52,ζ,Sq3,Sq53,ζ,Sq53,Sq54,ζ,[.s 54,.b 1003],Sq55,ζ,Sq9,Sq56,ζ,[.s 55,.s 56],Sq57,ζ,⟨?_,?_⟩,[.s 57,.b 1],Sq58,ζ,?_,Sq58,Sq59,ζ,[.s 51,.s 52],Sq60,ζ,⟨?_,?_⟩,[.s 60,.s 59,.b 1],[.b 1],ζ,?_,⟨?_,?_⟩,?_,[.s 3,.b 1003],Sq68,ζ,[.s 10,.b 1010],Sq69,ζ,[.s 6,.s 68,.b 1006],[.b 1006],ζ,[.s 7,.s 69,.b 1007],[.b 1007],ζ,[],Sq8,ζ,?_⟩⟩⟩⟩⟩⟩
 all_goals first|(exfalso;simp only [decide_eq_true_eq,decide_eq_false_iff_not] at *;omega)|refine aw ?_|refine ax ?_|exact a8|(dsimp only [JY,ye,J0,yh,o0,mM];omega)|exact a7|exact ZH1.1 (aA (by assumption))|(show (text.size:Int)≤1000000000000;omega)|(simp only [dC,lx,decide_eq_true_eq,decide_eq_false_iff_not,ZC3] at *;omega)|skip
 ·have e:=nA (wo (s:=(aj,ak,an,ao,ah,aq,ai,ar)) (text:=text) w1 w2 w5) w8
  refine⟨[],[],_,_,_,ζ,az,(),aa,?_,?_,ζ⟩
  ·show _=AV.t [.a (kW 0 1 2 3 4 (bd (aj,ak,an,ao,ah,aq,ai,ar) text level).1),ptA (bd (aj,ak,an,ao,ah,aq,ai,ar) text level).2.1,.s (.q (bd (aj,ak,an,ao,ah,aq,ai,ar) text level).2.2)]
   rw [e];rfl
  ·show _=GF (bd (aj,ak,an,ao,ah,aq,ai,ar) text level).1
   rw [e];rfl
 ·have e:=mz (wo (s:=(aj,ak,an,ao,ah,aq,ai,ar)) (text:=text) w1 w2 w5) w9 dJ
  refine⟨[],[],_,_,_,ζ,az,(),aa,?_,?_,ζ⟩
  ·show _=AV.t [.a (kW 0 1 2 3 4 (bd (aj,ak,an,ao,ah,aq,ai,ar) text level).1),ptA (bd (aj,ak,an,ao,ah,aq,ai,ar) text level).2.1,.s (.q (bd (aj,ak,an,ao,ah,aq,ai,ar) text level).2.2)]
   rw [e];rfl
  ·show _=GF (bd (aj,ak,an,ao,ah,aq,ai,ar) text level).1
   rw [e];rfl
 ·have e:=o8 (wo (s:=(aj,ak,an,ao,ah,aq,ai,ar)) (text:=text) w1 w2 w5) w9 iU
  refine⟨[],[],_,_,_,ζ,az,(),aa,?_,?_,ζ⟩
  ·show _=AV.t [.a (kW 0 1 2 3 4 (bd (aj,ak,an,ao,ah,aq,ai,ar) text level).1),ptA (bd (aj,ak,an,ao,ah,aq,ai,ar) text level).2.1,.s (.q (bd (aj,ak,an,ao,ah,aq,ai,ar) text level).2.2)]
   rw [e]
   exact congrArg (λl=>AV.t [A0.a l,_,_]) (uU (s:=uO (aj,ak,an,ao,ah,aq,ai,ar) text _) ZC3.symm ZC3.symm ZC3.symm rfl rfl rfl rfl rfl)
  ·show _=GF (bd (aj,ak,an,ao,ah,aq,ai,ar) text level).1
   rw [e];rfl
 ·have e:=mz (AZ (s:=(aj,ak,an,ao,ah,aq,ai,ar)) (text:=text) w1 w2 gO) kg oL
  refine⟨[],[],_,_,_,ζ,az,(),aa,?_,?_,ζ⟩
  ·show _=AV.t [.a (kW 0 1 2 3 4 (bd (aj,ak,an,ao,ah,aq,ai,ar) text level).1),ptA (bd (aj,ak,an,ao,ah,aq,ai,ar) text level).2.1,.s (.q (bd (aj,ak,an,ao,ah,aq,ai,ar) text level).2.2)]
   rw [e];rfl
  ·show _=GF (bd (aj,ak,an,ao,ah,aq,ai,ar) text level).1
   rw [e];rfl
 ·have e:=o8 (AZ (s:=(aj,ak,an,ao,ah,aq,ai,ar)) (text:=text) w1 w2 gO) kg uI
  refine⟨[],[],_,_,_,ζ,az,(),aa,?_,?_,ζ⟩
  ·show _=AV.t [.a (kW 0 1 2 3 4 (bd (aj,ak,an,ao,ah,aq,ai,ar) text level).1),ptA (bd (aj,ak,an,ao,ah,aq,ai,ar) text level).2.1,.s (.q (bd (aj,ak,an,ao,ah,aq,ai,ar) text level).2.2)]
   rw [e]
   exact congrArg (λl=>AV.t [A0.a l,_,_]) (uU (s:=uO (aj,ak,an,ao,ah,aq,ai,ar) text _) ZC3.symm ZC3.symm ZC3.symm rfl rfl rfl rfl rfl)
  ·show _=GF (bd (aj,ak,an,ao,ah,aq,ai,ar) text level).1
   rw [e];rfl
 ·have e:=nA (wm (s:=(aj,ak,an,ao,ah,aq,ai,ar)) (text:=text) A4) w25
  refine⟨[],[],_,_,_,ζ,az,(),aa,?_,?_,ζ⟩
  ·show _=AV.t [.a (kW 0 1 2 3 4 (bd (aj,ak,an,ao,ah,aq,ai,ar) text level).1),ptA (bd (aj,ak,an,ao,ah,aq,ai,ar) text level).2.1,.s (.q (bd (aj,ak,an,ao,ah,aq,ai,ar) text level).2.2)]
   rw [e];rfl
  ·show _=GF (bd (aj,ak,an,ao,ah,aq,ai,ar) text level).1
   rw [e];rfl
 ·have e:=mz (wm (s:=(aj,ak,an,ao,ah,aq,ai,ar)) (text:=text) A4) w26 w29
  refine⟨[],[],_,_,_,ζ,az,(),aa,?_,?_,ζ⟩
  ·show _=AV.t [.a (kW 0 1 2 3 4 (bd (aj,ak,an,ao,ah,aq,ai,ar) text level).1),ptA (bd (aj,ak,an,ao,ah,aq,ai,ar) text level).2.1,.s (.q (bd (aj,ak,an,ao,ah,aq,ai,ar) text level).2.2)]
   rw [e];rfl
  ·show _=GF (bd (aj,ak,an,ao,ah,aq,ai,ar) text level).1
   rw [e];rfl
 ·have e:=o8 (wm (s:=(aj,ak,an,ao,ah,aq,ai,ar)) (text:=text) A4) w26 w30
  refine⟨[],[],_,_,_,ζ,az,(),aa,?_,?_,ζ⟩
  ·show _=AV.t [.a (kW 0 1 2 3 4 (bd (aj,ak,an,ao,ah,aq,ai,ar) text level).1),ptA (bd (aj,ak,an,ao,ah,aq,ai,ar) text level).2.1,.s (.q (bd (aj,ak,an,ao,ah,aq,ai,ar) text level).2.2)]
   rw [e]
   exact congrArg (λl=>AV.t [A0.a l,_,_]) (uU (s:=uO (aj,ak,an,ao,ah,aq,ai,ar) text _) ZC3.symm ZC3.symm ZC3.symm rfl rfl rfl rfl rfl)
  ·show _=GF (bd (aj,ak,an,ao,ah,aq,ai,ar) text level).1
   rw [e];rfl
 ·have e:=nA (wk (s:=(aj,ak,an,ao,ah,aq,ai,ar)) (text:=text) (level:=level) w38) w42
  refine⟨[],[],_,_,_,ζ,az,(),aa,?_,?_,ζ⟩
  ·show _=AV.t [.a (kW 0 1 2 3 4 (bd (aj,ak,an,ao,ah,aq,ai,ar) text level).1),ptA (bd (aj,ak,an,ao,ah,aq,ai,ar) text level).2.1,.s (.q (bd (aj,ak,an,ao,ah,aq,ai,ar) text level).2.2)]
   rw [e];rfl
  ·show _=GF (bd (aj,ak,an,ao,ah,aq,ai,ar) text level).1
   rw [e];rfl
 ·have e:=mz (wk (s:=(aj,ak,an,ao,ah,aq,ai,ar)) (text:=text) (level:=level) w38) w43 w46
  refine⟨[],[],_,_,_,ζ,az,(),aa,?_,?_,ζ⟩
  ·show _=AV.t [.a (kW 0 1 2 3 4 (bd (aj,ak,an,ao,ah,aq,ai,ar) text level).1),ptA (bd (aj,ak,an,ao,ah,aq,ai,ar) text level).2.1,.s (.q (bd (aj,ak,an,ao,ah,aq,ai,ar) text level).2.2)]
   rw [e];rfl
  ·show _=GF (bd (aj,ak,an,ao,ah,aq,ai,ar) text level).1
   rw [e];rfl
 ·have e:=o8 (wk (s:=(aj,ak,an,ao,ah,aq,ai,ar)) (text:=text) (level:=level) w38) w43 w47
  refine⟨[],[],_,_,_,ζ,az,(),aa,?_,?_,ζ⟩
  ·show _=AV.t [.a (kW 0 1 2 3 4 (bd (aj,ak,an,ao,ah,aq,ai,ar) text level).1),ptA (bd (aj,ak,an,ao,ah,aq,ai,ar) text level).2.1,.s (.q (bd (aj,ak,an,ao,ah,aq,ai,ar) text level).2.2)]
   rw [e]
   exact congrArg (λl=>AV.t [A0.a l,_,_]) (uU (s:=uO (aj,ak,an,ao,ah,aq,ai,ar) text _) ZC3.symm ZC3.symm ZC3.symm rfl rfl rfl rfl rfl)
  ·show _=GF (bd (aj,ak,an,ao,ah,aq,ai,ar) text level).1
   rw [e];rfl
