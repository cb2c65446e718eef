/- FnTreeOk returns true for every code (its row lists package variables, tied by the card): part 13. -/
import Derived.Test.YtbfgjadbfjkcdaaGreatDoorPal
set_option maxHeartbeats 20000000
set_option linter.all false
namespace Go.Proofs.YtbfgjadbfjkcdaaGreatDoor
namespace GL
def yr (sp:List Int×List Int):Prop:=sp.1.length≤1000000∧sp.2.length≤1000000
def V0 (sp:List Int×List Int):AV:=.a [.xs 0 1 0 sp.1.length,.xs 1 1 0 sp.2.length]
def aby (sp:List Int×List Int):List AV:=[.rs ag sp.1,.rs ag sp.2]
def KC:Con where
 A:=[.a [.vz ag,.vz ag]]
 B:=[]
 pre:=fun x b=>yr x
 α:=fun _ _=>Unit
 φ:=fun _ _ _=>True
 r:=fun x b _=>V0 x
 o:=fun x b _=>aby x
 nf:=2
set_option maxRecDepth 100000 in
theorem aeg:Has Tryz.prog 88 KC:=by
 refine Has.ofE (fun _=>true) (fun _=>false) (fun _=>false) (l:=[]) trivial (fn:=Tryz.f88) Tryz.func88 rfl (by decide) (aZ rfl) ?_
 rintro⟨(dB:List Int),(eK:List Int)⟩ _ (hp:yr (dB,eK))
 show vc _ _ _ _ (entry [.a [.vz ag dB,.vz ag eK]] []) _
 obtain⟨(h1:dB.length≤1000000),(h2:eK.length≤1000000)⟩:=hp
 refine⟨[.b 1003],[.s 3,.b 1003],rfl,aa,[.s 1],[.s 4],rfl,[.s 4,.b 1001],[.s 5],rfl,[.s 3,.s 5,.b 1003,.b 1006],[.s 6,.b 1006,.b 1003],rfl,⟨⟨?_,?_⟩,aa⟩,[.b 1007],[.s 7,.b 1007],rfl,aa,[.s 1],[.s 8],rfl,[.s 8,.b 1001],[.s 9],rfl,[.s 7,.s 9,.b 1007,.b 1010],[.s 10,.b 1010,.b 1007],rfl,⟨⟨?_,?_⟩,aa⟩,[.s 6,.s 10],[.s 11],rfl,[.s 2,.s 11,.b 1002],[.b 1002],rfl,?_⟩
 all_goals first|refine aw ?_|refine ax ?_|exact ba|exact a8|(simp only [dj,ZA4];omega)|skip
 refine⟨[1006,1010],[],_,_,_,rfl,az,(),aa,?_,?_,rfl⟩
 ·show AV.a [.xs 0 1 0 (0+dB.length),.xs 1 1 0 (0+eK.length)]=AV.a [.xs 0 1 0 dB.length,.xs 1 1 0 eK.length]
  rw [ZA7,ZA7]
 ·rfl
def ay.small (s:ay):Prop:=s.rows.length≤1000000∧s.refs.length≤1000000∧s.last.length≤1000000∧s.gone.length≤1000000∧s.dead.length≤1000000
def p8 (S:ay):Prop:=S.small
def VV (S:ay):AV:=.a (k9 0 1 2 3 4 S)
def abt (S:ay):List AV:=GR S
def jF:Con where
 A:=[.a xE]
 B:=[]
 pre:=fun x b=>p8 x
 α:=fun _ _=>Unit
 φ:=fun _ _ _=>True
 r:=fun x b _=>VV x
 o:=fun x b _=>abt x
 nf:=5
set_option maxRecDepth 100000 in
theorem IT:Has Tryz.prog 54 jF:=by
 refine Has.ofE (fun _=>true) (fun _=>false) (fun _=>false) (l:=[(88,KC)]) ⟨aeg,trivial⟩ (fn:=Tryz.f54) Tryz.func54 rfl (by decide) (aZ rfl) ?_
 rintro⟨(aj:List ByteArray),(ak:List Int),(an:List Int),(ao:Int),(ah:List Pt),(aq:Int),(ai:List Pt),(ar:Bool)⟩ _ (hp:p8 (aj,ak,an,ao,ah,aq,ai,ar))
 show vc _ _ _ _ (entry [.a [.vz ab aj,.vz ag ak,.vz ag an,.int ao,.vz ae ah,.int aq,.vz ae ai,.q ar]] []) _
 obtain⟨h1,h2,h3,h4,h5⟩:=hp
 dsimp only [ay.rows,ay.refs,ay.last,ay.gone,ay.dead] at h1 h2 h3 h4 h5
 refine⟨aa,⟨⟨?_,?_⟩,aa⟩,⟨⟨⟨aa,aa,aa⟩,aa⟩,?_,?_⟩,fun x1 w2=>⟨aa,⟨⟨?_,?_⟩,aa⟩,aa,⟨⟨?_,?_⟩,aa⟩,?_⟩⟩
 all_goals first|refine aw ?_|refine ax ?_|exact ba|(dsimp only [KC,yr];omega)|exact a8|(simp only [dj,ZA4];omega)|skip
 refine⟨[1006,110000,110001,1015,1020],[],_,_,_,rfl,az,(),aa,?_,?_,rfl⟩
 ·exact congrArg AV.a (uZ (s:=(aj,ak,an,ao,ah,aq,ai,ar)) (ZA7 _) rfl rfl rfl (ZA7 _) rfl (ZA7 _) rfl)
 ·rfl
def inL (l:List Int) (n:Int):Bool:=decide (n∈l)
theorem bT {ek:EK}{l:List (EK.Ty ek)}{k:Nat}(h:k<l.length):nth ek l k∈l:=by
 have:=oK h
 exact ZB7 this
def zG (l:List Int) (n:Int):Prop:=l.length≤1000000
def ac0 (l:List Int) (n:Int):AV:=.q (inL l n)
def afX (l:List Int) (n:Int):List AV:=[]
def QC:Con where
 A:=[.s (.vz ag),.s .int]
 B:=[]
 pre:=fun x b=>zG (x.1) (x.2)
 α:=fun _ _=>Unit
 φ:=fun _ _ _=>True
 r:=fun x b _=>ac0 (x.1) (x.2)
 o:=fun x b _=>afX (x.1) (x.2)
 nf:=0
set_option maxRecDepth 100000 in
theorem aed:Has Tryz.prog 119 QC:=by
 refine Has.ofE (fun _=>true) (fun _=>false) (fun _=>false) (l:=[]) trivial (fn:=Tryz.f119) Tryz.func119 rfl (by decide) (aZ rfl) ?_
 rintro⟨(l:List Int),(n:Int)⟩ _ (hp:zG l n)
 show vc _ _ _ _ (entry [.s (.vz ag l),.int n] []) _
 unfold zG at hp
 refine cO (l:=[]) (ex:=fun _=>true) (wr:=fun _=>false) (pt:=fun _=>false) trivial [.s 0,.s 1] (fun i:Nat=>[(.s 5,.int i)]) (fun i=>i≤l.length∧∀j,j<i→nth ag l j≠n) (fun i=>l.length-i) 0 [] ⟨ZA8 _,fun j hj=>absurd hj (by omega)⟩ (by repeat' (first|exact trivial|rfl|exact rfl|exact fP (ZA7 _)|apply And.intro)) ?_
 rintro i ⟨hi,uD⟩
 refine⟨fun w1=>⟨⟨?_,?_⟩,⟨fun w2=>?_,fun w3=>⟨⟨?_,?_⟩,?_⟩⟩⟩,fun w4=>?_⟩
 all_goals first|refine aw ?_|refine ax ?_|exact ba|exact a8|skip
 ·have bU:i<l.length:=by have:=aE w1;omega
  refine⟨[],[],_,_,_,rfl,az,(),aa,?_,?_,rfl⟩
  ·show AV.q true=AV.q (inL l n)
   rw [show inL l n=true from decide_eq_true (by rw [←aE w2];exact bT bU)]
  ·rfl
 ·have bU:i<l.length:=by have:=aE w1;omega
  refine⟨(i+1),[],?_,?_,?_⟩
  rotate_right
  ·repeat' (first|exact trivial|rfl|exact rfl|exact fP ZA0.symm|exact oU|apply And.intro)
  ·refine⟨bU,fun j hj=>?_⟩
   by_cases e:j=i
   ·subst e;exact aA w3
   ·exact uD j (by omega)
  ·show l.length-(i+1)<l.length-i
   omega
 ·have FX:i=l.length:=by have:¬((i:Int)<(l.length:Int)):=aA w4;omega
  refine⟨[],[],_,_,_,rfl,az,(),aa,?_,?_,rfl⟩
  ·show AV.q false=AV.q (inL l n)
   rw [show inL l n=false from decide_eq_false (fun hm=>by
    obtain⟨j,hj,e⟩:=List.getElem_of_mem hm
    have h1:=oK (ek:=ag) hj
    rw [ZB2 hj,e] at h1
    exact uD j (by omega) (ZE7 h1).symm)]
  ·rfl
def findF:Nat→Nat→List Int→Int
 |0,_,_=> -1
 |f+1,i,rf=>bif decide (nth ag rf i=0) then (i:Int) else findF f (i+1) rf
def ou (rf:List Int):Int:=findF 56 8 rf
theorem UI:∀(f i:Nat) (rf:List Int),findF f i rf= -1∨((i:Int)≤findF f i rf∧findF f i rf<i+f)
 |0,_,_=>.inl rfl
 |f+1,i,rf=>by
  unfold findF
  cases decide (nth ag rf i=0) with
  |true=>right;simp only [cond_true];omega
  |false=>
   simp only [cond_false]
   rcases UI f (i+1) rf with h |h
   ·exact .inl h
   ·right;omega
theorem UH (rf:List Int):ou rf= -1∨(8≤ou rf∧ou rf<64):=UI 56 8 rf
def yq (sp:List Int×List Int) (fr:Int) (bu:List Int):Prop:=sp.1.length=64∧fr=8∧bu=[]
def VZ (sp:List Int×List Int) (fr:Int) (bu:List Int):AV:=.int (ou sp.1)
def abx (sp:List Int×List Int) (fr:Int) (bu:List Int):List AV:=[]
def KB:Con where
 A:=[.a [.vz ag,.vz ag],.s .int,.s (.vz ag)]
 B:=[]
 pre:=fun x b=>yq (x.1) (x.2.1) (x.2.2)
 α:=fun _ _=>Unit
 φ:=fun _ _ _=>True
 r:=fun x b _=>VZ (x.1) (x.2.1) (x.2.2)
 o:=fun x b _=>abx (x.1) (x.2.1) (x.2.2)
 nf:=0
set_option maxRecDepth 100000 in
theorem aef:Has Tryz.prog 80 KB:=by
 refine Has.ofE (fun _=>true) (fun _=>false) (fun _=>false) (l:=[(55,o7),(119,QC)]) ⟨zS,aed,trivial⟩ (fn:=Tryz.f80) Tryz.func80 rfl (by decide) (aZ rfl) ?_
 rintro⟨⟨(dB:List Int),(eK:List Int)⟩,(fr:Int),(bu:List Int)⟩ _ (hp:yq (dB,eK) fr bu)
 show vc _ _ _ _ (entry [.a [.vz ag dB,.vz ag eK],.int fr,.s (.vz ag bu)] []) _
 obtain⟨(h1:dB.length=64),rfl,rfl⟩:=hp
 refine⟨⟨⟨trivial,trivial⟩,trivial⟩,fun x1 w1=>⟨fun w2=>absurd w2 (by decide),fun w3=>?_⟩⟩
 refine cO (l:=[(55,o7),(119,QC)]) (ex:=fun _=>true) (wr:=fun _=>false) (pt:=fun _=>false) ⟨zS,aed,trivial⟩ [.s 1,.s 2,.s 3,.s 7,.b 1003] (fun i:Nat=>[(.s 8,.int i)]) (fun i=>i≤56∧findF (56-i) (8+i) dB=ou dB) (fun i=>56-i) 0 [] ⟨ZA8 _,rfl⟩ (by repeat' (first|exact trivial|rfl|exact rfl|exact fP (ZA7 _)|apply And.intro)) ?_
 rintro i ⟨hi,hr⟩
 have XZ:i<56→(8+(8-8+(i:Int)) % 56).toNat=8+i:=fun h=>by omega
 refine⟨fun w1=>⟨⟨?_,?_⟩,⟨?_,?_⟩,⟨?_,?_⟩,⟨?_,?_⟩,⟨?_,?_⟩,aa,fun w2=>⟨⟨⟨aa,aa,aa⟩,?_⟩,fun x3 w4=>⟨fun w5=>?_,fun w6=>⟨⟨?_,?_⟩,?_⟩⟩⟩,fun w7=>⟨⟨?_,?_⟩,?_⟩⟩,fun w8=>?_⟩
 all_goals first|refine aw ?_|refine ax ?_|exact ba|(dsimp only [o7,sk];omega)|(dsimp only [QC,zG];omega)|exact a8|exact ZA8 _|skip
 ·have bU:i<56:=by have:=aE w1;omega
  have h2:=aE w2
  rw [XZ bU] at h2
  refine⟨[],[],_,_,_,rfl,az,(),aa,?_,?_,rfl⟩
  ·show AV.int (8+(8-8+(i:Int)) % 56)=AV.int (ou dB)
   rw [←hr,show 56-i=(55-i)+1 by omega,findF,decide_eq_true h2]
   show AV.int _=AV.int ((8+i:Nat):Int)
   rw [show 8+(8-8+(i:Int)) % 56=((8+i:Nat):Int) by omega]
  ·rfl
 ·exact absurd (show true=false from w6) (by decide)
 ·have bU:i<56:=by have:=aE w1;omega
  have h2:=aA w7
  rw [XZ bU] at h2
  refine⟨(i+1),[],?_,?_,?_⟩
  rotate_right
  ·repeat' (first|exact trivial|rfl|exact rfl|exact fP ZA0.symm|exact oU|apply And.intro)
  ·refine⟨bU,?_⟩
   rw [←hr,show 56-i=(56-(i+1))+1 by omega,findF,decide_eq_false h2]
   rfl
  ·show 56-(i+1)<56-i
   omega
 ·have FX:i=56:=by have:¬((i:Int)<56):=aA w8;omega
  subst FX
  refine⟨[],[],_,_,_,rfl,az,(),aa,?_,?_,rfl⟩
  ·show AV.int (-1)=AV.int (ou dB)
   rw [←hr];rfl
  ·rfl
def vC (s:ay) (text:ByteArray) (i:Nat):Bool:=decide (nth ab s.rows i=text)&&(decide (nth ag s.last i<s.ck)&&decide (nth ag s.refs i<s.ck))
def sE:Nat→Nat→ay→ByteArray→Int
 |0,_,_,_=> -1
 |f+1,i,s,text=>bif vC s text i then (i:Int) else sE f (i+1) s text
def rn (s:ay) (text:ByteArray):Int:=sE 56 8 s text
theorem TG:∀(f i:Nat) (s:ay) (text:ByteArray),sE f i s text= -1∨((i:Int)≤sE f i s text∧sE f i s text<i+f)
 |0,_,_,_=>.inl rfl
 |f+1,i,s,text=>by
  unfold sE
  cases vC s text i with
  |true=>right;simp only [cond_true];omega
  |false=>
   simp only [cond_false]
   rcases TG f (i+1) s text with h |h
   ·exact .inl h
   ·right;omega
theorem TF (s:ay) (text:ByteArray):rn s text= -1∨(8≤rn s text∧rn s text<64):=TG 56 8 s text
def ym (S:ay) (text:ByteArray):Prop:=S.n64
def VS (S:ay) (text:ByteArray):AV:=.int (rn S text)
def abq (S:ay) (text:ByteArray):List AV:=[]
def J8:Con where
 A:=[.a xE,.s .str]
 B:=[]
 pre:=fun x b=>ym (x.1) (x.2)
 α:=fun _ _=>Unit
 φ:=fun _ _ _=>True
 r:=fun x b _=>VS (x.1) (x.2)
 o:=fun x b _=>abq (x.1) (x.2)
 nf:=0
set_option maxRecDepth 100000 in
theorem aea:Has Tryz.prog 79 J8:=by
 refine Has.ofE (fun _=>true) (fun _=>false) (fun _=>false) (l:=[]) trivial (fn:=Tryz.f79) Tryz.func79 rfl (by decide) (aZ rfl) ?_
 rintro⟨⟨(aj:List ByteArray),(ak:List Int),(an:List Int),(ao:Int),(ah:List Pt),(aq:Int),(ai:List Pt),(ar:Bool)⟩,(text:ByteArray)⟩ _ (hp:ym (aj,ak,an,ao,ah,aq,ai,ar) text)
 show vc _ _ _ _ (entry [.a [.vz ab aj,.vz ag ak,.vz ag an,.int ao,.vz ae ah,.int aq,.vz ae ai,.q ar],.str text] []) _
 obtain⟨l1,l2,l3⟩:=hp
 dsimp only [ay.rows,ay.refs,ay.last] at l1 l2 l3
 refine cO (l:=[]) (ex:=fun _=>true) (wr:=fun _=>false) (pt:=fun _=>false) trivial [.s 1,.s 2,.b 1002] (fun i:Nat=>[(.s 5,.int ((8+i:Nat):Int))]) (fun i=>i≤56∧sE (56-i) (8+i) (aj,ak,an,ao,ah,aq,ai,ar) text=rn (aj,ak,an,ao,ah,aq,ai,ar) text) (fun i=>56-i) 0 [] ⟨ZA8 _,rfl⟩ (by repeat' (first|exact trivial|rfl|exact rfl|exact fP (ZA7 _)|apply And.intro)) ?_
 rintro i ⟨hi,hr⟩
 have XZ:(((8+i:Nat):Int)).toNat=8+i:=rfl
 have aeu:(((8+i:Nat):Int)<64)↔i<56:=by omega
 have cP:i<56→sE (56-i) (8+i) (aj,ak,an,ao,ah,aq,ai,ar) text=bif vC (aj,ak,an,ao,ah,aq,ai,ar) text (8+i) then ((8+i:Nat):Int) else sE (55-i) (8+i+1) (aj,ak,an,ao,ah,aq,ai,ar) text:=fun h=>by
  rw [show 56-i=(55-i)+1 by omega,sE]
 refine⟨fun w1=>⟨[.s 2],[.s 10],rfl,[.s 10,.b 1002],[.s 11],rfl,[.s 5],[.s 12],rfl,[.s 11,.s 12],[.s 13],rfl,⟨?_,?_⟩,[.s 13],[.s 14],rfl,[.s 1],[.s 15],rfl,[.s 14,.s 15],[.s 16],rfl,[.s 16],[.s 17],rfl,aa,fun w2=>⟨[.s 17,.s 2],[.s 18],rfl,[.s 17,.s 18],[.s 19],rfl,[.s 17,.s 19,.b 1002],[.s 20],rfl,[.s 17,.s 5],[.s 21],rfl,[.s 17,.s 20,.s 21],[.s 22],rfl,⟨?_,?_⟩,[.s 17,.s 22],[.s 23],rfl,[.s 17,.s 2],[.s 24],rfl,[.s 17,.s 24,.b 1002],[.s 25],rfl,[.s 17,.s 23,.s 25],[.s 26],rfl,[.s 17,.s 26],[.s 27],rfl,[.s 27],[.s 28],rfl,aa,fun w3=>⟨[.s 28,.s 2],[.s 29],rfl,[.s 28,.s 29],[.s 30],rfl,[.s 28,.s 30,.b 1002],[.s 31],rfl,[.s 28,.s 5],[.s 32],rfl,[.s 28,.s 31,.s 32],[.s 33],rfl,⟨?_,?_⟩,[.s 28,.s 33],[.s 34],rfl,[.s 28,.s 2],[.s 35],rfl,[.s 28,.s 35,.b 1002],[.s 36],rfl,[.s 28,.s 34,.s 36],[.s 37],rfl,[.s 28,.s 37],[.s 38],rfl,fun w4=>?_,fun w5=>⟨⟨?_,?_⟩,?_⟩⟩,fun w6=>⟨[.s 28],[.s 29],rfl,[.s 28],[.s 30],rfl,[.s 28],[.s 31],rfl,[.s 28],[.s 32],rfl,[.s 28],[.s 33],rfl,[.s 28],[.s 34],rfl,[.s 28],[.s 35],rfl,[.s 28],[.s 36],rfl,[.s 28],[.s 37],rfl,[.s 28,.s 37],[.s 38],rfl,⟨?_,?_⟩,?_⟩⟩,fun w7=>⟨[.s 17],[.s 18],rfl,[.s 17],[.s 19],rfl,[.s 17],[.s 20],rfl,[.s 17],[.s 21],rfl,[.s 17],[.s 22],rfl,[.s 17],[.s 23],rfl,[.s 17],[.s 24],rfl,[.s 17],[.s 25],rfl,[.s 17],[.s 26],rfl,[.s 17,.s 26],[.s 27],rfl,[.s 27],[.s 28],rfl,[.s 28],[.s 29],rfl,[.s 28],[.s 30],rfl,[.s 28],[.s 31],rfl,[.s 28],[.s 32],rfl,[.s 28],[.s 33],rfl,[.s 28],[.s 34],rfl,[.s 28],[.s 35],rfl,[.s 28],[.s 36],rfl,[.s 28],[.s 37],rfl,[.s 28,.s 37],[.s 38],rfl,⟨?_,?_⟩,?_⟩⟩,fun w8=>?_⟩
 all_goals first|refine aw ?_|refine ax ?_|exact ba|exact a8|skip
 ·have bU:i<56:=aeu.1 (aE w1)
  rw [XZ] at w2 w3 w4
  refine⟨[],[],_,_,_,rfl,az,(),aa,?_,?_,rfl⟩
  ·show AV.int ((8+i:Nat):Int)=AV.int (rn (aj,ak,an,ao,ah,aq,ai,ar) text)
   have e:vC (aj,ak,an,ao,ah,aq,ai,ar) text (8+i)=true:=by show (decide _&&(decide _&&decide _))=true;rw [w2,w3,w4];rfl
   rw [←hr,cP bU,e]
   rfl
  ·rfl
 ·have bU:i<56:=aeu.1 (aE w1)
  rw [XZ] at w2 w3 w5
  have e:vC (aj,ak,an,ao,ah,aq,ai,ar) text (8+i)=false:=by show (decide _&&(decide _&&decide _))=false;rw [w2,w3,w5];rfl
  refine⟨(i+1),[],?_,?_,?_⟩
  rotate_right
  ·repeat' (first|exact trivial|rfl|exact rfl|exact fP ZA0.symm|exact oU|apply And.intro)
  ·refine⟨bU,?_⟩
   rw [←hr,cP bU,e,show 56-(i+1)=55-i by omega]
   rfl
  ·show 56-(i+1)<56-i
   omega
 ·have bU:i<56:=aeu.1 (aE w1)
  rw [XZ] at w2 w6
  have e:vC (aj,ak,an,ao,ah,aq,ai,ar) text (8+i)=false:=by show (decide _&&(decide _&&decide _))=false;rw [w2,w6];rfl
  refine⟨(i+1),[],?_,?_,?_⟩
  rotate_right
  ·repeat' (first|exact trivial|rfl|exact rfl|exact fP ZA0.symm|exact oU|apply And.intro)
  ·refine⟨bU,?_⟩
   rw [←hr,cP bU,e,show 56-(i+1)=55-i by omega]
   rfl
  ·show 56-(i+1)<56-i
   omega
 ·have bU:i<56:=aeu.1 (aE w1)
  rw [XZ] at w7
  have e:vC (aj,ak,an,ao,ah,aq,ai,ar) text (8+i)=false:=by show (decide _&&(decide _&&decide _))=false;rw [w7];rfl
  refine⟨(i+1),[],?_,?_,?_⟩
  rotate_right
  ·repeat' (first|exact trivial|rfl|exact rfl|exact fP ZA0.symm|exact oU|apply And.intro)
  ·refine⟨bU,?_⟩
   rw [←hr,cP bU,e,show 56-(i+1)=55-i by omega]
   rfl
  ·show 56-(i+1)<56-i
   omega
 ·have FX:i=56:=by
   have h3:¬(i<56):=fun h=>aA w8 (aeu.2 h)
   omega
  subst FX
  refine⟨[],[],_,_,_,rfl,az,(),aa,?_,?_,rfl⟩
  ·show AV.int (-1)=AV.int (rn (aj,ak,an,ao,ah,aq,ai,ar) text)
   rw [←hr];rfl
  ·rfl
theorem KL {b:Bool}(h:(!b)=true):b=false:=by cases b with |true=>cases h |false=>rfl
theorem oN {b:Bool}(h:(!b)=false):b=true:=by cases b with |true=>rfl |false=>cases h
def bH (s:ay) (p:Pt):ByteArray×Bool:=
 bif au p then (⟨#[]⟩,true) else bif iY p (nth ab s.rows p.1.toNat) then (nth ab s.rows p.1.toNat,true) else (⟨#[]⟩,false)
theorem fT {s:ay}{p:Pt}(h:au p=true):bH s p=(⟨#[]⟩,true):=by unfold bH;rw [h];rfl
theorem yk {s:ay}{p:Pt}(h:au p=false) (h2:iY p (nth ab s.rows p.1.toNat)=true):bH s p=(nth ab s.rows p.1.toNat,true):=by unfold bH;rw [h,h2];rfl
theorem L1 {s:ay}{p:Pt}(h:au p=false) (h2:iY p (nth ab s.rows p.1.toNat)=false):bH s p=(⟨#[]⟩,false):=by unfold bH;rw [h,h2];rfl
def ay.szs (s:ay):Prop:=∀x∈s.rows,x.size≤1000000
def fV (S:ay) (p:Pt):Prop:=S.szs∧0≤p.1∧p.1<S.rows.length
def VR (S:ay) (p:Pt):AV:=.t [.s (.str (bH S p).1),.s (.q (bH S p).2)]
def abp (S:ay) (p:Pt):List AV:=[]
def eC:Con where
 A:=[.a xE,.a [.int,.int,.int,.int,.int]]
 B:=[]
 pre:=fun x b=>fV (x.1) (x.2)
 α:=fun _ _=>Unit
 φ:=fun _ _ _=>True
 r:=fun x b _=>VR (x.1) (x.2)
 o:=fun x b _=>abp (x.1) (x.2)
 nf:=0
set_option maxRecDepth 100000 in
theorem mc:Has Tryz.prog 29 eC:=by
 refine Has.ofE (fun _=>true) (fun _=>false) (fun _=>false) (l:=[(26,bm),(57,sS)]) ⟨cB,MU,trivial⟩ (fn:=Tryz.f29) Tryz.func29 rfl (by decide) (aZ rfl) ?_
 rintro⟨⟨(aj:List ByteArray),(ak:List Int),(an:List Int),(ao:Int),(ah:List Pt),(aq:Int),(ai:List Pt),(ar:Bool)⟩,⟨(p1:Int),(p2:Int),(p3:Int),(p4:Int),(p5:Int)⟩⟩ _ (hp:fV (aj,ak,an,ao,ah,aq,ai,ar) (p1,p2,p3,p4,p5))
 show vc _ _ _ _ (entry [.a [.vz ab aj,.vz ag ak,.vz ag an,.int ao,.vz ae ah,.int aq,.vz ae ai,.q ar],.a [.int p1,.int p2,.int p3,.int p4,.int p5]] []) _
 obtain⟨h1,(h2:0≤p1),(h3:p1<aj.length)⟩:=hp
 have dk:(nth ab aj p1.toNat).size≤1000000:=h1 _ (bT (ek:=ab) (show p1.toNat<aj.length by omega))
 refine⟨⟨⟨⟨aa,aa,aa,aa,aa,aa⟩,aa⟩,aa⟩,fun x1 w2=>⟨fun w3=>?_,fun w4=>⟨[.s 3,.b 1003],[.s 8],rfl,[.s 2],[.s 9],rfl,[.s 9,.b 1002],[.s 10],rfl,[.s 3],[.s 11],rfl,[.s 11,.b 1003],[.s 12],rfl,[.s 10,.s 12],[.s 13],rfl,⟨?_,?_⟩,[.s 13],[.s 14],rfl,[.s 8,.s 14],[.s 15],rfl,⟨⟨⟨aa,aa,aa,aa,aa,aa⟩,aa,aa⟩,?_⟩,?_,fun x5 w6=>⟨[.s 15],[.s 16],rfl,fun w7=>?_,fun w8=>⟨⟨?_,?_⟩,?_⟩⟩⟩⟩⟩
 all_goals first|refine aw ?_|refine ax ?_|exact ba|(dsimp only [bm,cj];omega)|(dsimp only [sS,nW];omega)|exact a8|(show ((nth ab aj p1.toNat).size:Int)≤1000000000000;omega)|skip
 ·refine⟨[],[],_,_,_,rfl,az,(),aa,?_,?_,rfl⟩
  ·show AV.t [.s (.str ⟨#[]⟩),.s (.q true)]=AV.t [.s (.str (bH (aj,ak,an,ao,ah,aq,ai,ar) (p1,p2,p3,p4,p5)).1),.s (.q (bH (aj,ak,an,ao,ah,aq,ai,ar) (p1,p2,p3,p4,p5)).2)]
   rw [fT w3]
  ·rfl
 ·refine⟨[],[],_,_,_,rfl,az,(),aa,?_,?_,rfl⟩
  ·show AV.t [.s (.str ⟨#[]⟩),.s (.q false)]=AV.t [.s (.str (bH (aj,ak,an,ao,ah,aq,ai,ar) (p1,p2,p3,p4,p5)).1),.s (.q (bH (aj,ak,an,ao,ah,aq,ai,ar) (p1,p2,p3,p4,p5)).2)]
   rw [L1 w4 (KL w7)]
  ·rfl
 ·refine⟨[],[],_,_,_,rfl,az,(),aa,?_,?_,rfl⟩
  ·show AV.t [.s (.str (nth ab aj p1.toNat)),.s (.q true)]=AV.t [.s (.str (bH (aj,ak,an,ao,ah,aq,ai,ar) (p1,p2,p3,p4,p5)).1),.s (.q (bH (aj,ak,an,ao,ah,aq,ai,ar) (p1,p2,p3,p4,p5)).2)]
   rw [yk w4 (oN w8)]
  ·rfl
end GL
namespace GL
def A8 (s:ay) (text:ByteArray) (level:Int):Int:=bif s.same&&decide (level=0) then rn s text else -1
def db (s:ay) (text:ByteArray) (level:Int):Int:=bif decide (A8 s text level<0) then ou s.refs else A8 s text level
def uT (s:ay) (text:ByteArray) (k:Nat):ay:=
 (s.rows.set k text,s.refs.set k (xC (nth ag s.refs k+1)),s.last.set k s.ck,s.ck,s.gone,s.bY,s.dead,s.same)
def bg (s:ay) (text:ByteArray) (level:Int):ay×Pt×Bool:=
 bif decide (db s text level<0) then (s,bO,false)
 else bif (gx (db s text level) s.ck level text).2 then (uT s text (db s text level).toNat,(gx (db s text level) s.ck level text).1,true)
 else (s,bO,false)
theorem wA {s:ay}{text:ByteArray}{level:Int}(h1:s.same=true) (h2:decide (level=0)=true) (h3:decide (rn s text<0)=true):db s text level=ou s.refs:=by
 unfold db A8;rw [h1,h2,show (true&&true)=true from rfl,cond_true,h3];rfl
theorem A7 {s:ay}{text:ByteArray}{level:Int}(h1:s.same=true) (h2:decide (level=0)=true) (h3:decide (rn s text<0)=false):db s text level=rn s text:=by
 unfold db A8;rw [h1,h2,show (true&&true)=true from rfl,cond_true,h3];rfl
theorem wz {s:ay}{text:ByteArray}{level:Int}(h2:decide (level=0)=false):db s text level=ou s.refs:=by
 unfold db A8;rw [h2,ZD8];rfl
theorem wy {s:ay}{text:ByteArray}{level:Int}(h1:s.same=false):db s text level=ou s.refs:=by
 unfold db A8;rw [h1,Bool.false_and];rfl
theorem nH {s:ay}{text:ByteArray}{level a:Int}(e:db s text level=a) (h:decide (a<0)=true):bg s text level=(s,bO,false):=by
 unfold bg;rw [e,h];rfl
theorem mF {s:ay}{text:ByteArray}{level a:Int}(e:db s text level=a) (h:decide (a<0)=false) (h2:(!(gx a s.ck level text).2)=true):bg s text level=(s,bO,false):=by
 unfold bg;rw [e,h,KL h2];rfl
theorem pd {s:ay}{text:ByteArray}{level a:Int}(e:db s text level=a) (h:decide (a<0)=false) (h2:(!(gx a s.ck level text).2)=false):bg s text level=(uT s text a.toNat,(gx a s.ck level text).1,true):=by
 unfold bg;rw [e,h,oN h2];rfl
def nT (S:ay) (text:ByteArray) (level:Int):Prop:=S.n64∧(text.size:Int)≤1000000000000
def RF (S:ay) (text:ByteArray) (level:Int):AV:=.t [.a (k9 0 1 2 3 4 (bg S text level).1),ptA (bg S text level).2.1,.s (.q (bg S text level).2.2)]
def WJ (S:ay) (text:ByteArray) (level:Int):List AV:=GR (bg S text level).1
def nq:Con where
 A:=[.a (stB 0 1 2 3 4),.s .str,.s .int]
 B:=[.r ab,.r ag,.r ag,.r ae,.r ae]
 pre:=fun x b=>whole x.1.1 x.1.2.1 x.1.2.2.1 x.1.2.2.2.2.1 x.1.2.2.2.2.2.2.1 (b.1) (b.2.1) (b.2.2.1) (b.2.2.2.1) (b.2.2.2.2)∧nT ((b.1,b.2.1,b.2.2.1,x.1.2.2.2.1,b.2.2.2.1,x.1.2.2.2.2.2.1,b.2.2.2.2,x.1.2.2.2.2.2.2.2)) (x.2.1) (x.2.2)
 α:=fun _ _=>Unit
 φ:=fun _ _ _=>True
 r:=fun x b _=>RF ((b.1,b.2.1,b.2.2.1,x.1.2.2.2.1,b.2.2.2.1,x.1.2.2.2.2.2.1,b.2.2.2.2,x.1.2.2.2.2.2.2.2)) (x.2.1) (x.2.2)
 o:=fun x b _=>WJ ((b.1,b.2.1,b.2.2.1,x.1.2.2.2.1,b.2.2.2.1,x.1.2.2.2.2.2.1,b.2.2.2.2,x.1.2.2.2.2.2.2.2)) (x.2.1) (x.2.2)
 nf:=0
set_option maxRecDepth 100000 in
theorem CW:Has Tryz.prog 48 nq:=by
 refine Has.ofE (fun _=>true) (fun d=>Nat.beq d 59) (fun _=>false) (l:=[(79,J8),(80,KB),(53,o9)]) ⟨aea,aef,FV,trivial⟩ (fn:=Tryz.f48) Tryz.func48 rfl (by decide) (aZ rfl) ?_
 rintro⟨⟨(A3:Nat),(A2:Nat),(A1:Nat),(ao:Int),(AZ:Nat),(aq:Int),(AY:Nat),(ar:Bool)⟩,(text:ByteArray),(level:Int)⟩ ⟨(aj:List ByteArray),(ak:List Int),(an:List Int),(ah:List Pt),(ai:List Pt)⟩ ⟨⟨(gE:A3=List.length aj),(gD:A2=List.length ak),(gC:A1=List.length an),(gB:AZ=List.length ah),(gA:AY=List.length ai)⟩,(hp:nT (aj,ak,an,ao,ah,aq,ai,ar) text level)⟩
 subst gE gD gC gB gA
 show vc _ _ _ _ (entry [.a [.xs 0 1 0 aj.length,.xs 1 1 0 ak.length,.xs 2 1 0 an.length,.int ao,.xs 3 5 0 ah.length,.int aq,.xs 4 5 0 ai.length,.q ar],.str text,.int level] [.rs ab aj,.rs ag ak,.rs ag an,.rs ae ah,.rs ae ai]) _
 obtain⟨⟨l1,l2,l3⟩,hs⟩:=hp
 dsimp only [ay.rows,ay.refs,ay.last] at l1 l2 l3
 have hL:=TF (aj,ak,an,ao,ah,aq,ai,ar) text
 have hF:=UH ak
 refine⟨aa,fun w1=>⟨fun w2=>⟨⟨⟨⟨⟨?_,?_⟩,⟨?_,?_⟩,⟨?_,?_⟩,aa,⟨?_,?_⟩,aa,⟨?_,?_⟩,aa,aa⟩,aa,aa⟩,?_,?_,?_⟩,fun x3 w4=>⟨fun w5=>⟨aa,⟨⟨⟨⟨?_,?_⟩,⟨?_,?_⟩,aa⟩,aa,⟨?_,?_⟩,aa⟩,?_,?_,?_⟩,fun x6 w7=>⟨fun w8=>?_,fun w9=>⟨⟨⟨aa,aa,aa,aa,aa⟩,?_⟩,fun x10 kk=>⟨fun dI=>?_,fun iJ=>⟨⟨?_,?_⟩,?_,[.s 3],[.s 49],rfl,[.s 49],[.s 50],rfl,[.s 50,.b 1003],[.s 51],rfl,[.s 9],[.s 52],rfl,[.s 3],[.s 53],rfl,[.s 53],[.s 54],rfl,[.s 54,.b 1003],[.s 55],rfl,[.s 9],[.s 56],rfl,[.s 55,.s 56],[.s 57],rfl,⟨?_,?_⟩,[.s 57,.b 1],[.s 58],rfl,?_,[.s 58],[.s 59],rfl,[.s 51,.s 52],[.s 60],rfl,⟨?_,?_⟩,[.s 60,.s 59,.b 1],[.b 1],rfl,?_,⟨?_,?_⟩,?_,[.s 3,.b 1003],[.s 68],rfl,[.s 10,.b 1010],[.s 69],rfl,[.s 6,.s 68,.b 1006],[.b 1006],rfl,[.s 7,.s 69,.b 1007],[.b 1007],rfl,[],[.s 8],rfl,?_⟩⟩⟩⟩⟩,fun gI=>⟨fun pe=>?_,fun kj=>⟨⟨⟨aa,aa,aa,aa,aa⟩,?_⟩,fun x17 qX=>⟨fun oB=>?_,fun uw=>⟨⟨?_,?_⟩,?_,[.s 3],[.s 49],rfl,[.s 49],[.s 50],rfl,[.s 50,.b 1003],[.s 51],rfl,[.s 9],[.s 52],rfl,[.s 3],[.s 53],rfl,[.s 53],[.s 54],rfl,[.s 54,.b 1003],[.s 55],rfl,[.s 9],[.s 56],rfl,[.s 55,.s 56],[.s 57],rfl,⟨?_,?_⟩,[.s 57,.b 1],[.s 58],rfl,?_,[.s 58],[.s 59],rfl,[.s 51,.s 52],[.s 60],rfl,⟨?_,?_⟩,[.s 60,.s 59,.b 1],[.b 1],rfl,?_,⟨?_,?_⟩,?_,[.s 3,.b 1003],[.s 68],rfl,[.s 10,.b 1010],[.s 69],rfl,[.s 6,.s 68,.b 1006],[.b 1006],rfl,[.s 7,.s 69,.b 1007],[.b 1007],rfl,[],[.s 8],rfl,?_⟩⟩⟩⟩⟩⟩,fun zm=>⟨fun zl=>⟨aa,⟨⟨⟨⟨?_,?_⟩,⟨?_,?_⟩,aa⟩,aa,⟨?_,?_⟩,aa⟩,?_,?_,?_⟩,fun x23 rG=>⟨fun w25=>?_,fun E1=>⟨⟨⟨aa,aa,aa,aa,aa⟩,?_⟩,fun x27 w28=>⟨fun w29=>?_,fun w30=>⟨⟨?_,?_⟩,?_,[.s 3],[.s 49],rfl,[.s 49],[.s 50],rfl,[.s 50,.b 1003],[.s 51],rfl,[.s 9],[.s 52],rfl,[.s 3],[.s 53],rfl,[.s 53],[.s 54],rfl,[.s 54,.b 1003],[.s 55],rfl,[.s 9],[.s 56],rfl,[.s 55,.s 56],[.s 57],rfl,⟨?_,?_⟩,[.s 57,.b 1],[.s 58],rfl,?_,[.s 58],[.s 59],rfl,[.s 51,.s 52],[.s 60],rfl,⟨?_,?_⟩,[.s 60,.s 59,.b 1],[.b 1],rfl,?_,⟨?_,?_⟩,?_,[.s 3,.b 1003],[.s 68],rfl,[.s 10,.b 1010],[.s 69],rfl,[.s 6,.s 68,.b 1006],[.b 1006],rfl,[.s 7,.s 69,.b 1007],[.b 1007],rfl,[],[.s 8],rfl,?_⟩⟩⟩⟩⟩,fun w31=>⟨fun w32=>?_,fun w33=>⟨⟨⟨aa,aa,aa,aa,aa⟩,?_⟩,fun x34 w35=>⟨fun w36=>?_,fun w37=>⟨⟨?_,?_⟩,?_,[.s 3],[.s 49],rfl,[.s 49],[.s 50],rfl,[.s 50,.b 1003],[.s 51],rfl,[.s 9],[.s 52],rfl,[.s 3],[.s 53],rfl,[.s 53],[.s 54],rfl,[.s 54,.b 1003],[.s 55],rfl,[.s 9],[.s 56],rfl,[.s 55,.s 56],[.s 57],rfl,⟨?_,?_⟩,[.s 57,.b 1],[.s 58],rfl,?_,[.s 58],[.s 59],rfl,[.s 51,.s 52],[.s 60],rfl,⟨?_,?_⟩,[.s 60,.s 59,.b 1],[.b 1],rfl,?_,⟨?_,?_⟩,?_,[.s 3,.b 1003],[.s 68],rfl,[.s 10,.b 1010],[.s 69],rfl,[.s 6,.s 68,.b 1006],[.b 1006],rfl,[.s 7,.s 69,.b 1007],[.b 1007],rfl,[],[.s 8],rfl,?_⟩⟩⟩⟩⟩⟩,fun w38=>⟨fun w39=>⟨aa,⟨⟨⟨⟨?_,?_⟩,⟨?_,?_⟩,aa⟩,aa,⟨?_,?_⟩,aa⟩,?_,?_,?_⟩,fun x40 w41=>⟨fun w42=>?_,fun w43=>⟨⟨⟨aa,aa,aa,aa,aa⟩,?_⟩,fun x44 w45=>⟨fun w46=>?_,fun w47=>⟨⟨?_,?_⟩,?_,[.s 3],[.s 49],rfl,[.s 49],[.s 50],rfl,[.s 50,.b 1003],[.s 51],rfl,[.s 9],[.s 52],rfl,[.s 3],[.s 53],rfl,[.s 53],[.s 54],rfl,[.s 54,.b 1003],[.s 55],rfl,[.s 9],[.s 56],rfl,[.s 55,.s 56],[.s 57],rfl,⟨?_,?_⟩,[.s 57,.b 1],[.s 58],rfl,?_,[.s 58],[.s 59],rfl,[.s 51,.s 52],[.s 60],rfl,⟨?_,?_⟩,[.s 60,.s 59,.b 1],[.b 1],rfl,?_,⟨?_,?_⟩,?_,[.s 3,.b 1003],[.s 68],rfl,[.s 10,.b 1010],[.s 69],rfl,[.s 6,.s 68,.b 1006],[.b 1006],rfl,[.s 7,.s 69,.b 1007],[.b 1007],rfl,[],[.s 8],rfl,?_⟩⟩⟩⟩⟩,fun w48=>⟨fun w49=>?_,fun w50=>⟨⟨⟨aa,aa,aa,aa,aa⟩,?_⟩,fun x51 w52=>⟨fun w53=>?_,fun w54=>⟨⟨?_,?_⟩,?_,[.s 3],[.s 49],rfl,[.s 49],[.s 50],rfl,[.s 50,.b 1003],[.s 51],rfl,[.s 9],[.s 52],rfl,[.s 3],[.s 53],rfl,[.s 53],[.s 54],rfl,[.s 54,.b 1003],[.s 55],rfl,[.s 9],[.s 56],rfl,[.s 55,.s 56],[.s 57],rfl,⟨?_,?_⟩,[.s 57,.b 1],[.s 58],rfl,?_,[.s 58],[.s 59],rfl,[.s 51,.s 52],[.s 60],rfl,⟨?_,?_⟩,[.s 60,.s 59,.b 1],[.b 1],rfl,?_,⟨?_,?_⟩,?_,[.s 3,.b 1003],[.s 68],rfl,[.s 10,.b 1010],[.s 69],rfl,[.s 6,.s 68,.b 1006],[.b 1006],rfl,[.s 7,.s 69,.b 1007],[.b 1007],rfl,[],[.s 8],rfl,?_⟩⟩⟩⟩⟩⟩
 all_goals first|(exfalso;simp only [decide_eq_true_eq,decide_eq_false_iff_not] at *;omega)|refine aw ?_|refine ax ?_|exact ba|(dsimp only [J8,ym];omega)|(dsimp only [KB,yq];omega)|(dsimp only [o9,mS];omega)|exact a8|exact ZG9.1 (aA (by assumption))|(show (text.size:Int)≤1000000000000;omega)|(simp only [dj,j9,decide_eq_true_eq,decide_eq_false_iff_not,ZC3] at *;omega)|skip
 ·have e:=nH (wA (s:=(aj,ak,an,ao,ah,aq,ai,ar)) (text:=text) w1 w2 w5) w8
  refine⟨[],[],_,_,_,rfl,az,(),aa,?_,?_,rfl⟩
  ·show _=AV.t [.a (k9 0 1 2 3 4 (bg (aj,ak,an,ao,ah,aq,ai,ar) text level).1),ptA (bg (aj,ak,an,ao,ah,aq,ai,ar) text level).2.1,.s (.q (bg (aj,ak,an,ao,ah,aq,ai,ar) text level).2.2)]
   rw [e];rfl
  ·show _=GR (bg (aj,ak,an,ao,ah,aq,ai,ar) text level).1
   rw [e];rfl
 ·have e:=mF (wA (s:=(aj,ak,an,ao,ah,aq,ai,ar)) (text:=text) w1 w2 w5) w9 dI
  refine⟨[],[],_,_,_,rfl,az,(),aa,?_,?_,rfl⟩
  ·show _=AV.t [.a (k9 0 1 2 3 4 (bg (aj,ak,an,ao,ah,aq,ai,ar) text level).1),ptA (bg (aj,ak,an,ao,ah,aq,ai,ar) text level).2.1,.s (.q (bg (aj,ak,an,ao,ah,aq,ai,ar) text level).2.2)]
   rw [e];rfl
  ·show _=GR (bg (aj,ak,an,ao,ah,aq,ai,ar) text level).1
   rw [e];rfl
 ·have e:=pd (wA (s:=(aj,ak,an,ao,ah,aq,ai,ar)) (text:=text) w1 w2 w5) w9 iJ
  refine⟨[],[],_,_,_,rfl,az,(),aa,?_,?_,rfl⟩
  ·show _=AV.t [.a (k9 0 1 2 3 4 (bg (aj,ak,an,ao,ah,aq,ai,ar) text level).1),ptA (bg (aj,ak,an,ao,ah,aq,ai,ar) text level).2.1,.s (.q (bg (aj,ak,an,ao,ah,aq,ai,ar) text level).2.2)]
   rw [e]
   exact congrArg (fun l=>AV.t [A0.a l,_,_]) (uZ (s:=uT (aj,ak,an,ao,ah,aq,ai,ar) text _) ZC3.symm ZC3.symm ZC3.symm rfl rfl rfl rfl rfl)
  ·show _=GR (bg (aj,ak,an,ao,ah,aq,ai,ar) text level).1
   rw [e];rfl
 ·have e:=mF (A7 (s:=(aj,ak,an,ao,ah,aq,ai,ar)) (text:=text) w1 w2 gI) kj oB
  refine⟨[],[],_,_,_,rfl,az,(),aa,?_,?_,rfl⟩
  ·show _=AV.t [.a (k9 0 1 2 3 4 (bg (aj,ak,an,ao,ah,aq,ai,ar) text level).1),ptA (bg (aj,ak,an,ao,ah,aq,ai,ar) text level).2.1,.s (.q (bg (aj,ak,an,ao,ah,aq,ai,ar) text level).2.2)]
   rw [e];rfl
  ·show _=GR (bg (aj,ak,an,ao,ah,aq,ai,ar) text level).1
   rw [e];rfl
 ·have e:=pd (A7 (s:=(aj,ak,an,ao,ah,aq,ai,ar)) (text:=text) w1 w2 gI) kj uw
  refine⟨[],[],_,_,_,rfl,az,(),aa,?_,?_,rfl⟩
  ·show _=AV.t [.a (k9 0 1 2 3 4 (bg (aj,ak,an,ao,ah,aq,ai,ar) text level).1),ptA (bg (aj,ak,an,ao,ah,aq,ai,ar) text level).2.1,.s (.q (bg (aj,ak,an,ao,ah,aq,ai,ar) text level).2.2)]
   rw [e]
   exact congrArg (fun l=>AV.t [A0.a l,_,_]) (uZ (s:=uT (aj,ak,an,ao,ah,aq,ai,ar) text _) ZC3.symm ZC3.symm ZC3.symm rfl rfl rfl rfl rfl)
  ·show _=GR (bg (aj,ak,an,ao,ah,aq,ai,ar) text level).1
   rw [e];rfl
 ·have e:=nH (wz (s:=(aj,ak,an,ao,ah,aq,ai,ar)) (text:=text) zm) w25
  refine⟨[],[],_,_,_,rfl,az,(),aa,?_,?_,rfl⟩
  ·show _=AV.t [.a (k9 0 1 2 3 4 (bg (aj,ak,an,ao,ah,aq,ai,ar) text level).1),ptA (bg (aj,ak,an,ao,ah,aq,ai,ar) text level).2.1,.s (.q (bg (aj,ak,an,ao,ah,aq,ai,ar) text level).2.2)]
   rw [e];rfl
  ·show _=GR (bg (aj,ak,an,ao,ah,aq,ai,ar) text level).1
   rw [e];rfl
 ·have e:=mF (wz (s:=(aj,ak,an,ao,ah,aq,ai,ar)) (text:=text) zm) E1 w29
  refine⟨[],[],_,_,_,rfl,az,(),aa,?_,?_,rfl⟩
  ·show _=AV.t [.a (k9 0 1 2 3 4 (bg (aj,ak,an,ao,ah,aq,ai,ar) text level).1),ptA (bg (aj,ak,an,ao,ah,aq,ai,ar) text level).2.1,.s (.q (bg (aj,ak,an,ao,ah,aq,ai,ar) text level).2.2)]
   rw [e];rfl
  ·show _=GR (bg (aj,ak,an,ao,ah,aq,ai,ar) text level).1
   rw [e];rfl
 ·have e:=pd (wz (s:=(aj,ak,an,ao,ah,aq,ai,ar)) (text:=text) zm) E1 w30
  refine⟨[],[],_,_,_,rfl,az,(),aa,?_,?_,rfl⟩
  ·show _=AV.t [.a (k9 0 1 2 3 4 (bg (aj,ak,an,ao,ah,aq,ai,ar) text level).1),ptA (bg (aj,ak,an,ao,ah,aq,ai,ar) text level).2.1,.s (.q (bg (aj,ak,an,ao,ah,aq,ai,ar) text level).2.2)]
   rw [e]
   exact congrArg (fun l=>AV.t [A0.a l,_,_]) (uZ (s:=uT (aj,ak,an,ao,ah,aq,ai,ar) text _) ZC3.symm ZC3.symm ZC3.symm rfl rfl rfl rfl rfl)
  ·show _=GR (bg (aj,ak,an,ao,ah,aq,ai,ar) text level).1
   rw [e];rfl
 ·have e:=nH (wy (s:=(aj,ak,an,ao,ah,aq,ai,ar)) (text:=text) (level:=level) w38) w42
  refine⟨[],[],_,_,_,rfl,az,(),aa,?_,?_,rfl⟩
  ·show _=AV.t [.a (k9 0 1 2 3 4 (bg (aj,ak,an,ao,ah,aq,ai,ar) text level).1),ptA (bg (aj,ak,an,ao,ah,aq,ai,ar) text level).2.1,.s (.q (bg (aj,ak,an,ao,ah,aq,ai,ar) text level).2.2)]
   rw [e];rfl
  ·show _=GR (bg (aj,ak,an,ao,ah,aq,ai,ar) text level).1
   rw [e];rfl
 ·have e:=mF (wy (s:=(aj,ak,an,ao,ah,aq,ai,ar)) (text:=text) (level:=level) w38) w43 w46
  refine⟨[],[],_,_,_,rfl,az,(),aa,?_,?_,rfl⟩
  ·show _=AV.t [.a (k9 0 1 2 3 4 (bg (aj,ak,an,ao,ah,aq,ai,ar) text level).1),ptA (bg (aj,ak,an,ao,ah,aq,ai,ar) text level).2.1,.s (.q (bg (aj,ak,an,ao,ah,aq,ai,ar) text level).2.2)]
   rw [e];rfl
  ·show _=GR (bg (aj,ak,an,ao,ah,aq,ai,ar) text level).1
   rw [e];rfl
 ·have e:=pd (wy (s:=(aj,ak,an,ao,ah,aq,ai,ar)) (text:=text) (level:=level) w38) w43 w47
  refine⟨[],[],_,_,_,rfl,az,(),aa,?_,?_,rfl⟩
  ·show _=AV.t [.a (k9 0 1 2 3 4 (bg (aj,ak,an,ao,ah,aq,ai,ar) text level).1),ptA (bg (aj,ak,an,ao,ah,aq,ai,ar) text level).2.1,.s (.q (bg (aj,ak,an,ao,ah,aq,ai,ar) text level).2.2)]
   rw [e]
   exact congrArg (fun l=>AV.t [A0.a l,_,_]) (uZ (s:=uT (aj,ak,an,ao,ah,aq,ai,ar) text _) ZC3.symm ZC3.symm ZC3.symm rfl rfl rfl rfl rfl)
  ·show _=GR (bg (aj,ak,an,ao,ah,aq,ai,ar) text level).1
   rw [e];rfl
end GL
end Go.Proofs.YtbfgjadbfjkcdaaGreatDoor
