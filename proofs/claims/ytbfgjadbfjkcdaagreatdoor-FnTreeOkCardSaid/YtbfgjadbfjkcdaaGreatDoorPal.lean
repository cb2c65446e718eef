/- FnTreeOk returns true for every code (its row lists package variables, tied by the card): part 12 of 39. -/
import Derived.Test.YtbfgjadbfjkcdaaGreatDoorPak
set_option maxHeartbeats 20000000
set_option linter.all false
namespace Go.Proofs.YtbfgjadbfjkcdaaGreatDoor
namespace GL
def yn (sp:List Int×List Int):Prop:=sp.1.length≤1000000∧sp.2.length≤1000000
def VS (sp:List Int×List Int):AV:=.a [.xs 0 1 0 sp.1.length, .xs 1 1 0 sp.2.length]
def abp (sp:List Int×List Int):List AV:=[.rs ae sp.1, .rs ae sp.2]
def J1:Con where
 A:=[.a [.vz ae, .vz ae]]
 B:=[]
 pre:=fun x b=>yn x
 α:=fun _ _=>Unit
 φ:=fun _ _ _=>True
 r:=fun x b _=>VS x
 o:=fun x b _=>abp x
 nf:=2
set_option maxRecDepth 100000 in
theorem ad7:Has Tryz.prog 88 J1:=by
 refine Has.ofE (fun _=>true) (fun _=>false) (fun _=>false) (l:=[]) trivial (fn:=Tryz.f88) Tryz.func88 rfl (by decide) (cH rfl) ?_
 rintro ⟨(dv:List Int),(eD:List Int)⟩ _ (hp:yn (dv,eD))
 show vc _ _ _ _ (entry [.a [.vz ae dv, .vz ae eD]] []) _
 obtain ⟨(h1:dv.length≤1000000),(h2:eD.length≤1000000)⟩:=hp
 refine ⟨[.b 1003],[.s 3, .b 1003],rfl,tv,[.s 1],[.s 4],rfl,[.s 4, .b 1001],[.s 5],rfl,[.s 3, .s 5, .b 1003, .b 1006],[.s 6, .b 1006, .b 1003],rfl,⟨⟨?_,?_⟩,tv⟩,[.b 1007],[.s 7, .b 1007],rfl,tv,[.s 1],[.s 8],rfl,[.s 8, .b 1001],[.s 9],rfl,[.s 7, .s 9, .b 1007, .b 1010],[.s 10, .b 1010, .b 1007],rfl,⟨⟨?_,?_⟩,tv⟩,[.s 6, .s 10],[.s 11],rfl,[.s 2, .s 11, .b 1002],[.b 1002],rfl,?_⟩
 all_goals first|refine au ?_|refine aw ?_|exact sa|exact sb|(simp only [da,List.length_nil];omega)|skip
 refine ⟨[1006,1010],[],_,_,_,rfl,rp,(),tv,?_,?_,rfl⟩
 ·show AV.a [.xs 0 1 0 (0+dv.length), .xs 1 1 0 (0+eD.length)]=AV.a [.xs 0 1 0 dv.length, .xs 1 1 0 eD.length]
  rw [Nat.zero_add,Nat.zero_add]
 ·rfl
def ax.small (s:ax):Prop:=s.rows.length≤1000000∧s.refs.length≤1000000∧s.last.length≤1000000∧s.gone.length≤1000000∧s.dead.length≤1000000
def pN (S:ax):Prop:=S.small
def VN (S:ax):AV:=.a (lA 0 1 2 3 4 S)
def abk (S:ax):List AV:=GD S
def jv:Con where
 A:=[.a xw]
 B:=[]
 pre:=fun x b=>pN x
 α:=fun _ _=>Unit
 φ:=fun _ _ _=>True
 r:=fun x b _=>VN x
 o:=fun x b _=>abk x
 nf:=5
set_option maxRecDepth 100000 in
theorem IG:Has Tryz.prog 54 jv:=by
 refine Has.ofE (fun _=>true) (fun _=>false) (fun _=>false) (l:=[(88,J1)]) ⟨ad7,trivial⟩ (fn:=Tryz.f54) Tryz.func54 rfl (by decide) (cH rfl) ?_
 rintro ⟨(ai:List ByteArray),(aj:List Int),(ak:List Int),(an:Int),(ag:List Pt),(ao:Int),(ah:List Pt),(aq:Bool)⟩ _ (hp:pN (ai,aj,ak,an,ag,ao,ah,aq))
 show vc _ _ _ _ (entry [.a [.vz aa ai, .vz ae aj, .vz ae ak, .int an, .vz ab ag, .int ao, .vz ab ah, .q aq]] []) _
 obtain ⟨h1,h2,h3,h4,h5⟩:=hp
 dsimp only [ax.rows,ax.refs,ax.last,ax.gone,ax.dead] at h1 h2 h3 h4 h5
 refine ⟨tv,⟨⟨?_,?_⟩,tv⟩,⟨⟨⟨tv,tv,tv⟩,tv⟩,?_,?_⟩,fun x1 w2=>⟨tv,⟨⟨?_,?_⟩,tv⟩,tv,⟨⟨?_,?_⟩,tv⟩,?_⟩⟩
 all_goals first|refine au ?_|refine aw ?_|exact sa|(dsimp only [J1,yn];omega)|exact sb|(simp only [da,List.length_nil];omega)|skip
 refine ⟨[1006,110000,110001,1015,1020],[],_,_,_,rfl,rp,(),tv,?_,?_,rfl⟩
 ·exact congrArg AV.a (uT (s:=(ai,aj,ak,an,ag,ao,ah,aq)) (Nat.zero_add _) rfl rfl rfl (Nat.zero_add _) rfl (Nat.zero_add _) rfl)
 ·rfl
def inL (l:List Int) (n:Int):Bool:=decide (n∈l)
theorem bS {ek:EK} {l:List (EK.Ty ek)} {k:Nat} (h:k < l.length):nth ek l k∈l:=by
 have:=oB h
 exact List.mem_of_getElem? this
def zx (l:List Int) (n:Int):Prop:=l.length≤1000000
def acQ (l:List Int) (n:Int):AV:=.q (inL l n)
def afN (l:List Int) (n:Int):List AV:=[]
def P3:Con where
 A:=[.s (.vz ae), .s .int]
 B:=[]
 pre:=fun x b=>zx (x.1) (x.2)
 α:=fun _ _=>Unit
 φ:=fun _ _ _=>True
 r:=fun x b _=>acQ (x.1) (x.2)
 o:=fun x b _=>afN (x.1) (x.2)
 nf:=0
set_option maxRecDepth 100000 in
theorem ad4:Has Tryz.prog 119 P3:=by
 refine Has.ofE (fun _=>true) (fun _=>false) (fun _=>false) (l:=[]) trivial (fn:=Tryz.f119) Tryz.func119 rfl (by decide) (cH rfl) ?_
 rintro ⟨(l:List Int),(n:Int)⟩ _ (hp:zx l n)
 show vc _ _ _ _ (entry [.s (.vz ae l), .int n] []) _
 unfold zx at hp
 refine cI (l:=[]) (ex:=fun _=>true) (wr:=fun _=>false) (pt:=fun _=>false) trivial [.s 0, .s 1] (fun i:Nat=>[(.s 5, .int i)]) (fun i=>i≤l.length∧∀j,j < i→nth ae l j≠n) (fun i=>l.length - i) 0 [] ⟨Nat.zero_le _,fun j hj=>absurd hj (by omega)⟩ (by repeat' (first |exact trivial |rfl |exact rfl |exact fH (Nat.zero_add _) |apply And.intro)) ?_
 rintro i ⟨hi,uy⟩
 refine ⟨fun w1=>⟨⟨?_,?_⟩,⟨fun w2=>?_,fun w3=>⟨⟨?_,?_⟩,?_⟩⟩⟩,fun w4=>?_⟩
 all_goals first|refine au ?_|refine aw ?_|exact sa|exact sb|skip
 ·have bM:i < l.length:=by have:=cw w1;omega
  refine ⟨[],[],_,_,_,rfl,rp,(),tv,?_,?_,rfl⟩
  ·show AV.q true=AV.q (inL l n)
   rw [show inL l n=true from decide_eq_true (by rw [←cw w2];exact bS bM)]
  ·rfl
 ·have bM:i < l.length:=by have:=cw w1;omega
  refine ⟨(i+1),[],?_,?_,?_⟩
  rotate_right
  ·repeat' (first |exact trivial |rfl |exact rfl |exact fH List.length_append.symm |exact oK |apply And.intro)
  ·refine ⟨bM,fun j hj=>?_⟩
   by_cases e:j=i
   ·subst e;exact ca w3
   ·exact uy j (by omega)
  ·show l.length - (i+1) < l.length - i
   omega
 ·have FJ:i=l.length:=by have:¬((i:Int) < (l.length:Int)):=ca w4;omega
  refine ⟨[],[],_,_,_,rfl,rp,(),tv,?_,?_,rfl⟩
  ·show AV.q false=AV.q (inL l n)
   rw [show inL l n=false from decide_eq_false (fun hm=>by
    obtain ⟨j,hj,e⟩:=List.getElem_of_mem hm
    have h1:=oB (ek:=ae) hj
    rw [List.getElem?_eq_getElem hj,e] at h1
    exact uy j (by omega) (Option.some.inj h1).symm)]
  ·rfl
def findF:Nat→Nat→List Int→Int
 |0,_,_=> -1
 |f+1,i,rf=>bif decide (nth ae rf i=0) then (i:Int) else findF f (i+1) rf
def oe (rf:List Int):Int:=findF 56 8 rf
theorem UB:∀(f i:Nat) (rf:List Int),findF f i rf= -1∨((i:Int)≤findF f i rf∧findF f i rf < i+f)
 |0,_,_=>.inl rfl
 |f+1,i,rf=>by
  unfold findF
  cases decide (nth ae rf i=0) with
  |true=>right;simp only [cond_true];omega
  |false=>
   simp only [cond_false]
   rcases UB f (i+1) rf with h |h
   ·exact .inl h
   ·right;omega
theorem UA (rf:List Int):oe rf= -1∨(8≤oe rf∧oe rf < 64):=UB 56 8 rf
def ym (sp:List Int×List Int) (fr:Int) (bu:List Int):Prop:=sp.1.length=64∧fr=8∧bu=[]
def VR (sp:List Int×List Int) (fr:Int) (bu:List Int):AV:=.int (oe sp.1)
def abo (sp:List Int×List Int) (fr:Int) (bu:List Int):List AV:=[]
def J0:Con where
 A:=[.a [.vz ae, .vz ae], .s .int, .s (.vz ae)]
 B:=[]
 pre:=fun x b=>ym (x.1) (x.2.1) (x.2.2)
 α:=fun _ _=>Unit
 φ:=fun _ _ _=>True
 r:=fun x b _=>VR (x.1) (x.2.1) (x.2.2)
 o:=fun x b _=>abo (x.1) (x.2.1) (x.2.2)
 nf:=0
set_option maxRecDepth 100000 in
theorem ad6:Has Tryz.prog 80 J0:=by
 refine Has.ofE (fun _=>true) (fun _=>false) (fun _=>false) (l:=[(55,oP),(119,P3)]) ⟨zJ,ad4,trivial⟩ (fn:=Tryz.f80) Tryz.func80 rfl (by decide) (cH rfl) ?_
 rintro ⟨⟨(dv:List Int),(eD:List Int)⟩,(fr:Int),(bu:List Int)⟩ _ (hp:ym (dv,eD) fr bu)
 show vc _ _ _ _ (entry [.a [.vz ae dv, .vz ae eD], .int fr, .s (.vz ae bu)] []) _
 obtain ⟨(h1:dv.length=64),rfl,rfl⟩:=hp
 refine ⟨⟨⟨trivial,trivial⟩,trivial⟩,fun x1 w1=>⟨fun w2=>absurd w2 (by decide),fun w3=>?_⟩⟩
 refine cI (l:=[(55,oP),(119,P3)]) (ex:=fun _=>true) (wr:=fun _=>false) (pt:=fun _=>false) ⟨zJ,ad4,trivial⟩ [.s 1, .s 2, .s 3, .s 7, .b 1003] (fun i:Nat=>[(.s 8, .int i)]) (fun i=>i≤56∧findF (56 - i) (8+i) dv=oe dv) (fun i=>56 - i) 0 [] ⟨Nat.zero_le _,rfl⟩ (by repeat' (first |exact trivial |rfl |exact rfl |exact fH (Nat.zero_add _) |apply And.intro)) ?_
 rintro i ⟨hi,hr⟩
 have XR:i < 56→(8+(8 - 8+(i:Int)) % 56).toNat=8+i:=fun h=>by omega
 refine ⟨fun w1=>⟨⟨?_,?_⟩,⟨?_,?_⟩,⟨?_,?_⟩,⟨?_,?_⟩,⟨?_,?_⟩,tv,fun w2=>⟨⟨⟨tv,tv,tv⟩,?_⟩,fun x3 w4=>⟨fun w5=>?_,fun w6=>⟨⟨?_,?_⟩,?_⟩⟩⟩,fun w7=>⟨⟨?_,?_⟩,?_⟩⟩,fun w8=>?_⟩
 all_goals first|refine au ?_|refine aw ?_|exact sa|(dsimp only [oP,r6];omega)|(dsimp only [P3,zx];omega)|exact sb|exact Nat.zero_le _|skip
 ·have bM:i < 56:=by have:=cw w1;omega
  have h2:=cw w2
  rw [XR bM] at h2
  refine ⟨[],[],_,_,_,rfl,rp,(),tv,?_,?_,rfl⟩
  ·show AV.int (8+(8 - 8+(i:Int)) % 56)=AV.int (oe dv)
   rw [←hr,show 56 - i=(55 - i)+1 by omega,findF,decide_eq_true h2]
   show AV.int _=AV.int ((8+i:Nat):Int)
   rw [show 8+(8 - 8+(i:Int)) % 56=((8+i:Nat):Int) by omega]
  ·rfl
 ·exact absurd (show true=false from w6) (by decide)
 ·have bM:i < 56:=by have:=cw w1;omega
  have h2:=ca w7
  rw [XR bM] at h2
  refine ⟨(i+1),[],?_,?_,?_⟩
  rotate_right
  ·repeat' (first |exact trivial |rfl |exact rfl |exact fH List.length_append.symm |exact oK |apply And.intro)
  ·refine ⟨bM,?_⟩
   rw [←hr,show 56 - i=(56 - (i+1))+1 by omega,findF,decide_eq_false h2]
   rfl
  ·show 56 - (i+1) < 56 - i
   omega
 ·have FJ:i=56:=by have:¬((i:Int) < 56):=ca w8;omega
  subst FJ
  refine ⟨[],[],_,_,_,rfl,rp,(),tv,?_,?_,rfl⟩
  ·show AV.int (-1)=AV.int (oe dv)
   rw [←hr];rfl
  ·rfl
def vt (s:ax) (text:ByteArray) (i:Nat):Bool:=decide (nth aa s.rows i=text)&&(decide (nth ae s.last i < s.bY)&&decide (nth ae s.refs i < s.bY))
def sq:Nat→Nat→ax→ByteArray→Int
 |0,_,_,_=> -1
 |f+1,i,s,text=>bif vt s text i then (i:Int) else sq f (i+1) s text
def qW (s:ax) (text:ByteArray):Int:=sq 56 8 s text
theorem S7:∀(f i:Nat) (s:ax) (text:ByteArray),sq f i s text= -1∨((i:Int)≤sq f i s text∧sq f i s text < i+f)
 |0,_,_,_=>.inl rfl
 |f+1,i,s,text=>by
  unfold sq
  cases vt s text i with
  |true=>right;simp only [cond_true];omega
  |false=>
   simp only [cond_false]
   rcases S7 f (i+1) s text with h |h
   ·exact .inl h
   ·right;omega
theorem S6 (s:ax) (text:ByteArray):qW s text= -1∨(8≤qW s text∧qW s text < 64):=S7 56 8 s text
def yi (S:ax) (text:ByteArray):Prop:=S.n64
def VK (S:ax) (text:ByteArray):AV:=.int (qW S text)
def abi (S:ax) (text:ByteArray):List AV:=[]
def JX:Con where
 A:=[.a xw, .s .str]
 B:=[]
 pre:=fun x b=>yi (x.1) (x.2)
 α:=fun _ _=>Unit
 φ:=fun _ _ _=>True
 r:=fun x b _=>VK (x.1) (x.2)
 o:=fun x b _=>abi (x.1) (x.2)
 nf:=0
set_option maxRecDepth 100000 in
theorem ad1:Has Tryz.prog 79 JX:=by
 refine Has.ofE (fun _=>true) (fun _=>false) (fun _=>false) (l:=[]) trivial (fn:=Tryz.f79) Tryz.func79 rfl (by decide) (cH rfl) ?_
 rintro ⟨⟨(ai:List ByteArray),(aj:List Int),(ak:List Int),(an:Int),(ag:List Pt),(ao:Int),(ah:List Pt),(aq:Bool)⟩,(text:ByteArray)⟩ _ (hp:yi (ai,aj,ak,an,ag,ao,ah,aq) text)
 show vc _ _ _ _ (entry [.a [.vz aa ai, .vz ae aj, .vz ae ak, .int an, .vz ab ag, .int ao, .vz ab ah, .q aq], .str text] []) _
 obtain ⟨l1,l2,l3⟩:=hp
 dsimp only [ax.rows,ax.refs,ax.last] at l1 l2 l3
 refine cI (l:=[]) (ex:=fun _=>true) (wr:=fun _=>false) (pt:=fun _=>false) trivial [.s 1, .s 2, .b 1002] (fun i:Nat=>[(.s 5, .int ((8+i:Nat):Int))]) (fun i=>i≤56∧sq (56 - i) (8+i) (ai,aj,ak,an,ag,ao,ah,aq) text=qW (ai,aj,ak,an,ag,ao,ah,aq) text) (fun i=>56 - i) 0 [] ⟨Nat.zero_le _,rfl⟩ (by repeat' (first |exact trivial |rfl |exact rfl |exact fH (Nat.zero_add _) |apply And.intro)) ?_
 rintro i ⟨hi,hr⟩
 have XR:(((8+i:Nat):Int)).toNat=8+i:=rfl
 have ael:(((8+i:Nat):Int) < 64)↔i < 56:=by omega
 have cJ:i < 56→sq (56 - i) (8+i) (ai,aj,ak,an,ag,ao,ah,aq) text=bif vt (ai,aj,ak,an,ag,ao,ah,aq) text (8+i) then ((8+i:Nat):Int) else sq (55 - i) (8+i+1) (ai,aj,ak,an,ag,ao,ah,aq) text:=fun h=>by
  rw [show 56 - i=(55 - i)+1 by omega,sq]
 refine ⟨fun w1=>⟨[.s 2],[.s 10],rfl,[.s 10, .b 1002],[.s 11],rfl,[.s 5],[.s 12],rfl,[.s 11, .s 12],[.s 13],rfl,⟨?_,?_⟩,[.s 13],[.s 14],rfl,[.s 1],[.s 15],rfl,[.s 14, .s 15],[.s 16],rfl,[.s 16],[.s 17],rfl,tv,fun w2=>⟨[.s 17, .s 2],[.s 18],rfl,[.s 17, .s 18],[.s 19],rfl,[.s 17, .s 19, .b 1002],[.s 20],rfl,[.s 17, .s 5],[.s 21],rfl,[.s 17, .s 20, .s 21],[.s 22],rfl,⟨?_,?_⟩,[.s 17, .s 22],[.s 23],rfl,[.s 17, .s 2],[.s 24],rfl,[.s 17, .s 24, .b 1002],[.s 25],rfl,[.s 17, .s 23, .s 25],[.s 26],rfl,[.s 17, .s 26],[.s 27],rfl,[.s 27],[.s 28],rfl,tv,fun w3=>⟨[.s 28, .s 2],[.s 29],rfl,[.s 28, .s 29],[.s 30],rfl,[.s 28, .s 30, .b 1002],[.s 31],rfl,[.s 28, .s 5],[.s 32],rfl,[.s 28, .s 31, .s 32],[.s 33],rfl,⟨?_,?_⟩,[.s 28, .s 33],[.s 34],rfl,[.s 28, .s 2],[.s 35],rfl,[.s 28, .s 35, .b 1002],[.s 36],rfl,[.s 28, .s 34, .s 36],[.s 37],rfl,[.s 28, .s 37],[.s 38],rfl,fun w4=>?_,fun w5=>⟨⟨?_,?_⟩,?_⟩⟩,fun w6=>⟨[.s 28],[.s 29],rfl,[.s 28],[.s 30],rfl,[.s 28],[.s 31],rfl,[.s 28],[.s 32],rfl,[.s 28],[.s 33],rfl,[.s 28],[.s 34],rfl,[.s 28],[.s 35],rfl,[.s 28],[.s 36],rfl,[.s 28],[.s 37],rfl,[.s 28, .s 37],[.s 38],rfl,⟨?_,?_⟩,?_⟩⟩,fun w7=>⟨[.s 17],[.s 18],rfl,[.s 17],[.s 19],rfl,[.s 17],[.s 20],rfl,[.s 17],[.s 21],rfl,[.s 17],[.s 22],rfl,[.s 17],[.s 23],rfl,[.s 17],[.s 24],rfl,[.s 17],[.s 25],rfl,[.s 17],[.s 26],rfl,[.s 17, .s 26],[.s 27],rfl,[.s 27],[.s 28],rfl,[.s 28],[.s 29],rfl,[.s 28],[.s 30],rfl,[.s 28],[.s 31],rfl,[.s 28],[.s 32],rfl,[.s 28],[.s 33],rfl,[.s 28],[.s 34],rfl,[.s 28],[.s 35],rfl,[.s 28],[.s 36],rfl,[.s 28],[.s 37],rfl,[.s 28, .s 37],[.s 38],rfl,⟨?_,?_⟩,?_⟩⟩,fun w8=>?_⟩
 all_goals first|refine au ?_|refine aw ?_|exact sa|exact sb|skip
 ·have bM:i < 56:=ael.1 (cw w1)
  rw [XR] at w2 w3 w4
  refine ⟨[],[],_,_,_,rfl,rp,(),tv,?_,?_,rfl⟩
  ·show AV.int ((8+i:Nat):Int)=AV.int (qW (ai,aj,ak,an,ag,ao,ah,aq) text)
   have e:vt (ai,aj,ak,an,ag,ao,ah,aq) text (8+i)=true:=by show (decide _&&(decide _&&decide _))=true;rw [w2,w3,w4];rfl
   rw [←hr,cJ bM,e]
   rfl
  ·rfl
 ·have bM:i < 56:=ael.1 (cw w1)
  rw [XR] at w2 w3 w5
  have e:vt (ai,aj,ak,an,ag,ao,ah,aq) text (8+i)=false:=by show (decide _&&(decide _&&decide _))=false;rw [w2,w3,w5];rfl
  refine ⟨(i+1),[],?_,?_,?_⟩
  rotate_right
  ·repeat' (first |exact trivial |rfl |exact rfl |exact fH List.length_append.symm |exact oK |apply And.intro)
  ·refine ⟨bM,?_⟩
   rw [←hr,cJ bM,e,show 56 - (i+1)=55 - i by omega]
   rfl
  ·show 56 - (i+1) < 56 - i
   omega
 ·have bM:i < 56:=ael.1 (cw w1)
  rw [XR] at w2 w6
  have e:vt (ai,aj,ak,an,ag,ao,ah,aq) text (8+i)=false:=by show (decide _&&(decide _&&decide _))=false;rw [w2,w6];rfl
  refine ⟨(i+1),[],?_,?_,?_⟩
  rotate_right
  ·repeat' (first |exact trivial |rfl |exact rfl |exact fH List.length_append.symm |exact oK |apply And.intro)
  ·refine ⟨bM,?_⟩
   rw [←hr,cJ bM,e,show 56 - (i+1)=55 - i by omega]
   rfl
  ·show 56 - (i+1) < 56 - i
   omega
 ·have bM:i < 56:=ael.1 (cw w1)
  rw [XR] at w7
  have e:vt (ai,aj,ak,an,ag,ao,ah,aq) text (8+i)=false:=by show (decide _&&(decide _&&decide _))=false;rw [w7];rfl
  refine ⟨(i+1),[],?_,?_,?_⟩
  rotate_right
  ·repeat' (first |exact trivial |rfl |exact rfl |exact fH List.length_append.symm |exact oK |apply And.intro)
  ·refine ⟨bM,?_⟩
   rw [←hr,cJ bM,e,show 56 - (i+1)=55 - i by omega]
   rfl
  ·show 56 - (i+1) < 56 - i
   omega
 ·have FJ:i=56:=by
   have h3:¬(i < 56):=fun h=>ca w8 (ael.2 h)
   omega
  subst FJ
  refine ⟨[],[],_,_,_,rfl,rp,(),tv,?_,?_,rfl⟩
  ·show AV.int (-1)=AV.int (qW (ai,aj,ak,an,ag,ao,ah,aq) text)
   rw [←hr];rfl
  ·rfl
theorem KA {b:Bool} (h:(!b)=true):b=false:=by cases b with |true=>cases h |false=>rfl
theorem oD {b:Bool} (h:(!b)=false):b=true:=by cases b with |true=>rfl |false=>cases h
def bA (s:ax) (p:Pt):ByteArray×Bool:=
 bif ar p then (⟨#[]⟩,true) else bif iP p (nth aa s.rows p.1.toNat) then (nth aa s.rows p.1.toNat,true) else (⟨#[]⟩,false)
theorem fL {s:ax} {p:Pt} (h:ar p=true):bA s p=(⟨#[]⟩,true):=by unfold bA;rw [h];rfl
theorem yg {s:ax} {p:Pt} (h:ar p=false) (h2:iP p (nth aa s.rows p.1.toNat)=true):bA s p=(nth aa s.rows p.1.toNat,true):=by unfold bA;rw [h,h2];rfl
theorem LQ {s:ax} {p:Pt} (h:ar p=false) (h2:iP p (nth aa s.rows p.1.toNat)=false):bA s p=(⟨#[]⟩,false):=by unfold bA;rw [h,h2];rfl
def ax.szs (s:ax):Prop:=∀x∈s.rows,x.size≤1000000
def fN (S:ax) (p:Pt):Prop:=S.szs∧0≤p.1∧p.1 < S.rows.length
def VJ (S:ax) (p:Pt):AV:=.t [.s (.str (bA S p).1), .s (.q (bA S p).2)]
def abh (S:ax) (p:Pt):List AV:=[]
def et:Con where
 A:=[.a xw, .a [.int, .int, .int, .int, .int]]
 B:=[]
 pre:=fun x b=>fN (x.1) (x.2)
 α:=fun _ _=>Unit
 φ:=fun _ _ _=>True
 r:=fun x b _=>VJ (x.1) (x.2)
 o:=fun x b _=>abh (x.1) (x.2)
 nf:=0
set_option maxRecDepth 100000 in
theorem lZ:Has Tryz.prog 29 et:=by
 refine Has.ofE (fun _=>true) (fun _=>false) (fun _=>false) (l:=[(26,bc),(57,sJ)]) ⟨cr,MK,trivial⟩ (fn:=Tryz.f29) Tryz.func29 rfl (by decide) (cH rfl) ?_
 rintro ⟨⟨(ai:List ByteArray),(aj:List Int),(ak:List Int),(an:Int),(ag:List Pt),(ao:Int),(ah:List Pt),(aq:Bool)⟩,⟨(p1:Int),(p2:Int),(p3:Int),(p4:Int),(p5:Int)⟩⟩ _ (hp:fN (ai,aj,ak,an,ag,ao,ah,aq) (p1,p2,p3,p4,p5))
 show vc _ _ _ _ (entry [.a [.vz aa ai, .vz ae aj, .vz ae ak, .int an, .vz ab ag, .int ao, .vz ab ah, .q aq], .a [.int p1, .int p2, .int p3, .int p4, .int p5]] []) _
 obtain ⟨h1,(h2:0≤p1),(h3:p1 < ai.length)⟩:=hp
 have db:(nth aa ai p1.toNat).size≤1000000:=h1 _ (bS (ek:=aa) (show p1.toNat < ai.length by omega))
 refine ⟨⟨⟨⟨tv,tv,tv,tv,tv,tv⟩,tv⟩,tv⟩,fun x1 w2=>⟨fun w3=>?_,fun w4=>⟨[.s 3, .b 1003],[.s 8],rfl,[.s 2],[.s 9],rfl,[.s 9, .b 1002],[.s 10],rfl,[.s 3],[.s 11],rfl,[.s 11, .b 1003],[.s 12],rfl,[.s 10, .s 12],[.s 13],rfl,⟨?_,?_⟩,[.s 13],[.s 14],rfl,[.s 8, .s 14],[.s 15],rfl,⟨⟨⟨tv,tv,tv,tv,tv,tv⟩,tv,tv⟩,?_⟩,?_,fun x5 w6=>⟨[.s 15],[.s 16],rfl,fun w7=>?_,fun w8=>⟨⟨?_,?_⟩,?_⟩⟩⟩⟩⟩
 all_goals first|refine au ?_|refine aw ?_|exact sa|(dsimp only [bc,bW];omega)|(dsimp only [sJ,nP];omega)|exact sb|(show ((nth aa ai p1.toNat).size:Int)≤1000000000000;omega)|skip
 ·refine ⟨[],[],_,_,_,rfl,rp,(),tv,?_,?_,rfl⟩
  ·show AV.t [.s (.str ⟨#[]⟩), .s (.q true)]=AV.t [.s (.str (bA (ai,aj,ak,an,ag,ao,ah,aq) (p1,p2,p3,p4,p5)).1), .s (.q (bA (ai,aj,ak,an,ag,ao,ah,aq) (p1,p2,p3,p4,p5)).2)]
   rw [fL w3]
  ·rfl
 ·refine ⟨[],[],_,_,_,rfl,rp,(),tv,?_,?_,rfl⟩
  ·show AV.t [.s (.str ⟨#[]⟩), .s (.q false)]=AV.t [.s (.str (bA (ai,aj,ak,an,ag,ao,ah,aq) (p1,p2,p3,p4,p5)).1), .s (.q (bA (ai,aj,ak,an,ag,ao,ah,aq) (p1,p2,p3,p4,p5)).2)]
   rw [LQ w4 (KA w7)]
  ·rfl
 ·refine ⟨[],[],_,_,_,rfl,rp,(),tv,?_,?_,rfl⟩
  ·show AV.t [.s (.str (nth aa ai p1.toNat)), .s (.q true)]=AV.t [.s (.str (bA (ai,aj,ak,an,ag,ao,ah,aq) (p1,p2,p3,p4,p5)).1), .s (.q (bA (ai,aj,ak,an,ag,ao,ah,aq) (p1,p2,p3,p4,p5)).2)]
   rw [yg w4 (oD w8)]
  ·rfl
end GL
namespace GL
def AY (s:ax) (text:ByteArray) (level:Int):Int:=bif s.same&&decide (level=0) then qW s text else -1
def cY (s:ax) (text:ByteArray) (level:Int):Int:=bif decide (AY s text level < 0) then oe s.refs else AY s text level
def uN (s:ax) (text:ByteArray) (k:Nat):ax:=
 (s.rows.set k text,s.refs.set k (xu (nth ae s.refs k+1)),s.last.set k s.bY,s.bY,s.gone,s.bT,s.dead,s.same)
def a6 (s:ax) (text:ByteArray) (level:Int):ax×Pt×Bool:=
 bif decide (cY s text level < 0) then (s,bL,false)
 else bif (gi (cY s text level) s.bY level text).2 then (uN s text (cY s text level).toNat,(gi (cY s text level) s.bY level text).1,true)
 else (s,bL,false)
theorem wo {s:ax} {text:ByteArray} {level:Int} (h1:s.same=true) (h2:decide (level=0)=true) (h3:decide (qW s text < 0)=true):cY s text level=oe s.refs:=by
 unfold cY AY;rw [h1,h2,show (true&&true)=true from rfl,cond_true,h3];rfl
theorem AX {s:ax} {text:ByteArray} {level:Int} (h1:s.same=true) (h2:decide (level=0)=true) (h3:decide (qW s text < 0)=false):cY s text level=qW s text:=by
 unfold cY AY;rw [h1,h2,show (true&&true)=true from rfl,cond_true,h3];rfl
theorem wm {s:ax} {text:ByteArray} {level:Int} (h2:decide (level=0)=false):cY s text level=oe s.refs:=by
 unfold cY AY;rw [h2,Bool.and_false];rfl
theorem wk {s:ax} {text:ByteArray} {level:Int} (h1:s.same=false):cY s text level=oe s.refs:=by
 unfold cY AY;rw [h1,Bool.false_and];rfl
theorem nA {s:ax} {text:ByteArray} {level a:Int} (e:cY s text level=a) (h:decide (a < 0)=true):a6 s text level=(s,bL,false):=by
 unfold a6;rw [e,h];rfl
theorem my {s:ax} {text:ByteArray} {level a:Int} (e:cY s text level=a) (h:decide (a < 0)=false) (h2:(!(gi a s.bY level text).2)=true):a6 s text level=(s,bL,false):=by
 unfold a6;rw [e,h,KA h2];rfl
theorem oT {s:ax} {text:ByteArray} {level a:Int} (e:cY s text level=a) (h:decide (a < 0)=false) (h2:(!(gi a s.bY level text).2)=false):a6 s text level=(uN s text a.toNat,(gi a s.bY level text).1,true):=by
 unfold a6;rw [e,h,oD h2];rfl
def nM (S:ax) (text:ByteArray) (level:Int):Prop:=S.n64∧(text.size:Int)≤1000000000000
def Q8 (S:ax) (text:ByteArray) (level:Int):AV:=.t [.a (lA 0 1 2 3 4 (a6 S text level).1),ptA (a6 S text level).2.1, .s (.q (a6 S text level).2.2)]
def WA (S:ax) (text:ByteArray) (level:Int):List AV:=GD (a6 S text level).1
def nb:Con where
 A:=[.a (stB 0 1 2 3 4), .s .str, .s .int]
 B:=[.r aa, .r ae, .r ae, .r ab, .r ab]
 pre:=fun x b=>whole x.1.1 x.1.2.1 x.1.2.2.1 x.1.2.2.2.2.1 x.1.2.2.2.2.2.2.1 (b.1) (b.2.1) (b.2.2.1) (b.2.2.2.1) (b.2.2.2.2)∧nM ((b.1,b.2.1,b.2.2.1,x.1.2.2.2.1,b.2.2.2.1,x.1.2.2.2.2.2.1,b.2.2.2.2,x.1.2.2.2.2.2.2.2)) (x.2.1) (x.2.2)
 α:=fun _ _=>Unit
 φ:=fun _ _ _=>True
 r:=fun x b _=>Q8 ((b.1,b.2.1,b.2.2.1,x.1.2.2.2.1,b.2.2.2.1,x.1.2.2.2.2.2.1,b.2.2.2.2,x.1.2.2.2.2.2.2.2)) (x.2.1) (x.2.2)
 o:=fun x b _=>WA ((b.1,b.2.1,b.2.2.1,x.1.2.2.2.1,b.2.2.2.1,x.1.2.2.2.2.2.1,b.2.2.2.2,x.1.2.2.2.2.2.2.2)) (x.2.1) (x.2.2)
 nf:=0
set_option maxRecDepth 100000 in
theorem CK:Has Tryz.prog 48 nb:=by
 refine Has.ofE (fun _=>true) (fun d=>Nat.beq d 59) (fun _=>false) (l:=[(79,JX),(80,J0),(53,oR)]) ⟨ad1,ad6,FG,trivial⟩ (fn:=Tryz.f48) Tryz.func48 rfl (by decide) (cH rfl) ?_
 rintro ⟨⟨(AS:Nat),(AR:Nat),(AQ:Nat),(an:Int),(AO:Nat),(ao:Int),(AN:Nat),(aq:Bool)⟩,(text:ByteArray),(level:Int)⟩ ⟨(ai:List ByteArray),(aj:List Int),(ak:List Int),(ag:List Pt),(ah:List Pt)⟩ ⟨⟨(gr:AS=List.length ai),(gq:AR=List.length aj),(gp:AQ=List.length ak),(gn:AO=List.length ag),(gm:AN=List.length ah)⟩,(hp:nM (ai,aj,ak,an,ag,ao,ah,aq) text level)⟩
 subst gr gq gp gn gm
 show vc _ _ _ _ (entry [.a [.xs 0 1 0 ai.length, .xs 1 1 0 aj.length, .xs 2 1 0 ak.length, .int an, .xs 3 5 0 ag.length, .int ao, .xs 4 5 0 ah.length, .q aq], .str text, .int level] [.rs aa ai, .rs ae aj, .rs ae ak, .rs ab ag, .rs ab ah]) _
 obtain ⟨⟨l1,l2,l3⟩,hs⟩:=hp
 dsimp only [ax.rows,ax.refs,ax.last] at l1 l2 l3
 have hL:=S6 (ai,aj,ak,an,ag,ao,ah,aq) text
 have hF:=UA aj
 refine ⟨tv,fun w1=>⟨fun w2=>⟨⟨⟨⟨⟨?_,?_⟩,⟨?_,?_⟩,⟨?_,?_⟩,tv,⟨?_,?_⟩,tv,⟨?_,?_⟩,tv,tv⟩,tv,tv⟩,?_,?_,?_⟩,fun x3 w4=>⟨fun w5=>⟨tv,⟨⟨⟨⟨?_,?_⟩,⟨?_,?_⟩,tv⟩,tv,⟨?_,?_⟩,tv⟩,?_,?_,?_⟩,fun x6 w7=>⟨fun w8=>?_,fun w9=>⟨⟨⟨tv,tv,tv,tv,tv⟩,?_⟩,fun x10 ka=>⟨fun dC=>?_,fun iA=>⟨⟨?_,?_⟩,?_,[.s 3],[.s 49],rfl,[.s 49],[.s 50],rfl,[.s 50, .b 1003],[.s 51],rfl,[.s 9],[.s 52],rfl,[.s 3],[.s 53],rfl,[.s 53],[.s 54],rfl,[.s 54, .b 1003],[.s 55],rfl,[.s 9],[.s 56],rfl,[.s 55, .s 56],[.s 57],rfl,⟨?_,?_⟩,[.s 57, .b 1],[.s 58],rfl,?_,[.s 58],[.s 59],rfl,[.s 51, .s 52],[.s 60],rfl,⟨?_,?_⟩,[.s 60, .s 59, .b 1],[.b 1],rfl,?_,⟨?_,?_⟩,?_,[.s 3, .b 1003],[.s 68],rfl,[.s 10, .b 1010],[.s 69],rfl,[.s 6, .s 68, .b 1006],[.b 1006],rfl,[.s 7, .s 69, .b 1007],[.b 1007],rfl,[],[.s 8],rfl,?_⟩⟩⟩⟩⟩,fun gx=>⟨fun oU=>?_,fun j9=>⟨⟨⟨tv,tv,tv,tv,tv⟩,?_⟩,fun x17 qI=>⟨fun ot=>?_,fun um=>⟨⟨?_,?_⟩,?_,[.s 3],[.s 49],rfl,[.s 49],[.s 50],rfl,[.s 50, .b 1003],[.s 51],rfl,[.s 9],[.s 52],rfl,[.s 3],[.s 53],rfl,[.s 53],[.s 54],rfl,[.s 54, .b 1003],[.s 55],rfl,[.s 9],[.s 56],rfl,[.s 55, .s 56],[.s 57],rfl,⟨?_,?_⟩,[.s 57, .b 1],[.s 58],rfl,?_,[.s 58],[.s 59],rfl,[.s 51, .s 52],[.s 60],rfl,⟨?_,?_⟩,[.s 60, .s 59, .b 1],[.b 1],rfl,?_,⟨?_,?_⟩,?_,[.s 3, .b 1003],[.s 68],rfl,[.s 10, .b 1010],[.s 69],rfl,[.s 6, .s 68, .b 1006],[.b 1006],rfl,[.s 7, .s 69, .b 1007],[.b 1007],rfl,[],[.s 8],rfl,?_⟩⟩⟩⟩⟩⟩,fun zg=>⟨fun zf=>⟨tv,⟨⟨⟨⟨?_,?_⟩,⟨?_,?_⟩,tv⟩,tv,⟨?_,?_⟩,tv⟩,?_,?_,?_⟩,fun x23 rl=>⟨fun w25=>?_,fun EL=>⟨⟨⟨tv,tv,tv,tv,tv⟩,?_⟩,fun x27 w28=>⟨fun w29=>?_,fun w30=>⟨⟨?_,?_⟩,?_,[.s 3],[.s 49],rfl,[.s 49],[.s 50],rfl,[.s 50, .b 1003],[.s 51],rfl,[.s 9],[.s 52],rfl,[.s 3],[.s 53],rfl,[.s 53],[.s 54],rfl,[.s 54, .b 1003],[.s 55],rfl,[.s 9],[.s 56],rfl,[.s 55, .s 56],[.s 57],rfl,⟨?_,?_⟩,[.s 57, .b 1],[.s 58],rfl,?_,[.s 58],[.s 59],rfl,[.s 51, .s 52],[.s 60],rfl,⟨?_,?_⟩,[.s 60, .s 59, .b 1],[.b 1],rfl,?_,⟨?_,?_⟩,?_,[.s 3, .b 1003],[.s 68],rfl,[.s 10, .b 1010],[.s 69],rfl,[.s 6, .s 68, .b 1006],[.b 1006],rfl,[.s 7, .s 69, .b 1007],[.b 1007],rfl,[],[.s 8],rfl,?_⟩⟩⟩⟩⟩,fun w31=>⟨fun w32=>?_,fun w33=>⟨⟨⟨tv,tv,tv,tv,tv⟩,?_⟩,fun x34 w35=>⟨fun w36=>?_,fun w37=>⟨⟨?_,?_⟩,?_,[.s 3],[.s 49],rfl,[.s 49],[.s 50],rfl,[.s 50, .b 1003],[.s 51],rfl,[.s 9],[.s 52],rfl,[.s 3],[.s 53],rfl,[.s 53],[.s 54],rfl,[.s 54, .b 1003],[.s 55],rfl,[.s 9],[.s 56],rfl,[.s 55, .s 56],[.s 57],rfl,⟨?_,?_⟩,[.s 57, .b 1],[.s 58],rfl,?_,[.s 58],[.s 59],rfl,[.s 51, .s 52],[.s 60],rfl,⟨?_,?_⟩,[.s 60, .s 59, .b 1],[.b 1],rfl,?_,⟨?_,?_⟩,?_,[.s 3, .b 1003],[.s 68],rfl,[.s 10, .b 1010],[.s 69],rfl,[.s 6, .s 68, .b 1006],[.b 1006],rfl,[.s 7, .s 69, .b 1007],[.b 1007],rfl,[],[.s 8],rfl,?_⟩⟩⟩⟩⟩⟩,fun w38=>⟨fun w39=>⟨tv,⟨⟨⟨⟨?_,?_⟩,⟨?_,?_⟩,tv⟩,tv,⟨?_,?_⟩,tv⟩,?_,?_,?_⟩,fun x40 w41=>⟨fun w42=>?_,fun w43=>⟨⟨⟨tv,tv,tv,tv,tv⟩,?_⟩,fun x44 w45=>⟨fun w46=>?_,fun w47=>⟨⟨?_,?_⟩,?_,[.s 3],[.s 49],rfl,[.s 49],[.s 50],rfl,[.s 50, .b 1003],[.s 51],rfl,[.s 9],[.s 52],rfl,[.s 3],[.s 53],rfl,[.s 53],[.s 54],rfl,[.s 54, .b 1003],[.s 55],rfl,[.s 9],[.s 56],rfl,[.s 55, .s 56],[.s 57],rfl,⟨?_,?_⟩,[.s 57, .b 1],[.s 58],rfl,?_,[.s 58],[.s 59],rfl,[.s 51, .s 52],[.s 60],rfl,⟨?_,?_⟩,[.s 60, .s 59, .b 1],[.b 1],rfl,?_,⟨?_,?_⟩,?_,[.s 3, .b 1003],[.s 68],rfl,[.s 10, .b 1010],[.s 69],rfl,[.s 6, .s 68, .b 1006],[.b 1006],rfl,[.s 7, .s 69, .b 1007],[.b 1007],rfl,[],[.s 8],rfl,?_⟩⟩⟩⟩⟩,fun w48=>⟨fun w49=>?_,fun w50=>⟨⟨⟨tv,tv,tv,tv,tv⟩,?_⟩,fun x51 w52=>⟨fun w53=>?_,fun w54=>⟨⟨?_,?_⟩,?_,[.s 3],[.s 49],rfl,[.s 49],[.s 50],rfl,[.s 50, .b 1003],[.s 51],rfl,[.s 9],[.s 52],rfl,[.s 3],[.s 53],rfl,[.s 53],[.s 54],rfl,[.s 54, .b 1003],[.s 55],rfl,[.s 9],[.s 56],rfl,[.s 55, .s 56],[.s 57],rfl,⟨?_,?_⟩,[.s 57, .b 1],[.s 58],rfl,?_,[.s 58],[.s 59],rfl,[.s 51, .s 52],[.s 60],rfl,⟨?_,?_⟩,[.s 60, .s 59, .b 1],[.b 1],rfl,?_,⟨?_,?_⟩,?_,[.s 3, .b 1003],[.s 68],rfl,[.s 10, .b 1010],[.s 69],rfl,[.s 6, .s 68, .b 1006],[.b 1006],rfl,[.s 7, .s 69, .b 1007],[.b 1007],rfl,[],[.s 8],rfl,?_⟩⟩⟩⟩⟩⟩
 all_goals first|(exfalso;simp only [decide_eq_true_eq,decide_eq_false_iff_not] at *;omega)|refine au ?_|refine aw ?_|exact sa|(dsimp only [JX,yi];omega)|(dsimp only [J0,ym];omega)|(dsimp only [oR,mL];omega)|exact sb|exact Int.not_lt.1 (ca (by assumption))|(show (text.size:Int)≤1000000000000;omega)|(simp only [da,j0,decide_eq_true_eq,decide_eq_false_iff_not,List.length_set] at *;omega)|skip
 ·have e:=nA (wo (s:=(ai,aj,ak,an,ag,ao,ah,aq)) (text:=text) w1 w2 w5) w8
  refine ⟨[],[],_,_,_,rfl,rp,(),tv,?_,?_,rfl⟩
  ·show _=AV.t [.a (lA 0 1 2 3 4 (a6 (ai,aj,ak,an,ag,ao,ah,aq) text level).1),ptA (a6 (ai,aj,ak,an,ag,ao,ah,aq) text level).2.1, .s (.q (a6 (ai,aj,ak,an,ag,ao,ah,aq) text level).2.2)]
   rw [e];rfl
  ·show _=GD (a6 (ai,aj,ak,an,ag,ao,ah,aq) text level).1
   rw [e];rfl
 ·have e:=my (wo (s:=(ai,aj,ak,an,ag,ao,ah,aq)) (text:=text) w1 w2 w5) w9 dC
  refine ⟨[],[],_,_,_,rfl,rp,(),tv,?_,?_,rfl⟩
  ·show _=AV.t [.a (lA 0 1 2 3 4 (a6 (ai,aj,ak,an,ag,ao,ah,aq) text level).1),ptA (a6 (ai,aj,ak,an,ag,ao,ah,aq) text level).2.1, .s (.q (a6 (ai,aj,ak,an,ag,ao,ah,aq) text level).2.2)]
   rw [e];rfl
  ·show _=GD (a6 (ai,aj,ak,an,ag,ao,ah,aq) text level).1
   rw [e];rfl
 ·have e:=oT (wo (s:=(ai,aj,ak,an,ag,ao,ah,aq)) (text:=text) w1 w2 w5) w9 iA
  refine ⟨[],[],_,_,_,rfl,rp,(),tv,?_,?_,rfl⟩
  ·show _=AV.t [.a (lA 0 1 2 3 4 (a6 (ai,aj,ak,an,ag,ao,ah,aq) text level).1),ptA (a6 (ai,aj,ak,an,ag,ao,ah,aq) text level).2.1, .s (.q (a6 (ai,aj,ak,an,ag,ao,ah,aq) text level).2.2)]
   rw [e]
   exact congrArg (fun l=>AV.t [A0.a l,_,_]) (uT (s:=uN (ai,aj,ak,an,ag,ao,ah,aq) text _) List.length_set.symm List.length_set.symm List.length_set.symm rfl rfl rfl rfl rfl)
  ·show _=GD (a6 (ai,aj,ak,an,ag,ao,ah,aq) text level).1
   rw [e];rfl
 ·have e:=my (AX (s:=(ai,aj,ak,an,ag,ao,ah,aq)) (text:=text) w1 w2 gx) j9 ot
  refine ⟨[],[],_,_,_,rfl,rp,(),tv,?_,?_,rfl⟩
  ·show _=AV.t [.a (lA 0 1 2 3 4 (a6 (ai,aj,ak,an,ag,ao,ah,aq) text level).1),ptA (a6 (ai,aj,ak,an,ag,ao,ah,aq) text level).2.1, .s (.q (a6 (ai,aj,ak,an,ag,ao,ah,aq) text level).2.2)]
   rw [e];rfl
  ·show _=GD (a6 (ai,aj,ak,an,ag,ao,ah,aq) text level).1
   rw [e];rfl
 ·have e:=oT (AX (s:=(ai,aj,ak,an,ag,ao,ah,aq)) (text:=text) w1 w2 gx) j9 um
  refine ⟨[],[],_,_,_,rfl,rp,(),tv,?_,?_,rfl⟩
  ·show _=AV.t [.a (lA 0 1 2 3 4 (a6 (ai,aj,ak,an,ag,ao,ah,aq) text level).1),ptA (a6 (ai,aj,ak,an,ag,ao,ah,aq) text level).2.1, .s (.q (a6 (ai,aj,ak,an,ag,ao,ah,aq) text level).2.2)]
   rw [e]
   exact congrArg (fun l=>AV.t [A0.a l,_,_]) (uT (s:=uN (ai,aj,ak,an,ag,ao,ah,aq) text _) List.length_set.symm List.length_set.symm List.length_set.symm rfl rfl rfl rfl rfl)
  ·show _=GD (a6 (ai,aj,ak,an,ag,ao,ah,aq) text level).1
   rw [e];rfl
 ·have e:=nA (wm (s:=(ai,aj,ak,an,ag,ao,ah,aq)) (text:=text) zg) w25
  refine ⟨[],[],_,_,_,rfl,rp,(),tv,?_,?_,rfl⟩
  ·show _=AV.t [.a (lA 0 1 2 3 4 (a6 (ai,aj,ak,an,ag,ao,ah,aq) text level).1),ptA (a6 (ai,aj,ak,an,ag,ao,ah,aq) text level).2.1, .s (.q (a6 (ai,aj,ak,an,ag,ao,ah,aq) text level).2.2)]
   rw [e];rfl
  ·show _=GD (a6 (ai,aj,ak,an,ag,ao,ah,aq) text level).1
   rw [e];rfl
 ·have e:=my (wm (s:=(ai,aj,ak,an,ag,ao,ah,aq)) (text:=text) zg) EL w29
  refine ⟨[],[],_,_,_,rfl,rp,(),tv,?_,?_,rfl⟩
  ·show _=AV.t [.a (lA 0 1 2 3 4 (a6 (ai,aj,ak,an,ag,ao,ah,aq) text level).1),ptA (a6 (ai,aj,ak,an,ag,ao,ah,aq) text level).2.1, .s (.q (a6 (ai,aj,ak,an,ag,ao,ah,aq) text level).2.2)]
   rw [e];rfl
  ·show _=GD (a6 (ai,aj,ak,an,ag,ao,ah,aq) text level).1
   rw [e];rfl
 ·have e:=oT (wm (s:=(ai,aj,ak,an,ag,ao,ah,aq)) (text:=text) zg) EL w30
  refine ⟨[],[],_,_,_,rfl,rp,(),tv,?_,?_,rfl⟩
  ·show _=AV.t [.a (lA 0 1 2 3 4 (a6 (ai,aj,ak,an,ag,ao,ah,aq) text level).1),ptA (a6 (ai,aj,ak,an,ag,ao,ah,aq) text level).2.1, .s (.q (a6 (ai,aj,ak,an,ag,ao,ah,aq) text level).2.2)]
   rw [e]
   exact congrArg (fun l=>AV.t [A0.a l,_,_]) (uT (s:=uN (ai,aj,ak,an,ag,ao,ah,aq) text _) List.length_set.symm List.length_set.symm List.length_set.symm rfl rfl rfl rfl rfl)
  ·show _=GD (a6 (ai,aj,ak,an,ag,ao,ah,aq) text level).1
   rw [e];rfl
 ·have e:=nA (wk (s:=(ai,aj,ak,an,ag,ao,ah,aq)) (text:=text) (level:=level) w38) w42
  refine ⟨[],[],_,_,_,rfl,rp,(),tv,?_,?_,rfl⟩
  ·show _=AV.t [.a (lA 0 1 2 3 4 (a6 (ai,aj,ak,an,ag,ao,ah,aq) text level).1),ptA (a6 (ai,aj,ak,an,ag,ao,ah,aq) text level).2.1, .s (.q (a6 (ai,aj,ak,an,ag,ao,ah,aq) text level).2.2)]
   rw [e];rfl
  ·show _=GD (a6 (ai,aj,ak,an,ag,ao,ah,aq) text level).1
   rw [e];rfl
 ·have e:=my (wk (s:=(ai,aj,ak,an,ag,ao,ah,aq)) (text:=text) (level:=level) w38) w43 w46
  refine ⟨[],[],_,_,_,rfl,rp,(),tv,?_,?_,rfl⟩
  ·show _=AV.t [.a (lA 0 1 2 3 4 (a6 (ai,aj,ak,an,ag,ao,ah,aq) text level).1),ptA (a6 (ai,aj,ak,an,ag,ao,ah,aq) text level).2.1, .s (.q (a6 (ai,aj,ak,an,ag,ao,ah,aq) text level).2.2)]
   rw [e];rfl
  ·show _=GD (a6 (ai,aj,ak,an,ag,ao,ah,aq) text level).1
   rw [e];rfl
 ·have e:=oT (wk (s:=(ai,aj,ak,an,ag,ao,ah,aq)) (text:=text) (level:=level) w38) w43 w47
  refine ⟨[],[],_,_,_,rfl,rp,(),tv,?_,?_,rfl⟩
  ·show _=AV.t [.a (lA 0 1 2 3 4 (a6 (ai,aj,ak,an,ag,ao,ah,aq) text level).1),ptA (a6 (ai,aj,ak,an,ag,ao,ah,aq) text level).2.1, .s (.q (a6 (ai,aj,ak,an,ag,ao,ah,aq) text level).2.2)]
   rw [e]
   exact congrArg (fun l=>AV.t [A0.a l,_,_]) (uT (s:=uN (ai,aj,ak,an,ag,ao,ah,aq) text _) List.length_set.symm List.length_set.symm List.length_set.symm rfl rfl rfl rfl rfl)
  ·show _=GD (a6 (ai,aj,ak,an,ag,ao,ah,aq) text level).1
   rw [e];rfl
end GL
namespace GL
theorem fH {b sz n m:Nat} (h:n=m):some (AV.s (.xs b sz 0 n))=some (AV.s (.xs b sz 0 m)):=by rw [h]
theorem oK {b sz:Nat} {α:Type} {l:List α} {x:α}:some (AV.s (.xs b sz 0 (l.length+1)))=some (AV.s (.xs b sz 0 (l++[x]).length)):=by rw [List.length_append];rfl
theorem rq {P:Prop} (h:P:=by repeat' (first |exact trivial |rfl |exact rfl |exact fH List.length_append.symm |exact oK |apply And.intro)):P:=h
theorem ru {P:Prop} (h:P:=by repeat' (first |exact trivial |rfl |exact rfl |exact fH (Nat.zero_add _) |apply And.intro)):P:=h
theorem bP {ek:EK} {l:List (EK.Ty ek)} {i:Nat} (h:i < l.length):l.drop i=nth ek l i::l.drop (i+1):=by
 rw [List.drop_eq_getElem_cons h]
 congr 1
 have:=oB h
 rw [List.getElem?_eq_getElem h] at this
 exact Option.some.inj this
def C5 (s:ByteArray) (k:Nat):Bool:=decide ((k:Int) < s.size)&&(decide ((k:Int) < 9)&&(decide (bG s k≥48)&&decide (bG s k≤57)))
def iG (s:ByteArray):Nat→Int
 |0=>0
 |k+1=>10 * iG s k+(bG s k - 48)
def sr:Nat→ByteArray→Nat→Nat
 |0,_,k=>k
 |f+1,s,k=>bif C5 s k then sr f s (k+1) else k
def cR (s:ByteArray):Nat:=sr 9 s 0
def CI (s:ByteArray):Int×Int:=bif decide ((cR s:Int) > 1)&&decide (bG s 0=48) then (0,1) else (iG s (cR s),cR s)
theorem TD {s:ByteArray} {k:Nat} (hk:k≤9) (hd:C5 s k=false) (hl:sr (9 - k) s k=cR s):cR s=k:=by
 rw [←hl]
 by_cases h:k=9
 ·subst h;rfl
 ·rw [show 9 - k=(8 - k)+1 by omega,sr,hd];rfl
theorem SO {s:ByteArray} {k:Nat} (h1:iG s k < (10:Int) ^ k) (hk:k≤8):iG s k≤99999999:=by
 have:(10:Int) ^ k≤10 ^ 8:=by exact_mod_cast Nat.pow_le_pow_right (by omega) hk
 omega
theorem ai4 {s:ByteArray} {k:Nat} (e:cR s=k) (h1:decide ((k:Int) > 1)=true) (h2:decide (bG s 0=48)=true):CI s=(0,1):=by
 unfold CI;rw [e,h1,h2];rfl
theorem agV {s:ByteArray} {k:Nat} (e:cR s=k) (h1:decide ((k:Int) > 1)=false):CI s=(iG s k,(k:Int)):=by
 unfold CI;rw [e,h1];rfl
theorem agU {s:ByteArray} {k:Nat} (e:cR s=k) (h2:decide (bG s 0=48)=false):CI s=(iG s k,(k:Int)):=by
 unfold CI;rw [e,h2,Bool.and_false];rfl
theorem aha {s:ByteArray} {k:Nat} (h:decide ((k:Int) < s.size)=false):C5 s k=false:=by unfold C5;rw [h];rfl
theorem ajM {s:ByteArray} {k:Nat} (h:decide ((k:Int) < 9)=false):C5 s k=false:=by unfold C5;rw [h,Bool.false_and,Bool.and_false]
theorem ajL {s:ByteArray} {k:Nat} (h:decide (bG s ((k:Int).toNat)≥48)=false):C5 s k=false:=by
 have h:decide (bG s k≥48)=false:=h
 unfold C5;rw [h,Bool.false_and,Bool.and_false,Bool.and_false]
theorem ajK {s:ByteArray} {k:Nat} (h:decide (bG s ((k:Int).toNat)≤57)=false):C5 s k=false:=by
 have h:decide (bG s k≤57)=false:=h
 unfold C5;rw [h,Bool.and_false,Bool.and_false,Bool.and_false]
def k6 (s:ByteArray):Prop:=(s.size:Int)≤1000000000000
def BB (s:ByteArray):AV:=.t [.s (.int (CI s).1), .s (.int (CI s).2)]
def adh (s:ByteArray):List AV:=[]
def tX:Con where
 A:=[.s .str]
 B:=[]
 pre:=fun x b=>k6 x
 α:=fun _ _=>Unit
 φ:=fun _ _ _=>True
 r:=fun x b _=>BB x
 o:=fun x b _=>adh x
 nf:=0
set_option maxRecDepth 100000 in
theorem PD:Has Tryz.prog 113 tX:=by
 refine Has.ofE (fun _=>true) (fun _=>false) (fun _=>false) (l:=[]) trivial (fn:=Tryz.f113) Tryz.func113 rfl (by decide) (cH rfl) ?_
 rintro (s:ByteArray) _ (hp:k6 s)
 show vc _ _ _ _ (entry [.str s] []) _
 unfold k6 at hp
 refine cI (l:=[]) (ex:=fun _=>true) (wr:=fun _=>false) (pt:=fun _=>false) trivial [.s 0] (fun k:Nat=>[(.s 4, .int (iG s k)),(.s 5, .int k)]) (fun k=>k≤9∧k≤s.size∧(0≤iG s k∧iG s k < (10:Int) ^ k)∧sr (9 - k) s k=cR s) (fun k=>9 - k) 0 [] ⟨by omega,Nat.zero_le _,⟨Int.le_refl _,by show (0:Int) < 1;omega⟩,rfl⟩ ⟨⟨rfl,rfl,trivial⟩,⟨rfl,trivial⟩⟩ ?_
 rintro k ⟨hk,hks,⟨hn0,hn1⟩,hl⟩
 have hb:=xg s k
 have hsm:=SO hn1
 refine ⟨tv,fun w1=>⟨tv,fun w2=>⟨⟨?_,?_⟩,tv,fun w3=>⟨⟨?_,?_⟩,fun w4=>⟨⟨?_,?_⟩,⟨?_,?_⟩,⟨?_,?_⟩,⟨?_,?_⟩,⟨?_,?_⟩,⟨?_,?_⟩,?_⟩,fun w5=>⟨tv,fun w6=>⟨⟨?_,?_⟩,fun w7=>?_,fun w8=>?_⟩,fun w9=>?_⟩⟩,fun df=>⟨tv,fun ka=>⟨⟨?_,?_⟩,fun dC=>?_,fun iA=>?_⟩,fun gx=>?_⟩⟩,fun oU=>⟨tv,fun j9=>⟨⟨?_,?_⟩,fun wu=>?_,fun qI=>?_⟩,fun ot=>?_⟩⟩,fun um=>⟨tv,fun zg=>⟨⟨?_,?_⟩,fun zf=>?_,fun xv=>?_⟩,fun rl=>?_⟩⟩
 all_goals first|refine au ?_|refine aw ?_|exact sa|exact sb|skip
 ·have h4:C5 s k=true:=by unfold C5;rw [w1,w2,show decide (bG s k≥48)=true from w3,show decide (bG s k≤57)=true from w4];rfl
  have h2:=cw w2
  have h5:bG s k≥48:=cw w3
  have h6:bG s k≤57:=cw w4
  refine ⟨(k+1),[],?_,?_,?_⟩
  rotate_right
  ·exact rq
  ·refine ⟨by omega,by have:=cw w1;omega,⟨?_,?_⟩,?_⟩
   ·show 0≤10 * iG s k+(bG s k - 48);omega
   ·show 10 * iG s k+(bG s k - 48) < _;rw [Int.pow_succ];omega
   ·rw [←hl,show 9 - k=(9 - (k+1))+1 by omega,sr,h4];rfl
  ·show 9 - (k+1) < 9 - k;omega
 all_goals
  have e:cR s=k:=TD hk (by first |exact aha (by assumption) |exact ajM (by assumption) |exact ajL (by assumption) |exact ajK (by assumption)) hl
  refine ⟨[],[],_,_,_,rfl,rp,(),tv,?_,?_,rfl⟩
  ·(show _=BB s);unfold BB;first |(rw [agV e (by assumption)];rfl) |(rw [ai4 e (by assumption) (by assumption)];rfl) |(rw [agU e (by assumption)];rfl) |rfl
  ·rfl
def aA (s:ByteArray):Int×Bool:=bif decide ((CI s).2=0)||decide ((CI s).2≠(s.size:Int)) then (0,false) else ((CI s).1,true)
def gB (s:ByteArray):Prop:=(s.size:Int)≤1000000000000
def ye (s:ByteArray):AV:=.t [.s (.int (aA s).1), .s (.q (aA s).2)]
def abB (s:ByteArray):List AV:=[]
def jy:Con where
 A:=[.s .str]
 B:=[]
 pre:=fun x b=>gB x
 α:=fun _ _=>Unit
 φ:=fun _ _ _=>True
 r:=fun x b _=>ye x
 o:=fun x b _=>abB x
 nf:=0
set_option maxRecDepth 100000 in
theorem vB:Has Tryz.prog 74 jy:=by
 refine Has.ofE (fun _=>true) (fun _=>false) (fun _=>false) (l:=[(113,tX)]) ⟨PD,trivial⟩ (fn:=Tryz.f74) Tryz.func74 rfl (by decide) (cH rfl) ?_
 rintro (s:ByteArray) _ (hp:gB s)
 show vc _ _ _ _ (entry [.str s] []) _
 unfold gB at hp
 refine ⟨⟨⟨tv,tv⟩,?_⟩,fun x1 w2=>⟨tv,fun w3=>?_,fun w4=>⟨fun w5=>?_,fun w6=>?_⟩⟩⟩
 all_goals first|refine au ?_|refine aw ?_|exact sa|(dsimp only [tX,k6];omega)|exact sb|skip
 all_goals
  refine ⟨[],[],_,_,_,rfl,rp,(),tv,?_,?_,rfl⟩
  ·(show _=ye s);unfold ye;first |((simp only [aA, *];rfl)) |rfl
  ·rfl
def iR (s:ByteArray) (c:Int):Nat→List ByteArray×Nat
 |0=>([],0)
 |k+1=>bif decide (bG s k=c) then ((iR s c k).1++[s.extract (iR s c k).2 k],k+1) else iR s c k
def bf (s:ByteArray) (c:Int):List ByteArray:=(iR s c s.size).1++[s.extract (iR s c s.size).2 s.size]
theorem JP (s:ByteArray) (c:Int):∀k,(iR s c k).1.length≤k∧(iR s c k).2≤k
 |0=>⟨Nat.le_refl _,Nat.le_refl _⟩
 |k+1=>by
  have:=JP s c k
  unfold iR
  cases decide (bG s k=c) with
  |true=>simp only [cond_true,List.length_append,List.length_cons,List.length_nil];omega
  |false=>simp only [cond_false];omega
theorem tU (s:ByteArray) (c:Int):1≤(bf s c).length∧(bf s c).length≤s.size+1:=by
 have:=JP s c s.size
 simp only [bf,List.length_append,List.length_cons,List.length_nil]
 omega
theorem JO {s:ByteArray} {c:Int}:∀ {k:Nat},∀x∈(iR s c k).1,x.size≤s.size
 |0,x,h=>by cases h
 |k+1,x,h=>by
  unfold iR at h
  cases hd:decide (bG s k=c) with
  |true=>
   rw [hd,cond_true,List.mem_append] at h
   rcases h with h |h
   ·exact JO x h
   ·simp only [List.mem_cons,List.not_mem_nil,or_false] at h
    subst h
    rw [ByteArray.size_extract];omega
  |false=>rw [hd,cond_false] at h;exact JO x h
theorem ra {s:ByteArray} {c:Int}:∀x∈bf s c,x.size≤s.size:=by
 intro x h
 rw [bf,List.mem_append] at h
 rcases h with h |h
 ·exact JO x h
 ·simp only [List.mem_cons,List.not_mem_nil,or_false] at h
  subst h
  rw [ByteArray.size_extract];omega
def iJ (s:ByteArray) (c:Int):Prop:=s.size≤1000000
def BA (s:ByteArray) (c:Int):AV:=.s (.xs 0 1 0 (bf s c).length)
def HI (s:ByteArray) (c:Int):List AV:=[.rs aa (bf s c)]
def iv:Con where
 A:=[.s .str, .s .byte]
 B:=[]
 pre:=fun x b=>iJ (x.1) (x.2)
 α:=fun _ _=>Unit
 φ:=fun _ _ _=>True
 r:=fun x b _=>BA (x.1) (x.2)
 o:=fun x b _=>HI (x.1) (x.2)
 nf:=1
set_option maxRecDepth 100000 in
theorem tF:Has Tryz.prog 115 iv:=by
 refine Has.ofE (fun _=>true) (fun _=>false) (fun _=>false) (l:=[]) trivial (fn:=Tryz.f115) Tryz.func115 rfl (by decide) (cH rfl) ?_
 rintro ⟨(s:ByteArray),(c:Int)⟩ _ (hp:iJ s c)
 show vc _ _ _ _ (entry [.str s, .byte c] []) _
 unfold iJ at hp
 refine ⟨tv,?_⟩
 all_goals first|refine au ?_|refine aw ?_|exact sa|exact sb|skip
 refine cI (l:=[]) (ex:=fun _=>true) (wr:=fun _=>false) (pt:=fun _=>false) trivial [.s 0, .s 1] (fun y:Nat×List ByteArray×Nat=>[(.s 5, .s (.xs 1008 1 0 y.2.1.length)),(.s 6, .int y.2.2),(.s 7, .int y.1),(.b 1008, .rs aa y.2.1)]) (fun y=>y.1≤s.size∧iR s c y.1=y.2) (fun y=>s.size - y.1) (0,[],0) [] ⟨Nat.zero_le _,rfl⟩ ru ?_
 rintro ⟨k,out,fr⟩ ⟨(hk:k≤s.size),(he:iR s c k=(out,fr))⟩
 have hbd:=JP s c k
 rw [he] at hbd
 obtain ⟨(hb1:out.length≤k),(hb2:fr≤k)⟩:=hbd
 refine ⟨fun w1=>⟨⟨?_,?_⟩,fun w2=>⟨⟨?_,?_,?_⟩,tv,⟨⟨?_,?_⟩,?_,?_⟩,⟨?_,?_⟩,⟨?_,?_⟩,?_⟩,fun w3=>⟨⟨?_,?_⟩,?_⟩⟩,fun w4=>⟨⟨?_,?_,?_⟩,tv,⟨⟨?_,?_⟩,?_,?_⟩,?_⟩⟩
 all_goals first|refine au ?_|refine aw ?_|exact sa|exact sb|skip
 ·have e:iR s c (k+1)=(out++[s.extract fr k],k+1):=by
   rw [iR,show decide (bG s k=c)=true by assumption,he];rfl
  refine ⟨(k+1,out++[s.extract fr k],k+1),[(1008,1026)],?_,?_,?_⟩
  rotate_right
  ·exact rq
  ·exact ⟨by have:=cw (p:=(k:Int) < s.size) (by assumption);omega,e⟩
  ·show s.size - (k+1) < s.size - k
   have:=cw (p:=(k:Int) < s.size) (by assumption);omega
 ·have e:iR s c (k+1)=(out,fr):=by
   rw [iR,show decide (bG s k=c)=false by assumption,he];rfl
  refine ⟨(k+1,out,fr),[],?_,?_,?_⟩
  rotate_right
  ·exact rq
  ·exact ⟨by have:=cw (p:=(k:Int) < s.size) (by assumption);omega,e⟩
  ·show s.size - (k+1) < s.size - k
   have:=cw (p:=(k:Int) < s.size) (by assumption);omega
 ·have hk':k=s.size:=by have:=ca (p:=(k:Int) < s.size) (by assumption);omega
  subst hk'
  have e:bf s c=out++[s.extract fr s.size]:=by rw [bf,he]
  refine ⟨[1034],[],_,_,_,rfl,rp,(),tv,?_,?_,rfl⟩
  ·(show _=BA s c);unfold BA;first |(rw [e,List.length_append];rfl) |(rw [e];rfl) |rfl
  ·(show _=HI s c);unfold HI;first |(rw [e,List.length_append];rfl) |(rw [e];rfl) |rfl
end GL
end Go.Proofs.YtbfgjadbfjkcdaaGreatDoor
