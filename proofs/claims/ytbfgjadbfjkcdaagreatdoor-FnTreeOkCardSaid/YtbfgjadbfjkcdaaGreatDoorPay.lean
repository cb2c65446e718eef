/- FnTreeOk returns true for every code (its row lists package variables, tied by the card): part 25 of 39. -/
import Derived.Test.YtbfgjadbfjkcdaaGreatDoorPao
import Derived.Test.YtbfgjadbfjkcdaaGreatDoorPar
import Derived.Test.YtbfgjadbfjkcdaaGreatDoorPas
import Derived.Test.YtbfgjadbfjkcdaaGreatDoorPat
import Derived.Test.YtbfgjadbfjkcdaaGreatDoorPax
set_option maxHeartbeats 20000000
set_option linter.all false
namespace Go.Proofs.YtbfgjadbfjkcdaaGreatDoor
namespace GL
theorem QZ {α:Type} (l:List α):(l.drop 0).take l.length=l:=by simp
def bE (s:ax) (n:fl):List eU×Bool:=
 bif !(cm n)||(decide (n.1≠2)|| !(oz s (cO n))) then ([],false) else
 bif !(cW s (cO n)).2||decide (((cW s (cO n)).1.size:Int)≠n.2.2.1) then ([],false) else cK (cW s (cO n)).1
theorem aeZ {s:ax} {n:fl} (h:(!(cm n))=true):bE s n=([],false):=by unfold bE;rw [h];rfl
theorem aeY {s:ax} {n:fl} (h:decide (n.1≠2)=true):bE s n=([],false):=by unfold bE;rw [h,Bool.true_or,Bool.or_true];rfl
theorem aeX {s:ax} {n:fl} (h:(!(oz s (cO n)))=true):bE s n=([],false):=by unfold bE;rw [h,Bool.or_true,Bool.or_true];rfl
theorem aeW {s:ax} {n:fl} (h:(!(cW s (cO n)).2)=true):bE s n=([],false):=by
 unfold bE
 cases !(cm n)||(decide (n.1≠2)|| !(oz s (cO n))) with
 |true=>rfl
 |false=>rw [h];rfl
theorem aeV {s:ax} {n:fl} (h:decide (((cW s (cO n)).1.size:Int)≠n.2.2.1)=true):bE s n=([],false):=by
 unfold bE
 cases !(cm n)||(decide (n.1≠2)|| !(oz s (cO n))) with
 |true=>rfl
 |false=>rw [h,Bool.or_true];rfl
theorem aeU {s:ax} {n:fl} (h1:(!(cm n))=false) (h2:decide (n.1≠2)=false) (h3:(!(oz s (cO n)))=false) (h4:(!(cW s (cO n)).2)=false) (h5:decide (((cW s (cO n)).1.size:Int)≠n.2.2.1)=false):bE s n=cK (cW s (cO n)).1:=by
 unfold bE;rw [h1,h2,h3,h4,h5];rfl
def je (S:ax) (n:fl):Prop:=S.rd
def cL (S:ax) (n:fl):AV:=.t [.s (.vw aG (bE S n).1), .s (.q (bE S n).2)]
def KV (S:ax) (n:fl):List AV:=[]
def iw:Con where
 A:=[.a xw, .a [.int, .int, .int, .int, .int, .int, .int, .int, .int, .int]]
 B:=[]
 pre:=fun x b=>je (x.1) (x.2)
 α:=fun _ _=>Unit
 φ:=fun _ _ _=>True
 r:=fun x b _=>cL (x.1) (x.2)
 o:=fun x b _=>KV (x.1) (x.2)
 nf:=0
set_option maxRecDepth 100000 in
theorem tG:Has Tryz.prog 128 iw:=by
 refine Has.ofE (fun _=>true) (fun _=>false) (fun _=>false) (l:=[(76,qu),(11,JV),(151,P1),(152,ug)]) ⟨IP,adZ,af5,PN,trivial⟩ (fn:=Tryz.f128) Tryz.func128 rfl (by decide) (cH rfl) ?_
 rintro ⟨⟨(ai:List ByteArray),(aj:List Int),(ak:List Int),(an:Int),(ag:List Pt),(ao:Int),(ah:List Pt),(aq:Bool)⟩,⟨(n1:Int),(n2:Int),(n3:Int),(n4:Int),(n5:Int),(n6:Int),(n7:Int),(n8:Int),(n9:Int),(ck:Int)⟩⟩ _ (hp:je (ai,aj,ak,an,ag,ao,ah,aq) (n1,n2,n3,n4,n5,n6,n7,n8,n9,ck))
 show vc _ _ _ _ (entry [.a [.vz aa ai, .vz ae aj, .vz ae ak, .int an, .vz ab ag, .int ao, .vz ab ah, .q aq], .a [.int n1, .int n2, .int n3, .int n4, .int n5, .int n6, .int n7, .int n8, .int n9, .int ck]] []) _
 have dA:ax.rd (ai,aj,ak,an,ag,ao,ah,aq):=hp
 have sP:(!(cm (n1,n2,n3,n4,n5,n6,n7,n8,n9,ck)))=false→aZ.ok (cO (n1,n2,n3,n4,n5,n6,n7,n8,n9,ck)):=fun h=>nW (cB h)
 have db:(!(cm (n1,n2,n3,n4,n5,n6,n7,n8,n9,ck)))=false→n3≤2048:=fun h=>(lh (cB h)).2.2.1.2
 refine ⟨⟨⟨⟨tv,tv,tv,tv,tv,tv,tv,tv,tv,tv,tv⟩,tv⟩,tv⟩,fun x1 w2=>⟨tv,fun w3=>⟨tv,?_⟩,fun w4=>⟨tv,fun w5=>⟨tv,?_⟩,fun w6=>⟨⟨⟨⟨tv,tv,tv,tv,tv,tv,tv,tv,tv⟩,⟨tv,tv,tv,tv,tv,tv,tv,tv⟩,tv⟩,?_⟩,fun x7 w8=>⟨fun w9=>⟨tv,?_⟩,fun df=>⟨⟨⟨⟨tv,tv,tv,tv,tv,tv,tv,tv,tv⟩,⟨tv,tv,tv,tv,tv,tv,tv,tv⟩,tv⟩,?_,?_⟩,fun kx dC=>⟨tv,fun iA=>⟨tv,?_⟩,fun gx=>⟨fun oU=>⟨tv,?_⟩,fun j9=>⟨⟨⟨tv,tv⟩,?_⟩,fun x17 qI=>?_⟩⟩⟩⟩⟩⟩⟩⟩⟩
 all_goals first|refine au ?_|refine aw ?_|exact sa|(dsimp only [qu,pY];omega)|(dsimp only [JV,zw];omega)|(dsimp only [P1,BX];omega)|(dsimp only [ug,lS];omega)|exact sb|exact dA|exact sP w4|skip
 ·refine ⟨[],[],_,_,_,rfl,rr,(),tv,?_,?_,rfl⟩
  ·(show _=cL (ai,aj,ak,an,ag,ao,ah,aq) (n1,n2,n3,n4,n5,n6,n7,n8,n9,ck));unfold cL;first |(rw [aeZ (s:=(ai,aj,ak,an,ag,ao,ah,aq)) (n:=(n1,n2,n3,n4,n5,n6,n7,n8,n9,ck)) w3];rfl) |rfl
  ·rfl
 ·refine ⟨[],[],_,_,_,rfl,rr,(),tv,?_,?_,rfl⟩
  ·(show _=cL (ai,aj,ak,an,ag,ao,ah,aq) (n1,n2,n3,n4,n5,n6,n7,n8,n9,ck));unfold cL;first |(rw [aeY (s:=(ai,aj,ak,an,ag,ao,ah,aq)) (n:=(n1,n2,n3,n4,n5,n6,n7,n8,n9,ck)) w5];rfl) |rfl
  ·rfl
 ·refine ⟨[],[],_,_,_,rfl,rr,(),tv,?_,?_,rfl⟩
  ·(show _=cL (ai,aj,ak,an,ag,ao,ah,aq) (n1,n2,n3,n4,n5,n6,n7,n8,n9,ck));unfold cL;first |(rw [aeX (s:=(ai,aj,ak,an,ag,ao,ah,aq)) (n:=(n1,n2,n3,n4,n5,n6,n7,n8,n9,ck)) w9];rfl) |rfl
  ·rfl
 ·refine ⟨[],[],_,_,_,rfl,rr,(),tv,?_,?_,rfl⟩
  ·(show _=cL (ai,aj,ak,an,ag,ao,ah,aq) (n1,n2,n3,n4,n5,n6,n7,n8,n9,ck));unfold cL;first |(rw [aeW (s:=(ai,aj,ak,an,ag,ao,ah,aq)) (n:=(n1,n2,n3,n4,n5,n6,n7,n8,n9,ck)) iA];rfl) |rfl
  ·rfl
 ·refine ⟨[],[],_,_,_,rfl,rr,(),tv,?_,?_,rfl⟩
  ·(show _=cL (ai,aj,ak,an,ag,ao,ah,aq) (n1,n2,n3,n4,n5,n6,n7,n8,n9,ck));unfold cL;first |(rw [aeV (s:=(ai,aj,ak,an,ag,ao,ah,aq)) (n:=(n1,n2,n3,n4,n5,n6,n7,n8,n9,ck)) oU];rfl) |rfl
  ·rfl
 ·have h5:=ca (p:=((cW (ai,aj,ak,an,ag,ao,ah,aq) (cO (n1,n2,n3,n4,n5,n6,n7,n8,n9,ck))).1.size:Int)≠n3) j9
  have:=db w4
  show (cW (ai,aj,ak,an,ag,ao,ah,aq) (cO (n1,n2,n3,n4,n5,n6,n7,n8,n9,ck))).1.size≤1000000;omega
 ·have e:=aeU (s:=(ai,aj,ak,an,ag,ao,ah,aq)) (n:=(n1,n2,n3,n4,n5,n6,n7,n8,n9,ck)) w4 w6 df gx j9
  refine ⟨[],[],_,_,_,rfl,rr,(),tv,?_,?_,rfl⟩
  ·(show _=cL (ai,aj,ak,an,ag,ao,ah,aq) (n1,n2,n3,n4,n5,n6,n7,n8,n9,ck));unfold cL;first |(rw [e];exact congrArg (fun x=>AV.t [A0.s (SV.vw aG x),A0.s (SV.q (cK (cW (ai,aj,ak,an,ag,ao,ah,aq) (cO (n1,n2,n3,n4,n5,n6,n7,n8,n9,ck))).1).2)]) (QZ (cK (cW (ai,aj,ak,an,ag,ao,ah,aq) (cO (n1,n2,n3,n4,n5,n6,n7,n8,n9,ck))).1).1)) |rfl
  ·rfl
def oC (s:ax) (t:aZ):List fl:=(bg s t).map fun x=>(bm x).1
def lN (S:ax) (t:aZ):Prop:=S.rd∧t.ok
def sY (S:ax) (t:aZ):AV:=.s (.vw oS (oC S t))
def R7 (S:ax) (t:aZ):List AV:=[]
def kQ:Con where
 A:=[.a xw, .a [.int, .int, .int, .int, .int, .int, .int]]
 B:=[]
 pre:=fun x b=>lN (x.1) (x.2)
 α:=fun _ _=>Unit
 φ:=fun _ _ _=>True
 r:=fun x b _=>sY (x.1) (x.2)
 o:=fun x b _=>R7 (x.1) (x.2)
 nf:=0
set_option maxRecDepth 100000 in
theorem yL:Has Tryz.prog 17 kQ:=by
 refine Has.ofE (fun _=>true) (fun _=>false) (fun _=>false) (l:=[(45,c6),(46,ng)]) ⟨iK,CN,trivial⟩ (fn:=Tryz.f17) Tryz.func17 rfl (by decide) (cH rfl) ?_
 rintro ⟨⟨(ai:List ByteArray),(aj:List Int),(ak:List Int),(an:Int),(ag:List Pt),(ao:Int),(ah:List Pt),(aq:Bool)⟩,⟨(t1:Int),(t2:Int),(t3:Int),(t4:Int),(t5:Int),(t6:Int),(t7:Int)⟩⟩ _ (hp:lN (ai,aj,ak,an,ag,ao,ah,aq) (t1,t2,t3,t4,t5,t6,t7))
 show vc _ _ _ _ (entry [.a [.vz aa ai, .vz ae aj, .vz ae ak, .int an, .vz ab ag, .int ao, .vz ab ah, .q aq], .a [.int t1, .int t2, .int t3, .int t4, .int t5, .int t6, .int t7]] []) _
 obtain ⟨dA,cq⟩:=hp
 have dA:ax.rd (ai,aj,ak,an,ag,ao,ah,aq):=dA
 have cq:aZ.ok (t1,t2,t3,t4,t5,t6,t7):=cq
 have h1:t7≤16:=cq.m1
 have hl:(bg (ai,aj,ak,an,ag,ao,ah,aq) (t1,t2,t3,t4,t5,t6,t7)).length=t7.toNat:=fg cq
 refine ⟨tv,⟨⟨⟨tv,tv,tv,tv,tv,tv,tv,tv,tv⟩,⟨tv,tv,tv,tv,tv,tv,tv,tv⟩,tv⟩,?_,?_,?_,?_⟩,fun x1 w2=>?_⟩
 all_goals first|refine au ?_|refine aw ?_|exact sa|(dsimp only [c6,eA];omega)|(dsimp only [ng,ld];omega)|exact sb|exact dA|exact cq.rd|exact cq.m0|exact cq.m1|skip
 refine cI (l:=[(45,c6),(46,ng)]) (ex:=fun _=>true) (wr:=fun _=>false) (pt:=fun _=>false) ⟨iK,CN,tv⟩ [.s 2, .s 3, .b 1002, .b 1003, .s 6, .b 140000] (fun y:Nat×List fl=>[(.s 5, .s (.xs 1010 10 0 y.2.length)),(.s 7, .int y.1),(.b 1010, .rs oS y.2)]) (fun y=>y.1≤(bg (ai,aj,ak,an,ag,ao,ah,aq) (t1,t2,t3,t4,t5,t6,t7)).length∧y.2=((bg (ai,aj,ak,an,ag,ao,ah,aq) (t1,t2,t3,t4,t5,t6,t7)).take y.1).map fun x=>(bm x).1) (fun y=>(bg (ai,aj,ak,an,ag,ao,ah,aq) (t1,t2,t3,t4,t5,t6,t7)).length - y.1) (0,[]) [] ⟨Nat.zero_le _,rfl⟩ ru ?_
 rintro ⟨i,out⟩ ⟨(hi:i≤(bg (ai,aj,ak,an,ag,ao,ah,aq) (t1,t2,t3,t4,t5,t6,t7)).length),(he:out=((bg (ai,aj,ak,an,ag,ao,ah,aq) (t1,t2,t3,t4,t5,t6,t7)).take i).map fun x=>(bm x).1)⟩
 have bM:decide ((i:Int) < ((bg (ai,aj,ak,an,ag,ao,ah,aq) (t1,t2,t3,t4,t5,t6,t7)).length:Int))=true→i < (bg (ai,aj,ak,an,ag,ao,ah,aq) (t1,t2,t3,t4,t5,t6,t7)).length:=fun h=>by have:=cw h;omega
 have db:=W1 (wx (s:=(ai,aj,ak,an,ag,ao,ah,aq)) (t:=(t1,t2,t3,t4,t5,t6,t7)) dA) i
 have hlo:out.length=i:=by rw [he,List.length_map,List.length_take];omega
 refine ⟨fun w1=>⟨⟨?_,?_⟩,?_,⟨⟨tv,tv⟩,?_⟩,fun x2 w3=>⟨tv,⟨⟨?_,?_⟩,?_,?_⟩,⟨?_,?_⟩,?_⟩⟩,fun w4=>?_⟩
 all_goals first|refine au ?_|refine aw ?_|exact sa|(dsimp only [c6,eA];omega)|(dsimp only [ng,ld];omega)|exact sb|exact bM w1|exact db|(show (i:Int) < ((bg (ai,aj,ak,an,ag,ao,ah,aq) (t1,t2,t3,t4,t5,t6,t7)).length:Int);have:=bM w1;omega)|skip
 ·have mo:=bM w1
  refine ⟨(i+1,out++[(bm (nth aa (bg (ai,aj,ak,an,ag,ao,ah,aq) (t1,t2,t3,t4,t5,t6,t7)) i)).1]),[(1010,1031)],?_,?_,?_⟩
  rotate_right
  ·exact rq
  ·refine ⟨mo,?_⟩
   show out++[_]=((bg (ai,aj,ak,an,ag,ao,ah,aq) (t1,t2,t3,t4,t5,t6,t7)).take (i+1)).map fun x=>(bm x).1
   rw [List.take_add_one,show (bg (ai,aj,ak,an,ag,ao,ah,aq) (t1,t2,t3,t4,t5,t6,t7))[i]?=some (nth aa (bg (ai,aj,ak,an,ag,ao,ah,aq) (t1,t2,t3,t4,t5,t6,t7)) i) from oB (ek:=aa) mo,he]
   simp
  ·show (bg (ai,aj,ak,an,ag,ao,ah,aq) (t1,t2,t3,t4,t5,t6,t7)).length - (i+1) < (bg (ai,aj,ak,an,ag,ao,ah,aq) (t1,t2,t3,t4,t5,t6,t7)).length - i;omega
 ·have e:oC (ai,aj,ak,an,ag,ao,ah,aq) (t1,t2,t3,t4,t5,t6,t7)=out:=by rw [he,List.take_of_length_le (by have:=ca (p:=(i:Int) < ((bg (ai,aj,ak,an,ag,ao,ah,aq) (t1,t2,t3,t4,t5,t6,t7)).length:Int)) (by assumption);omega)];rfl
  refine ⟨[],[],_,_,_,rfl,rr,(),tv,?_,?_,rfl⟩
  ·(show _=sY (ai,aj,ak,an,ag,ao,ah,aq) (t1,t2,t3,t4,t5,t6,t7));unfold sY;first |(rw [e];exact congrArg (fun x=>AV.s (SV.vw oS x)) (QZ out)) |rfl
  ·rfl
def EV (s:ax) (t:aZ):List ByteArray→Int→Int
 |[],k=>k
 |x::l,k=>bif !(bE s (cF s t k).1).2||decide (lu (bE s (cF s t k).1).1 x < 0) then -1 else EV s t l (nth aG (bE s (cF s t k).1).1 (lu (bE s (cF s t k).1).1 x).toNat).2
theorem aab {s:ax} {t:aZ} {x:ByteArray} {l:List ByteArray} {k:Int} (h:(!(bE s (cF s t k).1).2)=true):EV s t (x::l) k= -1:=by rw [EV,h];rfl
theorem aaa {s:ax} {t:aZ} {x:ByteArray} {l:List ByteArray} {k:Int} (h:decide (lu (bE s (cF s t k).1).1 x < 0)=true):EV s t (x::l) k= -1:=by rw [EV,h,Bool.or_true];rfl
theorem MQ {s:ax} {t:aZ} {x:ByteArray} {l:List ByteArray} {k:Int} (h:(!(bE s (cF s t k).1).2)=false) (h2:decide (lu (bE s (cF s t k).1).1 x < 0)=false):EV s t (x::l) k=EV s t l (nth aG (bE s (cF s t k).1).1 (lu (bE s (cF s t k).1).1 x).toNat).2:=by rw [EV,h,h2];rfl
def uL (s:ax) (t:aZ) (l:List ByteArray):Int:=EV s t l 0
theorem afA:∀ {f:Nat} {l:List eU} {i:Nat} {name:ByteArray},i+f=l.length→0≤atF f l i name→(i:Int)≤atF f l i name∧atF f l i name < l.length∧(nth aG l (atF f l i name).toNat).1=name
 |0,l,i,name,_,h=>absurd (show (0:Int)≤-1 from h) (by decide)
 |f+1,l,i,name,hf,h=>by
  cases hd:decide ((nth aG l i).1=name) with
  |true=>rw [ahd hd];exact ⟨Int.le_refl _,by omega,by rw [Int.toNat_natCast];exact cw hd⟩
  |false=>
   rw [ahe hd] at h ⊢
   have:=afA (f:=f) (i:=i+1) (by omega) h
   exact ⟨by omega,this.2⟩
theorem zb {l:List eU} {name:ByteArray} (h:0≤lu l name):lu l name < l.length∧(nth aG l (lu l name).toNat).1=name:=(afA (Nat.zero_add _) h).2
theorem FM (s:ax) (n:fl):(bE s n).1.length≤12∧∀e∈(bE s n).1,fv e.1=true∧1≤e.2∧e.2≤15:=by
 have h0:([]:List eU).length≤12∧∀e∈([]:List eU),fv e.1=true∧1≤e.2∧e.2≤15:=⟨Nat.zero_le _,fun e h=>absurd h List.not_mem_nil⟩
 unfold bE
 cases !(cm n)||(decide (n.1≠2)|| !(oz s (cO n))) with
 |true=>exact h0
 |false=>cases !(cW s (cO n)).2||decide (((cW s (cO n)).1.size:Int)≠n.2.2.1) with
  |true=>exact h0
  |false=>
   show (cK _).1.length≤12∧∀e∈(cK _).1,_
   generalize (cW s (cO n)).1=x
   cases he:egF ((bf x 59).length) (bf x 59) 0 [] with
   |none=>rw [xH he];exact h0
   |some o=>
    rw [nw he]
    cases h1: !(ez o) with
    |true=>rw [aav h1];exact h0
    |false=>cases h2:decide (dW o≠x) with
     |true=>rw [aau h2];exact h0
     |false=>rw [aaw h1 h2];exact xG (cB h1)
def qN (S:ax) (t:aZ) (l:List ByteArray):Prop:=S.rd∧t.ok∧l.length≤1000000
def iY (S:ax) (t:aZ) (l:List ByteArray):AV:=.s (.int (uL S t l))
def WD (S:ax) (t:aZ) (l:List ByteArray):List AV:=[]
def sD:Con where
 A:=[.a xw, .a [.int, .int, .int, .int, .int, .int, .int], .s (.vz aa)]
 B:=[]
 pre:=fun x b=>qN (x.1) (x.2.1) (x.2.2)
 α:=fun _ _=>Unit
 φ:=fun _ _ _=>True
 r:=fun x b _=>iY (x.1) (x.2.1) (x.2.2)
 o:=fun x b _=>WD (x.1) (x.2.1) (x.2.2)
 nf:=0
set_option maxRecDepth 100000 in
theorem MB:Has Tryz.prog 131 sD:=by
 refine Has.ofE (fun _=>true) (fun _=>false) (fun _=>false) (l:=[(132,jx),(128,iw),(106,oQ)]) ⟨vA,tG,FE,trivial⟩ (fn:=Tryz.f131) Tryz.func131 rfl (by decide) (cH rfl) ?_
 rintro ⟨⟨(ai:List ByteArray),(aj:List Int),(ak:List Int),(an:Int),(ag:List Pt),(ao:Int),(ah:List Pt),(aq:Bool)⟩,⟨(t1:Int),(t2:Int),(t3:Int),(t4:Int),(t5:Int),(t6:Int),(t7:Int)⟩,(l:List ByteArray)⟩ _ (hp:qN (ai,aj,ak,an,ag,ao,ah,aq) (t1,t2,t3,t4,t5,t6,t7) l)
 show vc _ _ _ _ (entry [.a [.vz aa ai, .vz ae aj, .vz ae ak, .int an, .vz ab ag, .int ao, .vz ab ah, .q aq], .a [.int t1, .int t2, .int t3, .int t4, .int t5, .int t6, .int t7], .s (.vz aa l)] []) _
 obtain ⟨dA,cq,hlen⟩:=hp
 have dA:ax.rd (ai,aj,ak,an,ag,ao,ah,aq):=dA
 have cq:aZ.ok (t1,t2,t3,t4,t5,t6,t7):=cq
 refine ?_
 all_goals first|refine au ?_|refine aw ?_|exact sa|(dsimp only [jx,kI];omega)|(dsimp only [iw,je];omega)|(dsimp only [oQ,oW];omega)|exact sb|skip
 refine cI (l:=[(132,jx),(128,iw),(106,oQ)]) (ex:=fun _=>true) (wr:=fun _=>false) (pt:=fun _=>false) ⟨vA,tG,FE,tv⟩ [.s 2, .s 3, .s 4, .b 1003, .b 1004] (fun y:Nat×Int=>[(.s 7, .int y.2),(.s 8, .int y.1)]) (fun y=>y.1≤l.length∧EV (ai,aj,ak,an,ag,ao,ah,aq) (t1,t2,t3,t4,t5,t6,t7) (l.drop y.1) y.2=uL (ai,aj,ak,an,ag,ao,ah,aq) (t1,t2,t3,t4,t5,t6,t7) l) (fun y=>l.length - y.1) (0,0) [] ⟨Nat.zero_le _,rfl⟩ ru ?_
 rintro ⟨i,k⟩ ⟨(hi:i≤l.length),(hr:EV (ai,aj,ak,an,ag,ao,ah,aq) (t1,t2,t3,t4,t5,t6,t7) (l.drop i) k=uL (ai,aj,ak,an,ag,ao,ah,aq) (t1,t2,t3,t4,t5,t6,t7) l)⟩
 have bM:decide ((i:Int) < (l.length:Int))=true→i < l.length:=fun h=>by have:=cw h;omega
 have heb:=FM (ai,aj,ak,an,ag,ao,ah,aq) (cF (ai,aj,ak,an,ag,ao,ah,aq) (t1,t2,t3,t4,t5,t6,t7) k).1
 refine ⟨fun w1=>⟨⟨⟨⟨tv,tv,tv,tv,tv,tv,tv,tv,tv⟩,⟨tv,tv,tv,tv,tv,tv,tv,tv⟩,tv,tv⟩,?_,?_⟩,fun x2 w3=>⟨⟨⟨⟨tv,tv,tv,tv,tv,tv,tv,tv,tv⟩,⟨tv,tv,tv,tv,tv,tv,tv,tv,tv,tv,tv⟩,tv⟩,?_⟩,fun x4 w5=>⟨⟨?_,?_⟩,⟨⟨tv,tv,tv⟩,?_⟩,fun x6 w7=>⟨tv,fun w8=>?_,fun w9=>⟨fun df=>?_,fun ka=>⟨⟨?_,?_⟩,⟨?_,?_⟩,?_⟩⟩⟩⟩⟩⟩,fun dC=>?_⟩
 all_goals first|refine au ?_|refine aw ?_|exact sa|(dsimp only [jx,kI];omega)|(dsimp only [iw,je];omega)|(dsimp only [oQ,oW];omega)|exact sb|exact bM w1|exact dA|exact cq|exact Nat.le_trans heb.1 (by decide)|skip
 ·have mo:=bM w1
  have e:uL (ai,aj,ak,an,ag,ao,ah,aq) (t1,t2,t3,t4,t5,t6,t7) l= -1:=by rw [←hr,bP (ek:=aa) mo,aab (show (!(bE (ai,aj,ak,an,ag,ao,ah,aq) (cF (ai,aj,ak,an,ag,ao,ah,aq) (t1,t2,t3,t4,t5,t6,t7) k).1).2)=true from w8)]
  refine ⟨[],[],_,_,_,rfl,rp,(),tv,?_,?_,rfl⟩
  ·(show _=iY (ai,aj,ak,an,ag,ao,ah,aq) (t1,t2,t3,t4,t5,t6,t7) l);unfold iY;first |(rw [e];rfl) |rfl
  ·rfl
 ·have mo:=bM w1
  have e:uL (ai,aj,ak,an,ag,ao,ah,aq) (t1,t2,t3,t4,t5,t6,t7) l= -1:=by rw [←hr,bP (ek:=aa) mo,aaa (show decide (lu (bE (ai,aj,ak,an,ag,ao,ah,aq) (cF (ai,aj,ak,an,ag,ao,ah,aq) (t1,t2,t3,t4,t5,t6,t7) k).1).1 (nth aa l i) < 0)=true from df)]
  refine ⟨[],[],_,_,_,rfl,rp,(),tv,?_,?_,rfl⟩
  ·(show _=iY (ai,aj,ak,an,ag,ao,ah,aq) (t1,t2,t3,t4,t5,t6,t7) l);unfold iY;first |(rw [e];rfl) |rfl
  ·rfl
 ·have h0:=ca (show decide (lu (bE (ai,aj,ak,an,ag,ao,ah,aq) (cF (ai,aj,ak,an,ag,ao,ah,aq) (t1,t2,t3,t4,t5,t6,t7) k).1).1 (nth aa l i) < 0)=false from ka)
  show 0≤lu (bE (ai,aj,ak,an,ag,ao,ah,aq) (cF (ai,aj,ak,an,ag,ao,ah,aq) (t1,t2,t3,t4,t5,t6,t7) k).1).1 (nth aa l i);omega
 ·have h0:=ca (show decide (lu (bE (ai,aj,ak,an,ag,ao,ah,aq) (cF (ai,aj,ak,an,ag,ao,ah,aq) (t1,t2,t3,t4,t5,t6,t7) k).1).1 (nth aa l i) < 0)=false from ka)
  exact (zb (l:=(bE (ai,aj,ak,an,ag,ao,ah,aq) (cF (ai,aj,ak,an,ag,ao,ah,aq) (t1,t2,t3,t4,t5,t6,t7) k).1).1) (name:=nth aa l i) (by omega)).1
 ·have mo:=bM w1
  refine ⟨(i+1,(nth aG (bE (ai,aj,ak,an,ag,ao,ah,aq) (cF (ai,aj,ak,an,ag,ao,ah,aq) (t1,t2,t3,t4,t5,t6,t7) k).1).1 (lu (bE (ai,aj,ak,an,ag,ao,ah,aq) (cF (ai,aj,ak,an,ag,ao,ah,aq) (t1,t2,t3,t4,t5,t6,t7) k).1).1 (nth aa l i)).toNat).2),[],?_,?_,?_⟩
  rotate_right
  ·exact rq
  ·refine ⟨mo,?_⟩
   rw [←hr,bP (ek:=aa) mo,MQ (show (!(bE (ai,aj,ak,an,ag,ao,ah,aq) (cF (ai,aj,ak,an,ag,ao,ah,aq) (t1,t2,t3,t4,t5,t6,t7) k).1).2)=false from w9) (show decide (lu (bE (ai,aj,ak,an,ag,ao,ah,aq) (cF (ai,aj,ak,an,ag,ao,ah,aq) (t1,t2,t3,t4,t5,t6,t7) k).1).1 (nth aa l i) < 0)=false from ka)]
  ·show l.length - (i+1) < l.length - i;omega
 ·have e:uL (ai,aj,ak,an,ag,ao,ah,aq) (t1,t2,t3,t4,t5,t6,t7) l=k:=by rw [←hr,List.drop_eq_nil_of_le (by have:=ca (p:=(i:Int) < (l.length:Int)) dC;omega)];rfl
  refine ⟨[],[],_,_,_,rfl,rp,(),tv,?_,?_,rfl⟩
  ·(show _=iY (ai,aj,ak,an,ag,ao,ah,aq) (t1,t2,t3,t4,t5,t6,t7) l);unfold iY;first |(rw [e];rfl) |rfl
  ·rfl
end GL
namespace GL
def mu (size k:Int):Int:=min 12 (size - k * 12)
def qP (size:Int) (k:Int):Prop:= -1000000≤size∧size≤1000000∧0≤k∧k≤1000000
def u2 (size:Int) (k:Int):AV:=.s (.int (mu size k))
def WG (size:Int) (k:Int):List AV:=[]
def sF:Con where
 A:=[.s .int, .s .int]
 B:=[]
 pre:=fun x b=>qP (x.1) (x.2)
 α:=fun _ _=>Unit
 φ:=fun _ _ _=>True
 r:=fun x b _=>u2 (x.1) (x.2)
 o:=fun x b _=>WG (x.1) (x.2)
 nf:=0
set_option maxRecDepth 100000 in
theorem MD:Has Tryz.prog 155 sF:=by
 refine Has.ofE (fun _=>true) (fun _=>false) (fun _=>false) (l:=[]) trivial (fn:=Tryz.f155) Tryz.func155 rfl (by decide) (cH rfl) ?_
 rintro ⟨(size:Int),(k:Int)⟩ _ (hp:qP size k)
 show vc _ _ _ _ (entry [.int size, .int k] []) _
 obtain ⟨h1,h2,h3,h4⟩:=hp
 refine ⟨⟨?_,?_⟩,⟨⟨?_,?_⟩,?_⟩⟩
 all_goals first|refine au ?_|refine aw ?_|exact sa|exact sb|skip
 refine ⟨[],[],_,_,_,rfl,rp,(),tv,?_,?_,rfl⟩
 ·(show _=u2 size k);unfold u2;first |rfl
 ·rfl
def txF (size:Int):List ByteArray→Nat→ByteArray→ByteArray
 |[],_,out=>out
 |s::l,k,out=>txF size l (k+1) (out++s++kF (mu size k - s.size))
def iX (s:ax) (n:fl):ByteArray:=txF n.2.2.1 (bg s (cO n)) 0 ⟨#[]⟩
theorem kV (n:Int):(kF n).size=(max 0 n).toNat:=by
 unfold kF;rw [ft,nC];simp
structure fl.fok (n:fl):Prop where
 ok:(cO n).ok
 s0: -1000000≤n.2.2.1
 s1:n.2.2.1≤1000000
def qO (S:ax) (n:fl):Prop:=S.rd∧n.fok
def u1 (S:ax) (n:fl):AV:=.s (.str (iX S n))
def WE (S:ax) (n:fl):List AV:=[]
def sE:Con where
 A:=[.a xw, .a [.int, .int, .int, .int, .int, .int, .int, .int, .int, .int]]
 B:=[]
 pre:=fun x b=>qO (x.1) (x.2)
 α:=fun _ _=>Unit
 φ:=fun _ _ _=>True
 r:=fun x b _=>u1 (x.1) (x.2)
 o:=fun x b _=>WE (x.1) (x.2)
 nf:=0
set_option maxRecDepth 100000 in
theorem MC:Has Tryz.prog 138 sE:=by
 refine Has.ofE (fun _=>true) (fun _=>false) (fun _=>false) (l:=[(45,c6),(155,sF),(139,ix)]) ⟨iK,MD,tH,trivial⟩ (fn:=Tryz.f138) Tryz.func138 rfl (by decide) (cH rfl) ?_
 rintro ⟨⟨(ai:List ByteArray),(aj:List Int),(ak:List Int),(an:Int),(ag:List Pt),(ao:Int),(ah:List Pt),(aq:Bool)⟩,⟨(n1:Int),(n2:Int),(n3:Int),(n4:Int),(n5:Int),(n6:Int),(n7:Int),(n8:Int),(n9:Int),(ck:Int)⟩⟩ _ (hp:qO (ai,aj,ak,an,ag,ao,ah,aq) (n1,n2,n3,n4,n5,n6,n7,n8,n9,ck))
 show vc _ _ _ _ (entry [.a [.vz aa ai, .vz ae aj, .vz ae ak, .int an, .vz ab ag, .int ao, .vz ab ah, .q aq], .a [.int n1, .int n2, .int n3, .int n4, .int n5, .int n6, .int n7, .int n8, .int n9, .int ck]] []) _
 obtain ⟨dA,hf⟩:=hp
 have dA:ax.rd (ai,aj,ak,an,ag,ao,ah,aq):=dA
 have hf:fl.fok (n1,n2,n3,n4,n5,n6,n7,n8,n9,ck):=hf
 have cq:=hf.ok
 have h0:0≤ck:=cq.m0
 have h1:ck≤16:=cq.m1
 have hs0: -1000000≤n3:=hf.s0
 have hs1:n3≤1000000:=hf.s1
 have hl:(bg (ai,aj,ak,an,ag,ao,ah,aq) (cO (n1,n2,n3,n4,n5,n6,n7,n8,n9,ck))).length=ck.toNat:=fg cq
 refine ⟨⟨⟨⟨tv,tv,tv,tv,tv,tv,tv,tv,tv⟩,⟨tv,tv,tv,tv,tv,tv,tv,tv⟩,tv⟩,?_,?_,?_,?_⟩,fun x1 w2=>?_⟩
 all_goals first|refine au ?_|refine aw ?_|exact sa|(dsimp only [c6,eA];omega)|(dsimp only [sF,qP];omega)|(dsimp only [ix,jG];omega)|exact sb|exact dA|exact cq.rd|exact h0|exact h1|skip
 refine cI (l:=[(45,c6),(155,sF),(139,ix)]) (ex:=fun _=>true) (wr:=fun _=>false) (pt:=fun _=>false) ⟨iK,MD,tH,tv⟩ [.s 2, .s 3, .b 1002, .b 1003, .s 6, .b 130000] (fun y:Nat×ByteArray=>[(.s 5, .str y.2),(.s 7, .int y.1)]) (fun y=>(y.1:Int)≤ck∧y.2.size≤3000000 * y.1∧txF n3 ((bg (ai,aj,ak,an,ag,ao,ah,aq) (cO (n1,n2,n3,n4,n5,n6,n7,n8,n9,ck))).drop y.1) y.1 y.2=iX (ai,aj,ak,an,ag,ao,ah,aq) (n1,n2,n3,n4,n5,n6,n7,n8,n9,ck)) (fun y=>ck.toNat - y.1) (0,⟨#[]⟩) [] ⟨h0,Nat.zero_le _,rfl⟩ ru ?_
 rintro ⟨i,out⟩ ⟨(hi:(i:Int)≤ck),(ho:out.size≤3000000 * i),(hr:txF n3 ((bg (ai,aj,ak,an,ag,ao,ah,aq) (cO (n1,n2,n3,n4,n5,n6,n7,n8,n9,ck))).drop i) i out=iX (ai,aj,ak,an,ag,ao,ah,aq) (n1,n2,n3,n4,n5,n6,n7,n8,n9,ck))⟩
 have bM:decide ((i:Int) < ck)=true→i < (bg (ai,aj,ak,an,ag,ao,ah,aq) (cO (n1,n2,n3,n4,n5,n6,n7,n8,n9,ck))).length:=fun h=>by have:=cw h;omega
 have db:=W1 (wx (s:=(ai,aj,ak,an,ag,ao,ah,aq)) (t:=cO (n1,n2,n3,n4,n5,n6,n7,n8,n9,ck)) dA) i
 have hlg:mu n3 i≤12:=by unfold mu;omega
 have al8: -1000200≤mu n3 i:=by unfold mu;omega
 have hzs:(kF (mu n3 i - (nth aa (bg (ai,aj,ak,an,ag,ao,ah,aq) (cO (n1,n2,n3,n4,n5,n6,n7,n8,n9,ck))) i).size)).size≤12:=by rw [kV];omega
 refine ⟨fun w1=>⟨⟨?_,?_⟩,?_,?_,⟨⟨tv,tv,tv⟩,?_,?_,?_,?_⟩,fun x2 w3=>⟨⟨?_,?_⟩,⟨⟨tv,tv⟩,?_⟩,fun x4 w5=>⟨?_,⟨?_,?_⟩,?_⟩⟩⟩,fun w6=>?_⟩
 all_goals first|refine au ?_|refine aw ?_|exact sa|(dsimp only [c6,eA];omega)|(dsimp only [sF,qP];omega)|(dsimp only [ix,jG];omega)|exact sb|exact bM w1|exact hs0|exact hs1|(show (i:Int) < ((bg (ai,aj,ak,an,ag,ao,ah,aq) (cO (n1,n2,n3,n4,n5,n6,n7,n8,n9,ck))).length:Int);have:=bM w1;omega)|(show (out.size+(nth aa (bg (ai,aj,ak,an,ag,ao,ah,aq) (cO (n1,n2,n3,n4,n5,n6,n7,n8,n9,ck))) i).size:Int)≤imax;unfold imax;omega)|(show gD≤mu n3 i - ((nth aa (bg (ai,aj,ak,an,ag,ao,ah,aq) (cO (n1,n2,n3,n4,n5,n6,n7,n8,n9,ck))) i).size:Int);unfold gD;omega)|(show (((out++(nth aa (bg (ai,aj,ak,an,ag,ao,ah,aq) (cO (n1,n2,n3,n4,n5,n6,n7,n8,n9,ck))) i)).size:Nat):Int)+((kF (mu n3 i - (nth aa (bg (ai,aj,ak,an,ag,ao,ah,aq) (cO (n1,n2,n3,n4,n5,n6,n7,n8,n9,ck))) i).size)).size:Int)≤imax;rw [ByteArray.size_append];unfold imax;omega)|skip
 ·have mo:=bM w1
  have aem:=cw (p:=(i:Int) < ck) w1
  refine ⟨(i+1,out++(nth aa (bg (ai,aj,ak,an,ag,ao,ah,aq) (cO (n1,n2,n3,n4,n5,n6,n7,n8,n9,ck))) i)++kF (mu n3 i - (nth aa (bg (ai,aj,ak,an,ag,ao,ah,aq) (cO (n1,n2,n3,n4,n5,n6,n7,n8,n9,ck))) i).size)),[],?_,?_,?_⟩
  rotate_right
  ·exact rq
  ·refine ⟨by show ((i+1:Nat):Int)≤ck;omega,?_,by rw [←hr,bP (ek:=aa) mo];rfl⟩
   show (out++(nth aa (bg (ai,aj,ak,an,ag,ao,ah,aq) (cO (n1,n2,n3,n4,n5,n6,n7,n8,n9,ck))) i)++kF (mu n3 i - (nth aa (bg (ai,aj,ak,an,ag,ao,ah,aq) (cO (n1,n2,n3,n4,n5,n6,n7,n8,n9,ck))) i).size)).size≤3000000 * (i+1)
   rw [ByteArray.size_append,ByteArray.size_append];omega
  ·show ck.toNat - (i+1) < ck.toNat - i;omega
 ·have e:iX (ai,aj,ak,an,ag,ao,ah,aq) (n1,n2,n3,n4,n5,n6,n7,n8,n9,ck)=out:=by rw [←hr,List.drop_eq_nil_of_le (by have:=ca (p:=(i:Int) < ck) w6;omega)];rfl
  refine ⟨[],[],_,_,_,rfl,rp,(),tv,?_,?_,rfl⟩
  ·(show _=u1 (ai,aj,ak,an,ag,ao,ah,aq) (n1,n2,n3,n4,n5,n6,n7,n8,n9,ck));unfold u1;first |(rw [e];rfl) |rfl
  ·rfl
theorem QI {size:Int}:∀ {l:List ByteArray} {k:Nat} {out:ByteArray},(∀x∈l,x.size≤1000000)→(txF size l k out).size≤out.size+1000012 * l.length
 |[],k,out,_=>Nat.le_refl _
 |x::l,k,out,h=>by
  have h1:=QI (size:=size) (l:=l) (k:=k+1) (out:=out++x++kF (mu size k - x.size)) fun y hy=>h y (by simp [hy])
  have h2:=h x (by simp)
  rw [ByteArray.size_append,ByteArray.size_append,kV] at h1
  have h3:mu size k≤12:=by unfold mu;omega
  rw [txF,List.length_cons];omega
theorem F8 {s:ax} {n:fl} (hs:s.rd) (hn:n.fok):(iX s n).size≤16000200:=by
 have h:=QI (size:=n.2.2.1) (k:=0) (out:=⟨#[]⟩) (wx (s:=s) (t:=cO n) hs)
 rw [fg hn.ok] at h
 have:=hn.ok.m1
 show (txF _ _ _ _).size≤_
 rw [show (⟨#[]⟩:ByteArray).size=0 from rfl] at h
 omega
theorem acu:∀ {f:Nat} {s:ByteArray},(zrF f s).size≤s.size
 |0,s=>Nat.le_refl _
 |f+1,s=>by
  cases h:zrB s with
  |true=>
   rw [agJ h]
   have:=acu (f:=f) (s:=s.extract 0 ((s.size:Int) - 1).toNat)
   rw [ByteArray.size_extract] at this;omega
  |false=>rw [acv h];exact Nat.le_refl _
abbrev eE (text:ByteArray) (k:Int):ByteArray:=zrM (text.extract (k * 12).toNat (min (text.size:Int) ((k+1) * 12)).toNat)
def qD:Nat→Int→ax→aZ→ByteArray→ax×aZ×Bool
 |0,_,s,t,_=>(s,t,true)
 |f+1,k,s,t,text=>bif !(aU s t k (eE text k)).2.2 then ((aU s t k (eE text k)).1,t,false) else qD f (k+1) (aU s t k (eE text k)).1 (aU s t k (eE text k)).2.1 text
theorem V4 {f:Nat} {k:Int} {s:ax} {t:aZ} {text:ByteArray} (h:(aU s t k (eE text k)).2.2=false):qD (f+1) k s t text=((aU s t k (eE text k)).1,t,false):=by rw [qD,h];rfl
theorem V3 {f:Nat} {k:Int} {s:ax} {t:aZ} {text:ByteArray} (h:(aU s t k (eE text k)).2.2=true):qD (f+1) k s t text=qD f (k+1) (aU s t k (eE text k)).1 (aU s t k (eE text k)).2.1 text:=by rw [qD,h];rfl
def zA (s:ax) (n:fl) (text:ByteArray) (fr to:Int):ax×fl×Bool:=
 ((qD (to+1 - fr).toNat fr s (cO n) text).1,kb n text.size (qD (to+1 - fr).toNat fr s (cO n) text).2.1,(qD (to+1 - fr).toNat fr s (cO n) text).2.2)
theorem ZG {s u:ax} {n:fl} {t:aZ} {text:ByteArray} {fr to:Int} {b:Bool} (h:qD (to+1 - fr).toNat fr s (cO n) text=(u,t,b)):zA s n text fr to=(u,kb n text.size t,b):=by unfold zA;rw [h]
def tg (S:ax) (n:fl) (text:ByteArray) (fr:Int) (to:Int):Prop:=S.wg 1045000∧(cO n).ok∧0≤fr∧to≤15∧fr≤to+1∧to * 12≤text.size∧text.size≤100000000
def py (S:ax) (n:fl) (text:ByteArray) (fr:Int) (to:Int):AV:=.t [.a (lA 0 1 2 5 6 (zA S n text fr to).1),ndA (zA S n text fr to).2.1, .s (.q (zA S n text fr to).2.2)]
def r9 (S:ax) (n:fl) (text:ByteArray) (fr:Int) (to:Int):List AV:=[.rs aa (zA S n text fr to).1.rows, .rs ae (zA S n text fr to).1.refs, .rs ae (zA S n text fr to).1.last, .zz, .zz, .rs ab (zA S n text fr to).1.gone, .rs ab (zA S n text fr to).1.dead]
def vT:Con where
 A:=[.a (stB 0 1 2 3 4), .a [.int, .int, .int, .int, .int, .int, .int, .int, .int, .int], .s .str, .s .int, .s .int]
 B:=[.r aa, .r ae, .r ae, .r ab, .r ab]
 pre:=fun x b=>whole x.1.1 x.1.2.1 x.1.2.2.1 x.1.2.2.2.2.1 x.1.2.2.2.2.2.2.1 (b.1) (b.2.1) (b.2.2.1) (b.2.2.2.1) (b.2.2.2.2)∧tg ((b.1,b.2.1,b.2.2.1,x.1.2.2.2.1,b.2.2.2.1,x.1.2.2.2.2.2.1,b.2.2.2.2,x.1.2.2.2.2.2.2.2)) (x.2.1) (x.2.2.1) (x.2.2.2.1) (x.2.2.2.2)
 α:=fun _ _=>Unit
 φ:=fun _ _ _=>True
 r:=fun x b _=>py ((b.1,b.2.1,b.2.2.1,x.1.2.2.2.1,b.2.2.2.1,x.1.2.2.2.2.2.1,b.2.2.2.2,x.1.2.2.2.2.2.2.2)) (x.2.1) (x.2.2.1) (x.2.2.2.1) (x.2.2.2.2)
 o:=fun x b _=>r9 ((b.1,b.2.1,b.2.2.1,x.1.2.2.2.1,b.2.2.2.1,x.1.2.2.2.2.2.1,b.2.2.2.2,x.1.2.2.2.2.2.2.2)) (x.2.1) (x.2.2.1) (x.2.2.2.1) (x.2.2.2.2)
 nf:=2
 mv:=true
set_option maxRecDepth 100000 in
theorem TL:Has Tryz.prog 140 vT:=by
 refine Has.ofZ (fun _=>true) (fun _=>false) (fun _=>false) (l:=[(156,vV),(18,eo)]) ⟨TN,lY,trivial⟩ (fn:=Tryz.f140) Tryz.func140 rfl (by decide) (cH rfl) ?_
 rintro ⟨⟨(AS:Nat),(AR:Nat),(AQ:Nat),(an:Int),(AO:Nat),(ao:Int),(AN:Nat),(aq:Bool)⟩,⟨(n1:Int),(n2:Int),(n3:Int),(n4:Int),(n5:Int),(n6:Int),(n7:Int),(n8:Int),(n9:Int),(ck:Int)⟩,(text:ByteArray),(fr:Int),(to:Int)⟩ ⟨(ai:List ByteArray),(aj:List Int),(ak:List Int),(ag:List Pt),(ah:List Pt)⟩ ⟨⟨(gr:AS=List.length ai),(gq:AR=List.length aj),(gp:AQ=List.length ak),(gn:AO=List.length ag),(gm:AN=List.length ah)⟩,(hp:tg (ai,aj,ak,an,ag,ao,ah,aq) (n1,n2,n3,n4,n5,n6,n7,n8,n9,ck) text fr to)⟩
 subst gr gq gp gn gm
 show vc _ _ _ _ (entry [.a [.xs 0 1 0 ai.length, .xs 1 1 0 aj.length, .xs 2 1 0 ak.length, .int an, .xs 3 5 0 ag.length, .int ao, .xs 4 5 0 ah.length, .q aq], .a [.int n1, .int n2, .int n3, .int n4, .int n5, .int n6, .int n7, .int n8, .int n9, .int ck], .str text, .int fr, .int to] [.rs aa ai, .rs ae aj, .rs ae ak, .rs ab ag, .rs ab ah]) _
 obtain ⟨ll,cq,hf0,al3,hft,htt,hts⟩:=hp
 have ll:ax.wg (ai,aj,ak,an,ag,ao,ah,aq) 1045000:=ll
 have cq:aZ.ok (cO (n1,n2,n3,n4,n5,n6,n7,n8,n9,ck)):=cq
 refine ?_
 all_goals first|refine au ?_|refine aw ?_|exact sa|(dsimp only [vV,pU];omega)|(dsimp only [eo,fD];omega)|exact sb|skip
 refine cI (l:=[(156,vV),(18,eo)]) (ex:=fun _=>true) (wr:=fun _=>false) (pt:=fun _=>false) ⟨TN,lY,tv⟩ [.s 2, .s 4, .s 5, .s 6, .s 10, .s 11, .b 1010, .b 1011] (fun y:Int×ax×aZ=>[(.s 13, .int y.1),(.b 1005, .a (lA 0 1 2 1000000001 1000000002 y.2.1)),(.b 0, .rs aa y.2.1.rows),(.b 1, .rs ae y.2.1.refs),(.b 2, .rs ae y.2.1.last),(.b 1000000001, .rs ab y.2.1.gone),(.b 1000000002, .rs ab y.2.1.dead),(.b 1006, .a [.int n1, .int n2, .int text.size, .int y.2.2.1, .int y.2.2.2.1, .int y.2.2.2.2.1, .int y.2.2.2.2.2.1, .int y.2.2.2.2.2.2.1, .int y.2.2.2.2.2.2.2.1, .int y.2.2.2.2.2.2.2.2])]) (fun y=>(0≤y.1∧y.1≤to+1)∧y.2.1.wg (1045000+6 * y.1.toNat)∧y.2.2.ok∧qD (to+1 - y.1).toNat y.1 y.2.1 y.2.2 text=qD (to+1 - fr).toNat fr (ai,aj,ak,an,ag,ao,ah,aq) (cO (n1,n2,n3,n4,n5,n6,n7,n8,n9,ck)) text) (fun y=>(to+1 - y.1).toNat) (fr,(ai,aj,ak,an,ag,ao,ah,aq),cO (n1,n2,n3,n4,n5,n6,n7,n8,n9,ck)) [(1000000001,3),(1000000002,4)] ⟨⟨hf0,hft⟩,ll.mono (Nat.le_add_right _ _),cq,rfl⟩ ru ?_
 rintro ⟨k,u,tt⟩ ⟨⟨(hk0:0≤k),(ET:k≤to+1)⟩,(hu:u.wg (1045000+6 * k.toNat)),(ht:tt.ok),(hr:qD (to+1 - k).toNat k u tt text=qD (to+1 - fr).toNat fr (ai,aj,ak,an,ag,ao,ah,aq) (cO (n1,n2,n3,n4,n5,n6,n7,n8,n9,ck)) text)⟩
 have hle:decide (k≤to)=true→k≤to:=fun h=>cw h
 have hpo:=fun h:k≤15=>nq (k:=k) (text:=eE text k) hu ht hk0 h
 have hg:=hu.g
 have hd:=hu.d
 have hx:(text.extract (k * 12).toNat (min (text.size:Int) ((k+1) * 12)).toNat).size≤1000000:=by rw [ByteArray.size_extract];omega
 refine ⟨fun w1=>⟨⟨?_,?_⟩,⟨?_,?_⟩,[.s 5, .b 1005],[.s 34],rfl,[.s 6],[.s 35],rfl,[.s 35, .b 1006],[.s 36],rfl,[.s 13],[.s 37],rfl,[.s 2],[.s 38],rfl,[.s 13],[.s 39],rfl,[.s 39],[.s 40],rfl,⟨?_,?_⟩,[.s 14],[.s 41],rfl,[.s 38, .s 40, .s 41],[.s 42],rfl,⟨?_,?_,?_⟩,[.s 42],[.s 43],rfl,⟨⟨tv,tv⟩,?_⟩,?_,fun x2 w3=>⟨[.s 34, .s 36, .s 37, .s 43, .b 0, .b 1, .b 2, .b 1000000001, .b 1000000002, .b 1000450001, .b 1000450000],[.s 44, .b 0, .b 1, .b 2, .b 1000000001, .b 1000000002, .b 1000450000, .b 1000450001],rfl,⟨⟨⟨tv,tv,tv,tv,tv,tv,tv,tv,tv⟩,⟨tv,tv,tv,tv,tv,tv,tv,tv⟩,tv,tv,tv⟩,⟨?_,?_,?_,?_,?_⟩,?_,?_,?_,?_,?_,?_,?_,?_⟩,?_,fun |false=>fun w4=>⟨[.s 44],[.s 33],rfl,[.s 33],[.s 45],rfl,[.s 33],[.s 46],rfl,[.s 33],[.s 47],rfl,[.b 1015],[.s 15, .b 1015],rfl,[.b 1016],[.s 16, .b 1016],rfl,[.s 15, .s 45, .b 1015],[.b 1015],rfl,[.s 16, .s 46, .b 1016],[.b 1016],rfl,[.s 47],[.s 17],rfl,fun w5=>⟨[.s 5, .b 1005],[.s 50],rfl,[.s 6, .b 1006],[.s 51],rfl,[.s 10, .s 50, .b 1010],[.b 1010],rfl,[.s 11, .s 51, .b 1011],[.b 1011],rfl,[],[.s 12],rfl,?_⟩,fun w6=>⟨⟨?_,?_⟩,?_⟩⟩ |true=>fun w7=>⟨[.s 44],[.s 33],rfl,[.s 33],[.s 45],rfl,[.s 33],[.s 46],rfl,[.s 33],[.s 47],rfl,[.b 1015],[.s 15, .b 1015],rfl,[.b 1016],[.s 16, .b 1016],rfl,[.s 15, .s 45, .b 1015],[.b 1015],rfl,[.s 16, .s 46, .b 1016],[.b 1016],rfl,[.s 47],[.s 17],rfl,fun w8=>⟨[.s 5, .b 1005],[.s 50],rfl,[.s 6, .b 1006],[.s 51],rfl,[.s 10, .s 50, .b 1010],[.b 1010],rfl,[.s 11, .s 51, .b 1011],[.b 1011],rfl,[],[.s 12],rfl,?_⟩,fun w9=>⟨⟨?_,?_⟩,?_⟩⟩⟩⟩,fun df=>⟨[.s 5, .b 1005],[.s 55],rfl,[.s 6, .b 1006],[.s 56],rfl,[.s 10, .s 55, .b 1010],[.b 1010],rfl,[.s 11, .s 56, .b 1011],[.b 1011],rfl,[],[.s 12],rfl,?_⟩⟩
 all_goals first|refine au ?_|refine aw ?_|exact sa|(dsimp only [vV,pU];omega)|(dsimp only [eo,fD];omega)|exact sb|exact hu.wf|exact ht.rd|exact ht.m1|exact Nat.le_trans hg (by have:=hle w1;omega)|exact Nat.le_trans hd (by have:=hle w1;omega)|exact ⟨_,rfl⟩|(have:=hle w1;omega)|skip
 ·exact hx
 ·exact Nat.le_trans acu hx
 ·have hk:=hle w1
  have hz:(aU u tt k (eE text k)).2.2=false:=(show false=(aU u tt k (eE text k)).2.2 from w4).symm
  have xl:=(hpo (by omega)).2.2 hz
  have e0:qD (to+1 - fr).toNat fr (ai,aj,ak,an,ag,ao,ah,aq) (cO (n1,n2,n3,n4,n5,n6,n7,n8,n9,ck)) text=((aU u tt k (eE text k)).1,tt,false):=by rw [←hr,show (to+1 - k).toNat=(to - k).toNat+1 by omega,V4 hz]
  have e:=ZG e0
  refine ⟨[1000000001,1000000002],[],_,_,_,rfl,rp,(),0,tv,?_,?_,rfl⟩
  ·(show _=py (ai,aj,ak,an,ag,ao,ah,aq) (n1,n2,n3,n4,n5,n6,n7,n8,n9,ck) text fr to);unfold py;first |(rw [e];rfl) |(rw [e];exact congrArg (fun x=>AV.t [A0.a x,ndA (kb (n1,n2,n3,n4,n5,n6,n7,n8,n9,ck) text.size tt),A0.s (SV.q false)]) (nD (b0:=0) (b1:=1) (b2:=2) (b3:=5) (b4:=6) xl hu.wf)) |(rw [e];have h3:=xl.gone;have h4:=xl.dead;exact congr (congrArg (fun (a b:List Pt)=>[AV.rs aa (aU u tt k (eE text k)).1.rows,AV.rs ae (aU u tt k (eE text k)).1.refs,AV.rs ae (aU u tt k (eE text k)).1.last,AV.zz,AV.zz,AV.rs ab a,AV.rs ab b]) h3.symm) h4.symm) |rfl
  ·(show _=r9 (ai,aj,ak,an,ag,ao,ah,aq) (n1,n2,n3,n4,n5,n6,n7,n8,n9,ck) text fr to);unfold r9;first |(rw [e];rfl) |(rw [e];exact congrArg (fun x=>AV.t [A0.a x,ndA (kb (n1,n2,n3,n4,n5,n6,n7,n8,n9,ck) text.size tt),A0.s (SV.q false)]) (nD (b0:=0) (b1:=1) (b2:=2) (b3:=5) (b4:=6) xl hu.wf)) |(rw [e];have h3:=xl.gone;have h4:=xl.dead;exact congr (congrArg (fun (a b:List Pt)=>[AV.rs aa (aU u tt k (eE text k)).1.rows,AV.rs ae (aU u tt k (eE text k)).1.refs,AV.rs ae (aU u tt k (eE text k)).1.last,AV.zz,AV.zz,AV.rs ab a,AV.rs ab b]) h3.symm) h4.symm) |rfl
 ·exact absurd (show true=false from w6) Bool.noConfusion
 ·exact absurd (show false=true from w8) Bool.noConfusion
 ·have hk:=hle w1
  have hz:(aU u tt k (eE text k)).2.2=true:=(show true=(aU u tt k (eE text k)).2.2 from w7).symm
  have h2:=hpo (by omega)
  refine ⟨(k+1,(aU u tt k (eE text k)).1,(aU u tt k (eE text k)).2.1),[(1000000001,1000450000),(1000000002,1000450001)],?_,?_,?_⟩
  rotate_right
  ·exact rq
  ·refine ⟨⟨by show 0≤k+1;omega,by show k+1≤to+1;omega⟩,h2.1.mono (by show 1045000+6 * k.toNat+6≤1045000+6 * (k+1).toNat;omega),h2.2.1,?_⟩
   show qD (to+1 - (k+1)).toNat (k+1) (aU u tt k (eE text k)).1 (aU u tt k (eE text k)).2.1 text=_
   rw [←hr,show (to+1 - k).toNat=(to+1 - (k+1)).toNat+1 by omega,V3 hz]
  ·show (to+1 - (k+1)).toNat < (to+1 - k).toNat;omega
 ·have FJ:¬k≤to:=ca (p:=k≤to) df
  have e0:qD (to+1 - fr).toNat fr (ai,aj,ak,an,ag,ao,ah,aq) (cO (n1,n2,n3,n4,n5,n6,n7,n8,n9,ck)) text=(u,tt,true):=by rw [←hr,show (to+1 - k).toNat=0 by omega];rfl
  have e:=ZG e0
  refine ⟨[1000000001,1000000002],[],_,_,_,rfl,rp,(),0,tv,?_,?_,rfl⟩
  ·(show _=py (ai,aj,ak,an,ag,ao,ah,aq) (n1,n2,n3,n4,n5,n6,n7,n8,n9,ck) text fr to);unfold py;first |(rw [e];rfl) |rfl
  ·(show _=r9 (ai,aj,ak,an,ag,ao,ah,aq) (n1,n2,n3,n4,n5,n6,n7,n8,n9,ck) text fr to);unfold r9;first |(rw [e];rfl) |rfl
end GL
end Go.Proofs.YtbfgjadbfjkcdaaGreatDoor
