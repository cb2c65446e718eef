/- FnTreeOk returns true for every code (its row lists package variables, tied by the card): part 27. -/
import Derived.Test.YtbfgjadbfjkcdaaGreatDoorPal
import Derived.Test.YtbfgjadbfjkcdaaGreatDoorPas
import Derived.Test.YtbfgjadbfjkcdaaGreatDoorPat
import Derived.Test.YtbfgjadbfjkcdaaGreatDoorPau
import Derived.Test.YtbfgjadbfjkcdaaGreatDoorPaz
set_option maxHeartbeats 20000000
set_option linter.all false
namespace Go.Proofs.YtbfgjadbfjkcdaaGreatDoor
namespace GL
theorem JK:∀{l:List ByteArray}{out:ByteArray},out.size≤2048→(dC l out).1.size≤2048
 |[],out,h=>h
 |x::l,out,h=>by
  cases h1:decide ((x.size:Int)>2048) with
  |true=>rw [NC h1];exact ZA8 _
  |false=>cases h2:decide (((out++ca x.size++⟨#[58]⟩++x).size:Int)>2048) with
   |true=>rw [NB h2];exact ZA8 _
   |false=>rw [NA h1 h2];exact JK (by have:=aA h2;omega)
theorem P2 (l:List ByteArray):(cG l).1.size≤2048:=by
 cases h:decide ((l.length:Int)≤60) with
 |true=>rw [gG h];exact JK (ZA8 _)
 |false=>rw [tT h];exact ZA8 _
theorem XC (n:fu):(aC n).size≤2048:=by
 unfold aC
 cases cy n with
 |false=>exact ZA8 _
 |true=>exact P2 _
def tn (S:ay) (t:bf) (k:Int) (n:fu):Prop:=S.wg 1046000∧t.ok∧0≤k∧k≤15
def pO (S:ay) (t:bf) (k:Int) (n:fu):AV:=.t [.a (k9 0 1 2 5 6 (aY S t k (aC n)).1),trA (aY S t k (aC n)).2.1,.s (.q (aY S t k (aC n)).2.2)]
def ss (S:ay) (t:bf) (k:Int) (n:fu):List AV:=[.rs ab (aY S t k (aC n)).1.rows,.rs ag (aY S t k (aC n)).1.refs,.rs ag (aY S t k (aC n)).1.last,.zz,.zz,.rs ae (aY S t k (aC n)).1.gone,.rs ae (aY S t k (aC n)).1.dead]
def v7:Con where
 A:=[.a (stB 0 1 2 3 4),.a [.int,.int,.int,.int,.int,.int,.int],.s .int,.a [.int,.int,.int,.int,.int,.int,.int,.int,.int,.int]]
 B:=[.r ab,.r ag,.r ag,.r ae,.r ae]
 pre:=fun x b=>whole x.1.1 x.1.2.1 x.1.2.2.1 x.1.2.2.2.2.1 x.1.2.2.2.2.2.2.1 (b.1) (b.2.1) (b.2.2.1) (b.2.2.2.1) (b.2.2.2.2)∧tn ((b.1,b.2.1,b.2.2.1,x.1.2.2.2.1,b.2.2.2.1,x.1.2.2.2.2.2.1,b.2.2.2.2,x.1.2.2.2.2.2.2.2)) (x.2.1) (x.2.2.1) (x.2.2.2)
 α:=fun _ _=>Unit
 φ:=fun _ _ _=>True
 r:=fun x b _=>pO ((b.1,b.2.1,b.2.2.1,x.1.2.2.2.1,b.2.2.2.1,x.1.2.2.2.2.2.1,b.2.2.2.2,x.1.2.2.2.2.2.2.2)) (x.2.1) (x.2.2.1) (x.2.2.2)
 o:=fun x b _=>ss ((b.1,b.2.1,b.2.2.1,x.1.2.2.2.1,b.2.2.2.1,x.1.2.2.2.2.2.1,b.2.2.2.2,x.1.2.2.2.2.2.2.2)) (x.2.1) (x.2.2.1) (x.2.2.2)
 nf:=2
 mv:=true
set_option maxRecDepth 100000 in
theorem TT:Has Tryz.prog 63 v7:=by
 refine Has.ofZ (fun _=>true) (fun _=>false) (fun _=>false) (l:=[(77,sT),(18,eB)]) ⟨MV,mb,trivial⟩ (fn:=Tryz.f63) Tryz.func63 rfl (by decide) (aZ rfl) ?_
 rintro⟨⟨(A3:Nat),(A2:Nat),(A1:Nat),(ao:Int),(AZ:Nat),(aq:Int),(AY:Nat),(ar:Bool)⟩,⟨(t1:Int),(t2:Int),(t3:Int),(t4:Int),(t5:Int),(t6:Int),(t7:Int)⟩,(k:Int),⟨(n1:Int),(n2:Int),(n3:Int),(n4:Int),(n5:Int),(n6:Int),(n7:Int),(n8:Int),(n9:Int),(cx:Int)⟩⟩ ⟨(aj:List ByteArray),(ak:List Int),(an:List Int),(ah:List Pt),(ai:List Pt)⟩ ⟨⟨(gE:A3=List.length aj),(gD:A2=List.length ak),(gC:A1=List.length an),(gB:AZ=List.length ah),(gA:AY=List.length ai)⟩,(hp:tn (aj,ak,an,ao,ah,aq,ai,ar) (t1,t2,t3,t4,t5,t6,t7) k (n1,n2,n3,n4,n5,n6,n7,n8,n9,cx))⟩
 subst gE gD gC gB gA
 show vc _ _ _ _ (entry [.a [.xs 0 1 0 aj.length,.xs 1 1 0 ak.length,.xs 2 1 0 an.length,.int ao,.xs 3 5 0 ah.length,.int aq,.xs 4 5 0 ai.length,.q ar],.a [.int t1,.int t2,.int t3,.int t4,.int t5,.int t6,.int t7],.int k,.a [.int n1,.int n2,.int n3,.int n4,.int n5,.int n6,.int n7,.int n8,.int n9,.int cx]] [.rs ab aj,.rs ag ak,.rs ag an,.rs ae ah,.rs ae ai]) _
 obtain⟨lB,cA,hk0,E8⟩:=hp
 have lB:ay.wg (aj,ak,an,ao,ah,aq,ai,ar) 1046000:=lB
 have cA:bf.ok (t1,t2,t3,t4,t5,t6,t7):=cA
 have dk:=XC (n1,n2,n3,n4,n5,n6,n7,n8,n9,cx)
 refine⟨[.s 4,.b 1004],[.s 11],rfl,[.s 5,.b 1005],[.s 12],rfl,[.s 2],[.s 13],rfl,[.s 7,.b 1007],[.s 14],rfl,[.s 14],[.s 15],rfl,⟨⟨⟨aa,aa,aa,aa,aa,aa,aa,aa,aa,aa,aa⟩,aa⟩,aa⟩,?_,fun x1 w2=>⟨[.s 11,.s 12,.s 13,.s 15,.b 0,.b 1,.b 2,.b 3,.b 4,.b 1000170001,.b 1000170000],[.s 16,.b 0,.b 1,.b 2,.b 3,.b 4,.b 1000170000,.b 1000170001],rfl,⟨⟨⟨aa,aa,aa,aa,aa,aa,aa,aa,aa⟩,⟨aa,aa,aa,aa,aa,aa,aa,aa⟩,aa,aa,aa⟩,⟨?_,?_,?_,?_,?_⟩,?_,?_,?_,?_,?_,?_,?_,?_⟩,?_,fun |false=>fun w3=>⟨[.s 16],[.s 17],rfl,[.s 16],[.s 18],rfl,[.s 16],[.s 19],rfl,[.s 8,.s 17,.b 1008],[.b 1008],rfl,[.s 9,.s 18,.b 1009],[.b 1009],rfl,[.s 19],[.s 10],rfl,?_⟩ |true=>fun w4=>⟨[.s 16],[.s 17],rfl,[.s 16],[.s 18],rfl,[.s 16],[.s 19],rfl,[.s 8,.s 17,.b 1008],[.b 1008],rfl,[.s 9,.s 18,.b 1009],[.b 1009],rfl,[.s 19],[.s 10],rfl,?_⟩⟩⟩
 all_goals first|refine aw ?_|refine ax ?_|exact ba|(dsimp only [sT,rl];omega)|(dsimp only [eB,fL];omega)|exact a8|exact lB.wf|exact cA.rd|exact cA.m1|exact lB.g|exact lB.d|exact ZB1 dk (by decide)|exact⟨_,rfl⟩|skip
 ·have hz:(aY (aj,ak,an,ao,ah,aq,ai,ar) (t1,t2,t3,t4,t5,t6,t7) k (aC (n1,n2,n3,n4,n5,n6,n7,n8,n9,cx))).2.2=false:=(show false=(aY (aj,ak,an,ao,ah,aq,ai,ar) (t1,t2,t3,t4,t5,t6,t7) k (aC (n1,n2,n3,n4,n5,n6,n7,n8,n9,cx))).2.2 from w3).symm
  refine⟨[3,4],[],_,_,_,rfl,az,(),0,aa,?_,?_,rfl⟩
  ·(show _=pO (aj,ak,an,ao,ah,aq,ai,ar) (t1,t2,t3,t4,t5,t6,t7) k (n1,n2,n3,n4,n5,n6,n7,n8,n9,cx));unfold pO;first|(rw [hz];rfl)|rfl
  ·(show _=ss (aj,ak,an,ao,ah,aq,ai,ar) (t1,t2,t3,t4,t5,t6,t7) k (n1,n2,n3,n4,n5,n6,n7,n8,n9,cx));unfold ss;first|(rw [hz];rfl)|rfl
 ·have hz:(aY (aj,ak,an,ao,ah,aq,ai,ar) (t1,t2,t3,t4,t5,t6,t7) k (aC (n1,n2,n3,n4,n5,n6,n7,n8,n9,cx))).2.2=true:=(show true=(aY (aj,ak,an,ao,ah,aq,ai,ar) (t1,t2,t3,t4,t5,t6,t7) k (aC (n1,n2,n3,n4,n5,n6,n7,n8,n9,cx))).2.2 from w4).symm
  refine⟨[1000170000,1000170001],[],_,_,_,rfl,az,(),0,aa,?_,?_,rfl⟩
  ·(show _=pO (aj,ak,an,ao,ah,aq,ai,ar) (t1,t2,t3,t4,t5,t6,t7) k (n1,n2,n3,n4,n5,n6,n7,n8,n9,cx));unfold pO;first|(rw [hz];rfl)|rfl
  ·(show _=ss (aj,ak,an,ao,ah,aq,ai,ar) (t1,t2,t3,t4,t5,t6,t7) k (n1,n2,n3,n4,n5,n6,n7,n8,n9,cx));unfold ss;first|(rw [hz];rfl)|rfl
theorem ada:∀{f:Nat}{s:ByteArray},∀x∈pcF f s,x.size≤s.size
 |0,s,x,h=>by cases h
 |f+1,s,x,h=>by
  cases h1:decide ((s.size:Int)>128) with
  |true=>
   rw [adf h1] at h
   rcases ZB9.1 h with h |h
   ·rw [h,ZC5];omega
   ·have:=ada x h
    rw [ZC5] at this;omega
  |false=>cases h2:decide (s≠⟨#[]⟩) with
   |true=>rw [ade h1 h2] at h;rw [ZC7.1 h];exact ZB6 _
   |false=>rw [adb h1 h2] at h;cases h
theorem akv {b0 b1 b2 b3 b4:Nat}{s u:ay}(hs:s.wf) (hu:u.wf) (h1:u.gone=s.gone) (h2:u.dead=s.dead) (h3:u.ck=s.ck) (h4:u.bY=s.bY) (h5:u.same=s.same):k9 b0 b1 b2 b3 b4 s=k9 b0 b1 b2 b3 b4 u:=by
 unfold k9
 rw [hu.n.1,hu.n.2.1,hu.n.2.2,hs.n.1,hs.n.2.1,hs.n.2.2,h1,h2,h3,h4,h5]
def B6 (S:ay) (t:bf) (text:ByteArray):Prop:=S.wg 1045000∧t.ok∧text.size≤1000000
def jM (S:ay) (t:bf) (text:ByteArray):AV:=.t [.a (k9 0 1 2 5 6 (dH S t text).1),trA (dH S t text).2.1,.s (.q (dH S t text).2.2)]
def l6 (S:ay) (t:bf) (text:ByteArray):List AV:=[.rs ab (dH S t text).1.rows,.rs ag (dH S t text).1.refs,.rs ag (dH S t text).1.last,.zz,.zz,.rs ae (dH S t text).1.gone,.rs ae (dH S t text).1.dead]
def P9:Con where
 A:=[.a (stB 0 1 2 3 4),.a [.int,.int,.int,.int,.int,.int,.int],.s .str]
 B:=[.r ab,.r ag,.r ag,.r ae,.r ae]
 pre:=fun x b=>whole x.1.1 x.1.2.1 x.1.2.2.1 x.1.2.2.2.2.1 x.1.2.2.2.2.2.2.1 (b.1) (b.2.1) (b.2.2.1) (b.2.2.2.1) (b.2.2.2.2)∧B6 ((b.1,b.2.1,b.2.2.1,x.1.2.2.2.1,b.2.2.2.1,x.1.2.2.2.2.2.1,b.2.2.2.2,x.1.2.2.2.2.2.2.2)) (x.2.1) (x.2.2)
 α:=fun _ _=>Unit
 φ:=fun _ _ _=>True
 r:=fun x b _=>jM ((b.1,b.2.1,b.2.2.1,x.1.2.2.2.1,b.2.2.2.1,x.1.2.2.2.2.2.1,b.2.2.2.2,x.1.2.2.2.2.2.2.2)) (x.2.1) (x.2.2)
 o:=fun x b _=>l6 ((b.1,b.2.1,b.2.2.1,x.1.2.2.2.1,b.2.2.2.1,x.1.2.2.2.2.2.1,b.2.2.2.2,x.1.2.2.2.2.2.2.2)) (x.2.1) (x.2.2)
 nf:=2
 mv:=true
set_option maxRecDepth 100000 in
theorem age:Has Tryz.prog 130 P9:=by
 refine Has.ofZ (fun _=>true) (fun _=>false) (fun _=>false) (l:=[(153,qB),(18,eB),(135,ml)]) ⟨IP,mb,zR,trivial⟩ (fn:=Tryz.f130) Tryz.func130 rfl (by decide) (aZ rfl) ?_
 rintro⟨⟨(A3:Nat),(A2:Nat),(A1:Nat),(ao:Int),(AZ:Nat),(aq:Int),(AY:Nat),(ar:Bool)⟩,⟨(t1:Int),(t2:Int),(t3:Int),(t4:Int),(t5:Int),(t6:Int),(t7:Int)⟩,(text:ByteArray)⟩ ⟨(aj:List ByteArray),(ak:List Int),(an:List Int),(ah:List Pt),(ai:List Pt)⟩ ⟨⟨(gE:A3=List.length aj),(gD:A2=List.length ak),(gC:A1=List.length an),(gB:AZ=List.length ah),(gA:AY=List.length ai)⟩,(hp:B6 (aj,ak,an,ao,ah,aq,ai,ar) (t1,t2,t3,t4,t5,t6,t7) text)⟩
 subst gE gD gC gB gA
 show vc _ _ _ _ (entry [.a [.xs 0 1 0 aj.length,.xs 1 1 0 ak.length,.xs 2 1 0 an.length,.int ao,.xs 3 5 0 ah.length,.int aq,.xs 4 5 0 ai.length,.q ar],.a [.int t1,.int t2,.int t3,.int t4,.int t5,.int t6,.int t7],.str text] [.rs ab aj,.rs ag ak,.rs ag an,.rs ae ah,.rs ae ai]) _
 obtain⟨lB,cA,hts⟩:=hp
 have lB:ay.wg (aj,ak,an,ao,ah,aq,ai,ar) 1045000:=lB
 have cA:bf.ok (t1,t2,t3,t4,t5,t6,t7):=cA
 have hps:∀x∈kH text,x.size≤1000000:=fun x hx=>ZB1 (ada x hx) hts
 refine⟨⟨⟨aa,aa⟩,?_⟩,fun x1 w2=>⟨fun w3=>⟨[.s 3,.b 1003],[.s 19],rfl,[.s 4,.b 1004],[.s 20],rfl,[.s 6,.s 19,.b 1006],[.b 1006],rfl,[.s 7,.s 20,.b 1007],[.b 1007],rfl,[],[.s 8],rfl,?_⟩,fun w4=>?_⟩⟩
 all_goals first|refine aw ?_|refine ax ?_|exact ba|(dsimp only [qB,lP];omega)|(dsimp only [eB,fL];omega)|(dsimp only [ml,mP];omega)|exact a8|skip
 ·have e:dH (aj,ak,an,ao,ah,aq,ai,ar) (t1,t2,t3,t4,t5,t6,t7) text=((aj,ak,an,ao,ah,aq,ai,ar),(t1,t2,t3,t4,t5,t6,t7),false):=by unfold dH;rw [w3];rfl
  refine⟨[3,4],[],_,_,_,rfl,az,(),0,aa,?_,?_,rfl⟩
  ·(show _=jM (aj,ak,an,ao,ah,aq,ai,ar) (t1,t2,t3,t4,t5,t6,t7) text);unfold jM;first|(rw [e];rfl)|rfl
  ·(show _=l6 (aj,ak,an,ao,ah,aq,ai,ar) (t1,t2,t3,t4,t5,t6,t7) text);unfold l6;first|(rw [e];rfl)|rfl
 ·have hl:=aA w4
  have hM:dH (aj,ak,an,ao,ah,aq,ai,ar) (t1,t2,t3,t4,t5,t6,t7) text=KM (iX (kH text) 0 (aj,ak,an,ao,ah,aq,ai,ar) (t1,t2,t3,t4,t5,t6,t7)) (kH text).length:=by unfold dH;rw [w4];rfl
  refine cO (l:=[(153,qB),(18,eB),(135,ml)]) (ex:=fun _=>true) (wr:=fun _=>false) (pt:=fun _=>false) ⟨IP,mb,zR,aa⟩ [.s 6,.s 7,.b 1006,.b 1007,.s 9,.b 160000] (fun y:Nat×ay×bf=>[(.s 3,.s (.bp 1003 0)),(.s 4,.s (.bp 1004 0)),(.s 10,.int y.1),(.b 1003,.a (k9 0 1 2 1000000001 1000000002 y.2.1)),(.b 0,.rs ab y.2.1.rows),(.b 1,.rs ag y.2.1.refs),(.b 2,.rs ag y.2.1.last),(.b 1000000001,.rs ae y.2.1.gone),(.b 1000000002,.rs ae y.2.1.dead),(.b 1004,.a [.int y.2.2.1,.int y.2.2.2.1,.int y.2.2.2.2.1,.int y.2.2.2.2.2.1,.int y.2.2.2.2.2.2.1,.int y.2.2.2.2.2.2.2.1,.int y.2.2.2.2.2.2.2.2])]) (fun y=>y.2.1.wg (1045000+6*y.1)∧y.2.2.ok∧y.1≤(kH text).length∧iX ((kH text).drop y.1) y.1 y.2.1 y.2.2=iX (kH text) 0 (aj,ak,an,ao,ah,aq,ai,ar) (t1,t2,t3,t4,t5,t6,t7)) (fun y=>(kH text).length-y.1) (0,(aj,ak,an,ao,ah,aq,ai,ar),(t1,t2,t3,t4,t5,t6,t7)) [(1000000001,3),(1000000002,4)] ⟨lB,cA,ZA8 _,rfl⟩ dN ?_
  rintro⟨i,u,tt⟩ ⟨(hu:u.wg (1045000+6*i)),(ht:tt.ok),(hi:i≤(kH text).length),(hr:iX ((kH text).drop i) i u tt=iX (kH text) 0 (aj,ak,an,ao,ah,aq,ai,ar) (t1,t2,t3,t4,t5,t6,t7))⟩
  have bU:decide ((i:Int)<((kH text).length:Int))=true→i<(kH text).length:=fun h=>by have:=aE h;omega
  have hxs:i<(kH text).length→(nth ab (kH text) i).size≤1000000:=fun h=>hps _ (bT (ek:=ab) h)
  have hpo:=fun h:i<16=>ny (k:=(i:Int)) (text:=nth ab (kH text) i) hu ht (by omega) (by omega)
  have ajS:∀r,iX (kH text) 0 (aj,ak,an,ao,ah,aq,ai,ar) (t1,t2,t3,t4,t5,t6,t7)=r→r.2.2=false→dH (aj,ak,an,ao,ah,aq,ai,ar) (t1,t2,t3,t4,t5,t6,t7) text=r:=fun r h1 h2=>by rw [hM,h1];unfold KM;rw [h2];rfl
  refine⟨fun w1=>⟨[.s 3,.b 1003],[.s 28],rfl,[.s 4,.b 1004],[.s 29],rfl,[.s 10],[.s 30],rfl,[.s 9],[.s 31],rfl,[.s 10],[.s 32],rfl,[.s 31,.s 32],[.s 33],rfl,⟨?_,?_⟩,[.s 33,.b 160000],[.s 34],rfl,?_,[.s 28,.s 29,.s 30,.s 34,.b 0,.b 1,.b 2,.b 1000000001,.b 1000000002,.b 1000360001,.b 1000360000],[.s 35,.b 0,.b 1,.b 2,.b 1000000001,.b 1000000002,.b 1000360000,.b 1000360001],rfl,⟨⟨⟨aa,aa,aa,aa,aa,aa,aa,aa,aa⟩,⟨aa,aa,aa,aa,aa,aa,aa,aa⟩,aa,aa,aa⟩,⟨?_,?_,?_,?_,?_⟩,?_,?_,?_,?_,?_,?_,?_,?_⟩,?_,fun |false=>fun w2=>⟨[.s 35],[.s 27],rfl,[.s 27],[.s 36],rfl,[.s 27],[.s 37],rfl,[.s 27],[.s 38],rfl,[.b 1011],[.s 11,.b 1011],rfl,[.b 1012],[.s 12,.b 1012],rfl,[.s 11,.s 36,.b 1011],[.b 1011],rfl,[.s 12,.s 37,.b 1012],[.b 1012],rfl,[.s 38],[.s 13],rfl,fun w3=>⟨[.s 3,.b 1003],[.s 41],rfl,[.s 4,.b 1004],[.s 42],rfl,[.s 6,.s 41,.b 1006],[.b 1006],rfl,[.s 7,.s 42,.b 1007],[.b 1007],rfl,[],[.s 8],rfl,?_⟩,fun w4=>⟨⟨?_,?_⟩,?_⟩⟩ |true=>fun w5=>⟨[.s 35],[.s 27],rfl,[.s 27],[.s 36],rfl,[.s 27],[.s 37],rfl,[.s 27],[.s 38],rfl,[.b 1011],[.s 11,.b 1011],rfl,[.b 1012],[.s 12,.b 1012],rfl,[.s 11,.s 36,.b 1011],[.b 1011],rfl,[.s 12,.s 37,.b 1012],[.b 1012],rfl,[.s 38],[.s 13],rfl,fun w6=>⟨[.s 3,.b 1003],[.s 41],rfl,[.s 4,.b 1004],[.s 42],rfl,[.s 6,.s 41,.b 1006],[.b 1006],rfl,[.s 7,.s 42,.b 1007],[.b 1007],rfl,[],[.s 8],rfl,?_⟩,fun w7=>⟨⟨?_,?_⟩,?_⟩⟩⟩,fun w8=>⟨⟨⟨⟨aa,aa,aa,aa,aa,aa,aa,aa,aa⟩,⟨aa,aa,aa,aa,aa,aa,aa,aa⟩,aa,aa⟩,⟨?_,?_,?_,?_,?_⟩,?_,?_,?_,?_,?_,?_⟩,fun |false=>fun w9=>?_ |true=>fun dq=>?_⟩⟩
  all_goals first|refine aw ?_|refine ax ?_|exact ba|(dsimp only [qB,lP];omega)|(dsimp only [eB,fL];omega)|(dsimp only [ml,mP];omega)|exact a8|exact bU w1|exact hu.wf|exact ht.rd|exact ht.m1|exact ZB1 hu.g (by omega)|exact ZB1 hu.d (by omega)|exact hxs (bU w1)|exact⟨_,rfl⟩|exact Int.natCast_nonneg _|(show ((kH text).length:Int)≤16;omega)|skip
  ·have mz:=bU w1
   have hz:(aY u tt i (nth ab (kH text) i)).2.2=false:=(show false=(aY u tt i (nth ab (kH text) i)).2.2 from w2).symm
   have xw:=(hpo (by omega)).2.2 hz
   have e:dH (aj,ak,an,ao,ah,aq,ai,ar) (t1,t2,t3,t4,t5,t6,t7) text=((aY u tt i (nth ab (kH text) i)).1,tt,false):=ajS _ (by rw [←hr,bZ (ek:=ab) mz,OM hz]) rfl
   refine⟨[1000000001,1000000002],[],_,_,_,rfl,az,(),0,aa,?_,?_,rfl⟩
   ·(show _=jM (aj,ak,an,ao,ah,aq,ai,ar) (t1,t2,t3,t4,t5,t6,t7) text);unfold jM;first|(rw [e];rfl)|(rw [e];exact congrArg (fun x=>AV.t [A0.a x,trA tt,A0.s (SV.q false)]) (nK (b0:=0) (b1:=1) (b2:=2) (b3:=5) (b4:=6) xw hu.wf))|(rw [e];have h3:=xw.gone;have h4:=xw.dead;exact congr (congrArg (fun (a b:List Pt)=>[AV.rs ab (aY u tt i (nth ab (kH text) i)).1.rows,AV.rs ag (aY u tt i (nth ab (kH text) i)).1.refs,AV.rs ag (aY u tt i (nth ab (kH text) i)).1.last,AV.zz,AV.zz,AV.rs ae a,AV.rs ae b]) h3.symm) h4.symm)|rfl
   ·(show _=l6 (aj,ak,an,ao,ah,aq,ai,ar) (t1,t2,t3,t4,t5,t6,t7) text);unfold l6;first|(rw [e];rfl)|(rw [e];exact congrArg (fun x=>AV.t [A0.a x,trA tt,A0.s (SV.q false)]) (nK (b0:=0) (b1:=1) (b2:=2) (b3:=5) (b4:=6) xw hu.wf))|(rw [e];have h3:=xw.gone;have h4:=xw.dead;exact congr (congrArg (fun (a b:List Pt)=>[AV.rs ab (aY u tt i (nth ab (kH text) i)).1.rows,AV.rs ag (aY u tt i (nth ab (kH text) i)).1.refs,AV.rs ag (aY u tt i (nth ab (kH text) i)).1.last,AV.zz,AV.zz,AV.rs ae a,AV.rs ae b]) h3.symm) h4.symm)|rfl
  ·exact absurd (show true=false from w4) Bool.noConfusion
  ·exact absurd (show false=true from w6) Bool.noConfusion
  ·have mz:=bU w1
   have hz:(aY u tt i (nth ab (kH text) i)).2.2=true:=(show true=(aY u tt i (nth ab (kH text) i)).2.2 from w5).symm
   have h2:=hpo (by omega)
   refine⟨(i+1,(aY u tt i (nth ab (kH text) i)).1,(aY u tt i (nth ab (kH text) i)).2.1),[(1000000001,1000360000),(1000000002,1000360001)],?_,?_,?_⟩
   rotate_right
   ·exact bX
   ·exact⟨h2.1.mono (by show 1045000+6*i+6≤1045000+6*(i+1);omega),h2.2.1,mz,by rw [←hr,bZ (ek:=ab) mz,OL hz]⟩
   ·show (kH text).length-(i+1)<(kH text).length-i;omega
  ·have FX:=aA (p:=(i:Int)<((kH text).length:Int)) w8
   have e0:iX (kH text) 0 (aj,ak,an,ao,ah,aq,ai,ar) (t1,t2,t3,t4,t5,t6,t7)=(u,tt,true):=by rw [←hr,ZB4 (by omega)];rfl
   have hz:(cH u tt (kH text).length).2.2=false:=(show false=(cH u tt (kH text).length).2.2 from w9).symm
   have e:dH (aj,ak,an,ao,ah,aq,ai,ar) (t1,t2,t3,t4,t5,t6,t7) text=cH u tt (kH text).length:=by rw [hM,e0];rfl
   refine⟨[1000000001,1000000002],[],_,_,_,rfl,az,(),0,aa,?_,?_,rfl⟩
   ·(show _=jM (aj,ak,an,ao,ah,aq,ai,ar) (t1,t2,t3,t4,t5,t6,t7) text);unfold jM;first|(rw [e,hz];rfl)|(rw [e];rfl)|rfl
   ·(show _=l6 (aj,ak,an,ao,ah,aq,ai,ar) (t1,t2,t3,t4,t5,t6,t7) text);unfold l6;first|(rw [e,hz];rfl)|(rw [e];rfl)|rfl
  ·have FX:=aA (p:=(i:Int)<((kH text).length:Int)) w8
   have e0:iX (kH text) 0 (aj,ak,an,ao,ah,aq,ai,ar) (t1,t2,t3,t4,t5,t6,t7)=(u,tt,true):=by rw [←hr,ZB4 (by omega)];rfl
   have hz:(cH u tt (kH text).length).2.2=true:=(show true=(cH u tt (kH text).length).2.2 from dq).symm
   have e:dH (aj,ak,an,ao,ah,aq,ai,ar) (t1,t2,t3,t4,t5,t6,t7) text=cH u tt (kH text).length:=by rw [hM,e0];rfl
   refine⟨[1000500000,1000500001],[],_,_,_,rfl,az,(),0,aa,?_,?_,rfl⟩
   ·(show _=jM (aj,ak,an,ao,ah,aq,ai,ar) (t1,t2,t3,t4,t5,t6,t7) text);unfold jM;first|(rw [e,hz];rfl)|(rw [e];rfl)|rfl
   ·(show _=l6 (aj,ak,an,ao,ah,aq,ai,ar) (t1,t2,t3,t4,t5,t6,t7) text);unfold l6;first|(rw [e,hz];rfl)|(rw [e];rfl)|rfl
end GL
namespace GL
theorem F6 {s:ay}:∀{f:Nat}{l out r:List Pt},j8 f s l out=some r→(∀p∈l,a6 p=true)→(∀p∈out,a6 p=true)→(∀p∈r,a6 p=true)∧r.length≤out.length+f
 |0,l,out,r,h,_,_=>by rw [j8] at h;cases h
 |f+1,[],out,r,h,_,ho=>by rw [j8] at h;have h:=ZE7 h;rw [←h];exact⟨ho,by omega⟩
 |f+1,p::l,out,r,h,hl,ho=>by
  have hp:=hl p (by simp)
  have hl':∀q∈l,a6 q=true:=fun q hq=>hl q (by simp [hq])
  have ho':∀q∈out++[p],a6 q=true:=fun q hq=>by
   rcases ZB5.1 hq with hq |hq
   ·exact ho q hq
   ·rw [ZC7.1 hq];exact hp
  have hlen:(out++[p]).length=out.length+1:=by rw [ZA0];rfl
  rw [j8] at h
  cases hh:au p with
  |true=>rw [hh,cond_true] at h;have:=F6 h hl' ho;exact⟨this.1,by omega⟩
  |false=>
   rw [hh,cond_false] at h
   cases hv:decide (p.2.2.2.2>0) with
   |true=>
    rw [hv,cond_true] at h
    have:=F6 h (fun q hq=>by
     rcases ZB5.1 hq with hq |hq
     ·exact sU s p _ q hq
     ·exact hl' q hq) ho'
    exact⟨this.1,by have:=this.2;omega⟩
   |false=>rw [hv,cond_false] at h;have:=F6 h hl' ho';exact⟨this.1,by have:=this.2;omega⟩
theorem aaQ {s:ay}{t:bf}(h:a6 t.root=true):(∀p∈allM s t,a6 p=true)∧(allM s t).length≤40:=by
 unfold allM
 cases he:j8 40 s [t.root] [] with
 |none=>exact⟨fun p hp=>absurd (show p∈([]:List Pt) from hp) ZF3,ZA8 _⟩
 |some r=>
  have:=F6 he (fun p hp=>by rw [ZC7.1 hp];exact h) (fun p hp=>absurd hp ZF3)
  exact⟨this.1,by have:=this.2;rw [ZA4] at this;show r.length≤40;omega⟩
theorem QN:(cU nG).ok:=QM
theorem oc {n:fu}(h:cy n=true):(cU n).ok:=by
 obtain⟨_,_,_,b4,b5,b6,_,_,_⟩:=ly h
 exact⟨⟨b4.2,b6⟩,b5.1,b5.2⟩
theorem O9 (s:ByteArray):(cU (bB s).1).ok:=by
 cases h:(bB s).2 with
 |true=>exact oc (XD h)
 |false=>rw [XE h];exact QN
theorem pq (s:ay) (t:bf) (k:Int):(cU (cM s t k).1).ok:=by
 unfold cM
 cases !(iC k 0 (t.many-1)) with
 |true=>exact QN
 |false=>exact O9 _
def xQ (s:ay) (t:bf) (k:Int):ay:=dz (allM s (cU (cM s t k).1)) s
theorem rA (s:ay) (t:bf) (k:Int):ct s t k=bif !(aY (xQ s t k) t k ⟨#[]⟩).2.2 then ((aY (xQ s t k) t k ⟨#[]⟩).1,(aY (xQ s t k) t k ⟨#[]⟩).2.1,false) else cH (aY (xQ s t k) t k ⟨#[]⟩).1 (aY (xQ s t k) t k ⟨#[]⟩).2.1 (mD s t k):=rfl
def vl (S:ay) (t:bf) (k:Int):Prop:=S.wg 1045000∧t.ok∧0≤k∧k≤15∧NO S (cU (cM S t k).1)=true
def ji (S:ay) (t:bf) (k:Int):AV:=.t [.a (k9 0 1 2 5 6 (ct S t k).1),trA (ct S t k).2.1,.s (.q (ct S t k).2.2)]
def kS (S:ay) (t:bf) (k:Int):List AV:=[.rs ab (ct S t k).1.rows,.rs ag (ct S t k).1.refs,.rs ag (ct S t k).1.last,.zz,.zz,.rs ae (ct S t k).1.gone,.rs ae (ct S t k).1.dead]
def DL:Con where
 A:=[.a (stB 0 1 2 3 4),.a [.int,.int,.int,.int,.int,.int,.int],.s .int]
 B:=[.r ab,.r ag,.r ag,.r ae,.r ae]
 pre:=fun x b=>whole x.1.1 x.1.2.1 x.1.2.2.1 x.1.2.2.2.2.1 x.1.2.2.2.2.2.2.1 (b.1) (b.2.1) (b.2.2.1) (b.2.2.2.1) (b.2.2.2.2)∧vl ((b.1,b.2.1,b.2.2.1,x.1.2.2.2.1,b.2.2.2.1,x.1.2.2.2.2.2.1,b.2.2.2.2,x.1.2.2.2.2.2.2.2)) (x.2.1) (x.2.2)
 α:=fun _ _=>Unit
 φ:=fun _ _ _=>True
 r:=fun x b _=>ji ((b.1,b.2.1,b.2.2.1,x.1.2.2.2.1,b.2.2.2.1,x.1.2.2.2.2.2.1,b.2.2.2.2,x.1.2.2.2.2.2.2.2)) (x.2.1) (x.2.2)
 o:=fun x b _=>kS ((b.1,b.2.1,b.2.2.1,x.1.2.2.2.1,b.2.2.2.1,x.1.2.2.2.2.2.1,b.2.2.2.2,x.1.2.2.2.2.2.2.2)) (x.2.1) (x.2.2)
 nf:=2
 mv:=true
set_option maxRecDepth 100000 in
theorem ab4:Has Tryz.prog 107 DL:=by
 refine Has.ofZ (fun _=>true) (fun _=>false) (fun _=>false) (l:=[(132,jG),(133,sQ),(134,AK),(50,cL),(18,eB),(135,ml)]) ⟨vG,MP,aaa,gz,mb,zR,trivial⟩ (fn:=Tryz.f107) Tryz.func107 rfl (by decide) (aZ rfl) ?_
 rintro⟨⟨(A3:Nat),(A2:Nat),(A1:Nat),(ao:Int),(AZ:Nat),(aq:Int),(AY:Nat),(ar:Bool)⟩,⟨(t1:Int),(t2:Int),(t3:Int),(t4:Int),(t5:Int),(t6:Int),(t7:Int)⟩,(k:Int)⟩ ⟨(aj:List ByteArray),(ak:List Int),(an:List Int),(ah:List Pt),(ai:List Pt)⟩ ⟨⟨(gE:A3=List.length aj),(gD:A2=List.length ak),(gC:A1=List.length an),(gB:AZ=List.length ah),(gA:AY=List.length ai)⟩,(hp:vl (aj,ak,an,ao,ah,aq,ai,ar) (t1,t2,t3,t4,t5,t6,t7) k)⟩
 subst gE gD gC gB gA
 show vc _ _ _ _ (entry [.a [.xs 0 1 0 aj.length,.xs 1 1 0 ak.length,.xs 2 1 0 an.length,.int ao,.xs 3 5 0 ah.length,.int aq,.xs 4 5 0 ai.length,.q ar],.a [.int t1,.int t2,.int t3,.int t4,.int t5,.int t6,.int t7],.int k] [.rs ab aj,.rs ag ak,.rs ag an,.rs ae ah,.rs ae ai]) _
 obtain⟨lB,cA,hk0,E8,hen⟩:=hp
 have lB:ay.wg (aj,ak,an,ao,ah,aq,ai,ar) 1045000:=lB
 have cA:bf.ok (t1,t2,t3,t4,t5,t6,t7):=cA
 have hna:=aaQ (s:=(aj,ak,an,ao,ah,aq,ai,ar)) (pq (aj,ak,an,ao,ah,aq,ai,ar) (t1,t2,t3,t4,t5,t6,t7) k).rd.ok
 have hlm:=IM (s:=(aj,ak,an,ao,ah,aq,ai,ar)) cA k
 refine⟨⟨⟨⟨⟨?_,?_⟩,⟨?_,?_⟩,⟨?_,?_⟩,aa,⟨?_,?_⟩,aa,⟨?_,?_⟩,aa,aa⟩,⟨aa,aa,aa,aa,aa,aa,aa,aa⟩,aa,aa⟩,?_,?_⟩,fun x1 w2=>⟨⟨⟨⟨⟨?_,?_⟩,⟨?_,?_⟩,⟨?_,?_⟩,aa,⟨?_,?_⟩,aa,⟨?_,?_⟩,aa,aa⟩,⟨aa,aa,aa,aa,aa,aa,aa,aa⟩,aa,aa⟩,?_,?_⟩,fun x3 w4=>⟨⟨⟨⟨⟨?_,?_⟩,⟨?_,?_⟩,⟨?_,?_⟩,aa,⟨?_,?_⟩,aa,⟨?_,?_⟩,aa,aa⟩,⟨aa,aa,aa,aa,aa,aa,aa,aa⟩,aa⟩,?_,?_⟩,fun x5 w6=>?_⟩⟩⟩
 all_goals first|refine aw ?_|refine ax ?_|exact ba|(dsimp only [jG,kP];omega)|(dsimp only [sQ,ri];omega)|(dsimp only [AK,wM];omega)|(dsimp only [cL,dJ];omega)|(dsimp only [eB,fL];omega)|(dsimp only [ml,mP];omega)|exact a8|exact lB.wf.rd|exact cA|exact hen|skip
 refine cO (l:=[(132,jG),(133,sQ),(134,AK),(50,cL),(18,eB),(135,ml)]) (ex:=fun _=>true) (wr:=fun _=>false) (pt:=fun _=>false) ⟨vG,MP,aaa,gz,mb,zR,aa⟩ [.s 2,.s 3,.s 4,.b 1004,.s 6,.s 7,.b 1006,.b 1007,.s 11,.s 12,.b 300000] (fun y:Nat×ay=>[(.s 13,.int y.1),(.b 1003,.a (k9 0 1 2 1000000001 1000000002 y.2)),(.b 0,.rs ab y.2.rows),(.b 1,.rs ag y.2.refs),(.b 2,.rs ag y.2.last),(.b 1000000001,.rs ae y.2.gone),(.b 1000000002,.rs ae y.2.dead)]) (fun y=>y.2.wg (1045000+y.1)∧y.1≤(allM (aj,ak,an,ao,ah,aq,ai,ar) (cU (cM (aj,ak,an,ao,ah,aq,ai,ar) (t1,t2,t3,t4,t5,t6,t7) k).1)).length∧dz ((allM (aj,ak,an,ao,ah,aq,ai,ar) (cU (cM (aj,ak,an,ao,ah,aq,ai,ar) (t1,t2,t3,t4,t5,t6,t7) k).1)).drop y.1) y.2=xQ (aj,ak,an,ao,ah,aq,ai,ar) (t1,t2,t3,t4,t5,t6,t7) k) (fun y=>(allM (aj,ak,an,ao,ah,aq,ai,ar) (cU (cM (aj,ak,an,ao,ah,aq,ai,ar) (t1,t2,t3,t4,t5,t6,t7) k).1)).length-y.1) (0,(aj,ak,an,ao,ah,aq,ai,ar)) [(1000000001,3),(1000000002,4)] ⟨lB,ZA8 _,rfl⟩ dN ?_
 rintro⟨i,u⟩ ⟨(hu:u.wg (1045000+i)),(hi:i≤(allM (aj,ak,an,ao,ah,aq,ai,ar) (cU (cM (aj,ak,an,ao,ah,aq,ai,ar) (t1,t2,t3,t4,t5,t6,t7) k).1)).length),(hr:dz ((allM (aj,ak,an,ao,ah,aq,ai,ar) (cU (cM (aj,ak,an,ao,ah,aq,ai,ar) (t1,t2,t3,t4,t5,t6,t7) k).1)).drop i) u=xQ (aj,ak,an,ao,ah,aq,ai,ar) (t1,t2,t3,t4,t5,t6,t7) k)⟩
 have bU:decide ((i:Int)<((allM (aj,ak,an,ao,ah,aq,ai,ar) (cU (cM (aj,ak,an,ao,ah,aq,ai,ar) (t1,t2,t3,t4,t5,t6,t7) k).1)).length:Int))=true→i<(allM (aj,ak,an,ao,ah,aq,ai,ar) (cU (cM (aj,ak,an,ao,ah,aq,ai,ar) (t1,t2,t3,t4,t5,t6,t7) k).1)).length:=fun h=>by have:=aE h;omega
 have hia:=n0 (oJ hna.1 i)
 have JD:=pv u (nth ae (allM (aj,ak,an,ao,ah,aq,ai,ar) (cU (cM (aj,ak,an,ao,ah,aq,ai,ar) (t1,t2,t3,t4,t5,t6,t7) k).1)) i)
 have hpo:=ny (k:=k) (text:=⟨#[]⟩) hu cA hk0 E8
 have hg:=hu.g
 have hd:=hu.d
 have hlen:=hna.2
 refine⟨fun w1=>⟨[.s 3,.b 1003],[.s 36],rfl,[.s 12],[.s 37],rfl,[.s 13],[.s 38],rfl,[.s 37,.s 38],[.s 39],rfl,⟨?_,?_⟩,[.s 39,.b 300000],[.s 40],rfl,?_,[.s 36,.s 40,.b 0,.b 1,.b 2,.b 1000000001,.b 1000000002,.b 1000420001,.b 1000420000],[.s 41,.b 0,.b 1,.b 2,.b 1000000001,.b 1000000002,.b 1000420000,.b 1000420001],rfl,⟨⟨⟨aa,aa,aa,aa,aa,aa,aa,aa,aa⟩,⟨aa,aa,aa,aa,aa,aa⟩,aa⟩,⟨?_,?_,?_,?_,?_⟩,⟨?_,?_,?_⟩,?_,?_,?_,?_⟩,?_,fun x2 w3=>⟨[.s 3,.s 41,.b 1003],[.b 1003],rfl,⟨?_,?_⟩,?_⟩⟩,fun w4=>⟨⟨⟨⟨aa,aa,aa,aa,aa,aa,aa,aa,aa⟩,⟨aa,aa,aa,aa,aa,aa,aa,aa⟩,aa,aa,aa⟩,⟨?_,?_,?_,?_,?_⟩,?_,?_,?_,?_,?_,?_,?_,?_⟩,fun |false=>fun w5=>⟨fun w6=>⟨[.s 3,.b 1003],[.s 52],rfl,[.s 4,.b 1004],[.s 53],rfl,[.s 6,.s 52,.b 1006],[.b 1006],rfl,[.s 7,.s 53,.b 1007],[.b 1007],rfl,[],[.s 8],rfl,?_⟩,fun w7=>⟨⟨⟨⟨aa,aa,aa,aa,aa,aa,aa,aa,aa⟩,⟨aa,aa,aa,aa,aa,aa,aa,aa⟩,aa,aa⟩,⟨?_,?_,?_,?_,?_⟩,?_,?_,?_,?_,?_,?_⟩,fun |false=>fun w8=>?_ |true=>fun w9=>?_⟩⟩ |true=>fun dq=>⟨fun kk=>⟨[.s 3,.b 1003],[.s 52],rfl,[.s 4,.b 1004],[.s 53],rfl,[.s 6,.s 52,.b 1006],[.b 1006],rfl,[.s 7,.s 53,.b 1007],[.b 1007],rfl,[],[.s 8],rfl,?_⟩,fun dI=>⟨⟨⟨⟨aa,aa,aa,aa,aa,aa,aa,aa,aa⟩,⟨aa,aa,aa,aa,aa,aa,aa,aa⟩,aa,aa⟩,⟨?_,?_,?_,?_,?_⟩,?_,?_,?_,?_,?_,?_⟩,fun |false=>fun iJ=>?_ |true=>fun gI=>?_⟩⟩⟩⟩
 all_goals first|refine aw ?_|refine ax ?_|exact ba|(dsimp only [jG,kP];omega)|(dsimp only [sQ,ri];omega)|(dsimp only [AK,wM];omega)|(dsimp only [cL,dJ];omega)|(dsimp only [eB,fL];omega)|(dsimp only [ml,mP];omega)|exact a8|exact bU w1|exact hu.wf.n|exact hu.wf.n.1|exact hu.wf.n.2.1|exact hu.wf.n.2.2|exact hia.1|exact hia.2|exact ZB1 hg (by omega)|exact ZB1 hd (by omega)|exact hu.wf|exact cA.rd|exact cA.m1|exact⟨_,rfl⟩|exact hpo.1.wf|exact hpo.2.1.rd|exact hlm.1|exact ZB1 hpo.1.g (by omega)|exact ZB1 hpo.1.d (by omega)|exact ZE1 hlm.2 cA.m1|(show (i:Int)<((allM (aj,ak,an,ao,ah,aq,ai,ar) (cU (cM (aj,ak,an,ao,ah,aq,ai,ar) (t1,t2,t3,t4,t5,t6,t7) k).1)).length:Int);have:=bU w1;omega)|exact ZA8 _|skip
 all_goals first|exact absurd (show true=false from w7) Bool.noConfusion|exact absurd (show false=true from kk) Bool.noConfusion|skip
 ·have mz:=bU w1
  refine⟨(i+1,cN u (nth ae (allM (aj,ak,an,ao,ah,aq,ai,ar) (cU (cM (aj,ak,an,ao,ah,aq,ai,ar) (t1,t2,t3,t4,t5,t6,t7) k).1)) i)),[(1000000001,1000420000),(1000000002,1000420001)],?_,?_,?_⟩
  rotate_right
  ·exact bX
  ·refine⟨⟨qw hu.wf,?_,?_,?_⟩,mz,by rw [←hr,bZ (ek:=ae) mz];rfl⟩
   ·show (cN u (nth ae (allM (aj,ak,an,ao,ah,aq,ai,ar) (cU (cM (aj,ak,an,ao,ah,aq,ai,ar) (t1,t2,t3,t4,t5,t6,t7) k).1)) i)).gone.length≤1045000+(i+1);omega
   ·show (cN u (nth ae (allM (aj,ak,an,ao,ah,aq,ai,ar) (cU (cM (aj,ak,an,ao,ah,aq,ai,ar) (t1,t2,t3,t4,t5,t6,t7) k).1)) i)).dead.length≤1045000+(i+1);omega
   ·show (cN u _).ck≤_;rw [xd];have:=hu.t;omega
  ·show (allM (aj,ak,an,ao,ah,aq,ai,ar) (cU (cM (aj,ak,an,ao,ah,aq,ai,ar) (t1,t2,t3,t4,t5,t6,t7) k).1)).length-(i+1)<(allM (aj,ak,an,ao,ah,aq,ai,ar) (cU (cM (aj,ak,an,ao,ah,aq,ai,ar) (t1,t2,t3,t4,t5,t6,t7) k).1)).length-i;omega
 all_goals have hU:xQ (aj,ak,an,ao,ah,aq,ai,ar) (t1,t2,t3,t4,t5,t6,t7) k=u:=by rw [←hr,ZB4 (by have:=aA (p:=(i:Int)<((allM (aj,ak,an,ao,ah,aq,ai,ar) (cU (cM (aj,ak,an,ao,ah,aq,ai,ar) (t1,t2,t3,t4,t5,t6,t7) k).1)).length:Int)) w4;omega)];rfl
 ·have hz:(aY u (t1,t2,t3,t4,t5,t6,t7) k ⟨#[]⟩).2.2=false:=(show false=(aY u (t1,t2,t3,t4,t5,t6,t7) k ⟨#[]⟩).2.2 from w5).symm
  have e:ct (aj,ak,an,ao,ah,aq,ai,ar) (t1,t2,t3,t4,t5,t6,t7) k=((aY u (t1,t2,t3,t4,t5,t6,t7) k ⟨#[]⟩).1,(aY u (t1,t2,t3,t4,t5,t6,t7) k ⟨#[]⟩).2.1,false):=by rw [rA,hU,hz];rfl
  refine⟨[1000000001,1000000002],[],_,_,_,rfl,az,(),0,aa,?_,?_,rfl⟩
  ·(show _=ji (aj,ak,an,ao,ah,aq,ai,ar) (t1,t2,t3,t4,t5,t6,t7) k);unfold ji;first|(rw [e];rfl)|rfl
  ·(show _=kS (aj,ak,an,ao,ah,aq,ai,ar) (t1,t2,t3,t4,t5,t6,t7) k);unfold kS;first|(rw [e];rfl)|rfl
 ·have hz:(aY u (t1,t2,t3,t4,t5,t6,t7) k ⟨#[]⟩).2.2=true:=(show true=(aY u (t1,t2,t3,t4,t5,t6,t7) k ⟨#[]⟩).2.2 from dq).symm
  have hc:(cH (aY u (t1,t2,t3,t4,t5,t6,t7) k ⟨#[]⟩).1 (aY u (t1,t2,t3,t4,t5,t6,t7) k ⟨#[]⟩).2.1 (mD (aj,ak,an,ao,ah,aq,ai,ar) (t1,t2,t3,t4,t5,t6,t7) k)).2.2=false:=(show false=(cH (aY u (t1,t2,t3,t4,t5,t6,t7) k ⟨#[]⟩).1 (aY u (t1,t2,t3,t4,t5,t6,t7) k ⟨#[]⟩).2.1 (mD (aj,ak,an,ao,ah,aq,ai,ar) (t1,t2,t3,t4,t5,t6,t7) k)).2.2 from iJ).symm
  have e:ct (aj,ak,an,ao,ah,aq,ai,ar) (t1,t2,t3,t4,t5,t6,t7) k=(cH (aY u (t1,t2,t3,t4,t5,t6,t7) k ⟨#[]⟩).1 (aY u (t1,t2,t3,t4,t5,t6,t7) k ⟨#[]⟩).2.1 (mD (aj,ak,an,ao,ah,aq,ai,ar) (t1,t2,t3,t4,t5,t6,t7) k)):=by rw [rA,hU,hz];rfl
  refine⟨[1000470000,1000470001],[],_,_,_,rfl,az,(),0,aa,?_,?_,rfl⟩
  ·(show _=ji (aj,ak,an,ao,ah,aq,ai,ar) (t1,t2,t3,t4,t5,t6,t7) k);unfold ji;first|(rw [e,hc];rfl)|(rw [e];rfl)|rfl
  ·(show _=kS (aj,ak,an,ao,ah,aq,ai,ar) (t1,t2,t3,t4,t5,t6,t7) k);unfold kS;first|(rw [e,hc];rfl)|(rw [e];rfl)|rfl
 ·have hz:(aY u (t1,t2,t3,t4,t5,t6,t7) k ⟨#[]⟩).2.2=true:=(show true=(aY u (t1,t2,t3,t4,t5,t6,t7) k ⟨#[]⟩).2.2 from dq).symm
  have hc:(cH (aY u (t1,t2,t3,t4,t5,t6,t7) k ⟨#[]⟩).1 (aY u (t1,t2,t3,t4,t5,t6,t7) k ⟨#[]⟩).2.1 (mD (aj,ak,an,ao,ah,aq,ai,ar) (t1,t2,t3,t4,t5,t6,t7) k)).2.2=true:=(show true=(cH (aY u (t1,t2,t3,t4,t5,t6,t7) k ⟨#[]⟩).1 (aY u (t1,t2,t3,t4,t5,t6,t7) k ⟨#[]⟩).2.1 (mD (aj,ak,an,ao,ah,aq,ai,ar) (t1,t2,t3,t4,t5,t6,t7) k)).2.2 from gI).symm
  have e:ct (aj,ak,an,ao,ah,aq,ai,ar) (t1,t2,t3,t4,t5,t6,t7) k=(cH (aY u (t1,t2,t3,t4,t5,t6,t7) k ⟨#[]⟩).1 (aY u (t1,t2,t3,t4,t5,t6,t7) k ⟨#[]⟩).2.1 (mD (aj,ak,an,ao,ah,aq,ai,ar) (t1,t2,t3,t4,t5,t6,t7) k)):=by rw [rA,hU,hz];rfl
  refine⟨[1000580000,1000580001],[],_,_,_,rfl,az,(),0,aa,?_,?_,rfl⟩
  ·(show _=ji (aj,ak,an,ao,ah,aq,ai,ar) (t1,t2,t3,t4,t5,t6,t7) k);unfold ji;first|(rw [e,hc];rfl)|(rw [e];rfl)|rfl
  ·(show _=kS (aj,ak,an,ao,ah,aq,ai,ar) (t1,t2,t3,t4,t5,t6,t7) k);unfold kS;first|(rw [e,hc];rfl)|(rw [e];rfl)|rfl
end GL
end Go.Proofs.YtbfgjadbfjkcdaaGreatDoor
