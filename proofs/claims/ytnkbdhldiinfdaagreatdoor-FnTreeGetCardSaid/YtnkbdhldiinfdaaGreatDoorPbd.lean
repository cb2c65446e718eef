/- A drawn law returns true for every code (its row lists package variables, tied by the card): part 30. -/
import Derived.Test.YtnkbdhldiinfdaaGreatDoorPan
import Derived.Test.YtnkbdhldiinfdaaGreatDoorPav
import Derived.Test.YtnkbdhldiinfdaaGreatDoorPaw
import Derived.Test.YtnkbdhldiinfdaaGreatDoorPax
import Derived.Test.YtnkbdhldiinfdaaGreatDoorPbc
set_option maxHeartbeats 20000000
set_option maxRecDepth 100000
set_option linter.all false
namespace Go.Proofs.YtnkbdhldiinfdaaGreatDoor
namespace GL
theorem JA:∀{l:List ByteArray}{out:ByteArray},out.size≤2048→(dB l out).1.size≤2048
 |[],out,h=>h
 |x::l,out,h=>by
  cases h1:decide ((x.size:Int)>2048) with
  |true=>rw [M0 h1];exact ZA7 _
  |false=>cases h2:decide (((out++bX x.size++⟨#[58]⟩++x).size:Int)>2048) with
   |true=>rw [MZ h2];exact ZA7 _
   |false=>rw [MY h1 h2];exact JA (by have:=aA h2;omega)
theorem PN (l:List ByteArray):(cE l).1.size≤2048:=by
 cases h:decide ((l.length:Int)≤60) with
 |true=>rw [gE h];exact JA (ZA7 _)
 |false=>rw [tP h];exact ZA7 _
theorem WW (n:fu):(aC n).size≤2048:=by
 unfold aC
 cases cy n with
 |false=>exact ZA7 _
 |true=>exact PN _
def tj (S:ay) (t:bf) (k:Int) (n:fu):Prop:=S.wg 1046000∧t.ok∧0≤k∧k≤15
def pK (S:ay) (t:bf) (k:Int) (n:fu):AV:=.t [.a (kW 0 1 2 5 6 (aY S t k (aC n)).1),trA (aY S t k (aC n)).2.1,.s (.q (aY S t k (aC n)).2.2)]
def sk (S:ay) (t:bf) (k:Int) (n:fu):List AV:=[.rs ab (aY S t k (aC n)).1.rows,.rs ag (aY S t k (aC n)).1.refs,.rs ag (aY S t k (aC n)).1.last,.zz,.zz,.rs ae (aY S t k (aC n)).1.gone,.rs ae (aY S t k (aC n)).1.dead]
def vT:cn where
 A:=[.a (stB 0 1 2 3 4),.a [.int,.int,.int,.int,.int,.int,.int],.s .int,.a [.int,.int,.int,.int,.int,.int,.int,.int,.int,.int]]
 B:=[.r ab,.r ag,.r ag,.r ae,.r ae]
 pre:=fun x b=>stW x.1 b∧tj (gP x.1 b) (x.2.1) (x.2.2.1) (x.2.2.2)
 r:=fun x b _=>pK (gP x.1 b) (x.2.1) (x.2.2.1) (x.2.2.2)
 o:=fun x b _=>sk (gP x.1 b) (x.2.1) (x.2.2.1) (x.2.2.2)
 nf:=2
 mv:=true
theorem TB:Has Tryz.prog 77 vT:=by
 refine Has.ofZ zT zF zF (l:=[(118,sO),(60,ez)]) ⟨MK,lY,aa⟩ Tryz.func77 ?_
 rintro⟨⟨(AU:Nat),(AT:Nat),(AS:Nat),(ao:Int),(AR:Nat),(aq:Int),(AQ:Nat),(ar:Bool)⟩,⟨(t1:Int),(t2:Int),(t3:Int),(t4:Int),(t5:Int),(t6:Int),(t7:Int)⟩,(k:Int),⟨(n1:Int),(n2:Int),(n3:Int),(n4:Int),(n5:Int),(n6:Int),(n7:Int),(n8:Int),(n9:Int),(cw:Int)⟩⟩ ⟨(aj:List ByteArray),(ak:List Int),(an:List Int),(ah:List Pt),(ai:List Pt)⟩ ⟨⟨(gC:AU=List.length aj),(gB:AT=List.length ak),(gA:AS=List.length an),(gz:AR=List.length ah),(gy:AQ=List.length ai)⟩,(hp:tj (aj,ak,an,ao,ah,aq,ai,ar) (t1,t2,t3,t4,t5,t6,t7) k (n1,n2,n3,n4,n5,n6,n7,n8,n9,cw))⟩
 subst gC gB gA gz gy
 show vc _ _ _ _ (entry [.a [.xs 0 1 0 aj.length,.xs 1 1 0 ak.length,.xs 2 1 0 an.length,.int ao,.xs 3 5 0 ah.length,.int aq,.xs 4 5 0 ai.length,.q ar],.a [.int t1,.int t2,.int t3,.int t4,.int t5,.int t6,.int t7],.int k,.a [.int n1,.int n2,.int n3,.int n4,.int n5,.int n6,.int n7,.int n8,.int n9,.int cw]] [.rs ab aj,.rs ag ak,.rs ag an,.rs ae ah,.rs ae ai]) _
 let g':=(n1,n2,n3,n4,n5,n6,n7,n8,n9,cw)
 let A':=(aj,ak,an,ao,ah,aq,ai,ar)
 let B':=(t1,t2,t3,t4,t5,t6,t7)
 obtain⟨ll,cG,hk0,EX⟩:=hp
 have ll:ay.wg A' 1046000:=ll
 have cG:bf.ok B':=cG
 have dj:=WW g'
 refine⟨[.s 4,.b 1004],Sq11,rfl,[.s 5,.b 1005],Sq12,rfl,Sq2,Sq13,rfl,[.s 7,.b 1007],Sq14,rfl,Sq14,Sq15,rfl,⟨⟨tv11,aa⟩,aa⟩,?_,fun x1 w2=>⟨[.s 11,.s 12,.s 13,.s 15,.b 0,.b 1,.b 2,.b 3,.b 4,.b 1000170001,.b 1000170000],[.s 16,.b 0,.b 1,.b 2,.b 3,.b 4,.b 1000170000,.b 1000170001],rfl,⟨⟨tv9,tv8,tv3⟩,⟨?_,?_,?_,?_,?_⟩,?_,?_,?_,?_,?_,?_,?_,?_⟩,?_,fun |false=>fun w3=>⟨Sq16,Sq17,rfl,Sq16,Sq18,rfl,Sq16,Sq19,rfl,[.s 8,.s 17,.b 1008],[.b 1008],rfl,[.s 9,.s 18,.b 1009],[.b 1009],rfl,Sq19,Sq10,rfl,?_⟩ |true=>fun w4=>⟨Sq16,Sq17,rfl,Sq16,Sq18,rfl,Sq16,Sq19,rfl,[.s 8,.s 17,.b 1008],[.b 1008],rfl,[.s 9,.s 18,.b 1009],[.b 1009],rfl,Sq19,Sq10,rfl,?_⟩⟩⟩
 all_goals first|refine aw ?_|refine ax ?_|exact a8|(dsimp only [sO,ra,ez,fK,gP];omega)|exact a7|exact ll.wf|exact cG.rd|exact cG.m1|exact ll.g|exact ll.d|exact ZB0 dj (by decide)|exact⟨_,rfl⟩|skip
 ·have hz:(aY A' B' k (aC g')).2.2=false:=(show false=(aY A' B' k (aC g')).2.2 from w3).symm
  refine⟨[3,4],[],_,_,_,rfl,az,(),0,aa,?_,?_,rfl⟩
  ·(show _=pK A' B' k g');unfold pK;first|(rw [hz];rfl)|rfl
  ·(show _=sk A' B' k g');unfold sk;first|(rw [hz];rfl)|rfl
 ·have hz:(aY A' B' k (aC g')).2.2=true:=(show true=(aY A' B' k (aC g')).2.2 from w4).symm
  refine⟨[1000170000,1000170001],[],_,_,_,rfl,az,(),0,aa,?_,?_,rfl⟩
  ·(show _=pK A' B' k g');unfold pK;first|(rw [hz];rfl)|rfl
  ·(show _=sk A' B' k g');unfold sk;first|(rw [hz];rfl)|rfl
theorem acS:∀{f:Nat}{s:ByteArray},∀x∈pcF f s,x.size≤s.size
 |0,s,x,h=>by cases h
 |f+1,s,x,h=>by
  cases h1:decide ((s.size:Int)>128) with
  |true=>
   rw [acV h1] at h
   rcases ZB8.1 h with h |h
   ·rw [h,ZC5];omega
   ·have:=acS x h
    rw [ZC5] at this;omega
  |false=>cases h2:decide (s≠⟨#[]⟩) with
   |true=>rw [acU h1 h2] at h;rw [ZC7.1 h];exact ZB5 _
   |false=>rw [acT h1 h2] at h;cases h
theorem akd {b0 b1 b2 b3 b4:Nat}{s u:ay}(hs:s.wf) (hu:u.wf) (h1:u.gone=s.gone) (h2:u.dead=s.dead) (h3:u.cg=s.cg) (h4:u.bZ=s.bZ) (h5:u.same=s.same):kW b0 b1 b2 b3 b4 s=kW b0 b1 b2 b3 b4 u:=by
 unfold kW
 rw [hu.n.1,hu.n.2.1,hu.n.2.2,hs.n.1,hs.n.2.1,hs.n.2.2,h1,h2,h3,h4,h5]
def B1 (S:ay) (t:bf) (text:ByteArray):Prop:=S.wg 1045000∧t.ok∧text.size≤1000000
def jM (S:ay) (t:bf) (text:ByteArray):AV:=.t [.a (kW 0 1 2 5 6 (dG S t text).1),trA (dG S t text).2.1,.s (.q (dG S t text).2.2)]
def lS (S:ay) (t:bf) (text:ByteArray):List AV:=[.rs ab (dG S t text).1.rows,.rs ag (dG S t text).1.refs,.rs ag (dG S t text).1.last,.zz,.zz,.rs ae (dG S t text).1.gone,.rs ae (dG S t text).1.dead]
def PV:cn where
 A:=[.a (stB 0 1 2 3 4),.a [.int,.int,.int,.int,.int,.int,.int],.s .str]
 B:=[.r ab,.r ag,.r ag,.r ae,.r ae]
 pre:=fun x b=>stW x.1 b∧B1 (gP x.1 b) (x.2.1) (x.2.2)
 r:=fun x b _=>jM (gP x.1 b) (x.2.1) (x.2.2)
 o:=fun x b _=>lS (gP x.1 b) (x.2.1) (x.2.2)
 nf:=2
 mv:=true
theorem afW:Has Tryz.prog 206 PV:=by
 refine Has.ofZ zT zF zF (l:=[(228,qw),(60,ez),(210,ma)]) ⟨IE,lY,zH,aa⟩ Tryz.func206 ?_
 rintro⟨⟨(AU:Nat),(AT:Nat),(AS:Nat),(ao:Int),(AR:Nat),(aq:Int),(AQ:Nat),(ar:Bool)⟩,⟨(t1:Int),(t2:Int),(t3:Int),(t4:Int),(t5:Int),(t6:Int),(t7:Int)⟩,(text:ByteArray)⟩ ⟨(aj:List ByteArray),(ak:List Int),(an:List Int),(ah:List Pt),(ai:List Pt)⟩ ⟨⟨(gC:AU=List.length aj),(gB:AT=List.length ak),(gA:AS=List.length an),(gz:AR=List.length ah),(gy:AQ=List.length ai)⟩,(hp:B1 (aj,ak,an,ao,ah,aq,ai,ar) (t1,t2,t3,t4,t5,t6,t7) text)⟩
 subst gC gB gA gz gy
 show vc _ _ _ _ (entry [.a [.xs 0 1 0 aj.length,.xs 1 1 0 ak.length,.xs 2 1 0 an.length,.int ao,.xs 3 5 0 ah.length,.int aq,.xs 4 5 0 ai.length,.q ar],.a [.int t1,.int t2,.int t3,.int t4,.int t5,.int t6,.int t7],.str text] [.rs ab aj,.rs ag ak,.rs ag an,.rs ae ah,.rs ae ai]) _
 let g':=(aj,ak,an,ao,ah,aq,ai,ar)
 let A':=(t1,t2,t3,t4,t5,t6,t7)
 obtain⟨ll,cG,hts⟩:=hp
 have ll:ay.wg g' 1045000:=ll
 have cG:bf.ok A':=cG
 have hps:∀x∈kC text,x.size≤1000000:=fun x hx=>ZB0 (acS x hx) hts
 refine⟨⟨tv2,?_⟩,fun x1 w2=>⟨fun w3=>⟨[.s 3,.b 1003],Sq19,rfl,[.s 4,.b 1004],Sq20,rfl,[.s 6,.s 19,.b 1006],[.b 1006],rfl,[.s 7,.s 20,.b 1007],[.b 1007],rfl,[],Sq8,rfl,?_⟩,fun w4=>?_⟩⟩
 all_goals first|refine aw ?_|refine ax ?_|exact a8|(dsimp only [qw,lI,ez,fK,ma,mJ,gP];omega)|exact a7|skip
 ·have e:dG g' A' text=(g',A',false):=by unfold dG;rw [w3];rfl
  refine⟨[3,4],[],_,_,_,rfl,az,(),0,aa,?_,?_,rfl⟩
  ·(show _=jM g' A' text);unfold jM;first|(rw [e];rfl)|rfl
  ·(show _=lS g' A' text);unfold lS;first|(rw [e];rfl)|rfl
 ·have hl:=aA w4
  have hM:dG g' A' text=KB (iW (kC text) 0 g' A') (kC text).length:=by unfold dG;rw [w4];rfl
  refine cN (l:=[(228,qw),(60,ez),(210,ma)]) (ex:=zT) (wr:=zF) (pt:=zF) ⟨IE,lY,zH,aa⟩ [.s 6,.s 7,.b 1006,.b 1007,.s 9,.b 160000] (fun y:Nat×ay×bf=>[(.s 3,.s (.bp 1003 0)),(.s 4,.s (.bp 1004 0)),(.s 10,.int y.1),(.b 1003,.a (kW 0 1 2 1000000001 1000000002 y.2.1)),(.b 0,.rs ab y.2.1.rows),(.b 1,.rs ag y.2.1.refs),(.b 2,.rs ag y.2.1.last),(.b 1000000001,.rs ae y.2.1.gone),(.b 1000000002,.rs ae y.2.1.dead),(.b 1004,.a [.int y.2.2.1,.int y.2.2.2.1,.int y.2.2.2.2.1,.int y.2.2.2.2.2.1,.int y.2.2.2.2.2.2.1,.int y.2.2.2.2.2.2.2.1,.int y.2.2.2.2.2.2.2.2])]) (fun y=>y.2.1.wg (1045000+6*y.1)∧y.2.2.ok∧y.1≤(kC text).length∧iW ((kC text).drop y.1) y.1 y.2.1 y.2.2=iW (kC text) 0 g' A') (fun y=>(kC text).length-y.1) (0,g',A') [(1000000001,3),(1000000002,4)] ⟨ll,cG,ZA7 _,rfl⟩ dM ?_
  rintro⟨i,u,tt⟩ ⟨(hu:u.wg (1045000+6*i)),(ht:tt.ok),(hi:i≤(kC text).length),(hr:iW ((kC text).drop i) i u tt=iW (kC text) 0 g' A')⟩
  have bU:decide ((i:Int)<((kC text).length:Int))=true→i<(kC text).length:=fun h=>by have:=aJ h;omega
  have hxs:i<(kC text).length→(nth ab (kC text) i).size≤1000000:=fun h=>hps _ (bR (ek:=ab) h)
  have hpo:=fun h:i<16=>nq (k:=(i:Int)) (text:=nth ab (kC text) i) hu ht (by omega) (by omega)
  have ajz:∀r,iW (kC text) 0 g' A'=r→r.2.2=false→dG g' A' text=r:=fun r h1 h2=>by rw [hM,h1];unfold KB;rw [h2];rfl
  refine⟨fun w1=>⟨[.s 3,.b 1003],Sq28,rfl,[.s 4,.b 1004],Sq29,rfl,Sq10,Sq30,rfl,Sq9,Sq31,rfl,Sq10,Sq32,rfl,[.s 31,.s 32],Sq33,rfl,⟨?_,?_⟩,[.s 33,.b 160000],Sq34,rfl,?_,[.s 28,.s 29,.s 30,.s 34,.b 0,.b 1,.b 2,.b 1000000001,.b 1000000002,.b 1000360001,.b 1000360000],[.s 35,.b 0,.b 1,.b 2,.b 1000000001,.b 1000000002,.b 1000360000,.b 1000360001],rfl,⟨⟨tv9,tv8,tv3⟩,⟨?_,?_,?_,?_,?_⟩,?_,?_,?_,?_,?_,?_,?_,?_⟩,?_,fun |false=>fun w2=>⟨Sq35,Sq27,rfl,Sq27,Sq36,rfl,Sq27,Sq37,rfl,Sq27,Sq38,rfl,[.b 1011],[.s 11,.b 1011],rfl,[.b 1012],[.s 12,.b 1012],rfl,[.s 11,.s 36,.b 1011],[.b 1011],rfl,[.s 12,.s 37,.b 1012],[.b 1012],rfl,Sq38,Sq13,rfl,fun w3=>⟨[.s 3,.b 1003],Sq41,rfl,[.s 4,.b 1004],Sq42,rfl,[.s 6,.s 41,.b 1006],[.b 1006],rfl,[.s 7,.s 42,.b 1007],[.b 1007],rfl,[],Sq8,rfl,?_⟩,fun w4=>⟨⟨?_,?_⟩,?_⟩⟩ |true=>fun w5=>⟨Sq35,Sq27,rfl,Sq27,Sq36,rfl,Sq27,Sq37,rfl,Sq27,Sq38,rfl,[.b 1011],[.s 11,.b 1011],rfl,[.b 1012],[.s 12,.b 1012],rfl,[.s 11,.s 36,.b 1011],[.b 1011],rfl,[.s 12,.s 37,.b 1012],[.b 1012],rfl,Sq38,Sq13,rfl,fun w6=>⟨[.s 3,.b 1003],Sq41,rfl,[.s 4,.b 1004],Sq42,rfl,[.s 6,.s 41,.b 1006],[.b 1006],rfl,[.s 7,.s 42,.b 1007],[.b 1007],rfl,[],Sq8,rfl,?_⟩,fun w7=>⟨⟨?_,?_⟩,?_⟩⟩⟩,fun w8=>⟨⟨⟨tv9,tv8,tv2⟩,⟨?_,?_,?_,?_,?_⟩,?_,?_,?_,?_,?_,?_⟩,fun |false=>fun w9=>?_ |true=>fun dy=>?_⟩⟩
  all_goals first|refine aw ?_|refine ax ?_|exact a8|(dsimp only [qw,lI,ez,fK,ma,mJ,gP];omega)|exact a7|exact bU w1|exact hu.wf|exact ht.rd|exact ht.m1|exact ZB0 hu.g (by omega)|exact ZB0 hu.d (by omega)|exact hxs (bU w1)|exact⟨_,rfl⟩|exact Int.natCast_nonneg _|(show ((kC text).length:Int)≤16;omega)|skip
  ·have mo:=bU w1
   have hz:(aY u tt i (nth ab (kC text) i)).2.2=false:=(show false=(aY u tt i (nth ab (kC text) i)).2.2 from w2).symm
   have xn:=(hpo (by omega)).2.2 hz
   have e:dG g' A' text=((aY u tt i (nth ab (kC text) i)).1,tt,false):=ajz _ (by rw [←hr,bW (ek:=ab) mo,OB hz]) rfl
   refine⟨[1000000001,1000000002],[],_,_,_,rfl,az,(),0,aa,?_,?_,rfl⟩
   ·(show _=jM g' A' text);unfold jM;first|(rw [e];rfl)|(rw [e];exact congrArg (fun x=>AV.t [A0.a x,trA tt,A0.s (SV.q false)]) (nD (b0:=0) (b1:=1) (b2:=2) (b3:=5) (b4:=6) xn hu.wf))|(rw [e];have h3:=xn.gone;have h4:=xn.dead;exact congr (congrArg (fun (a b:List Pt)=>[AV.rs ab (aY u tt i (nth ab (kC text) i)).1.rows,AV.rs ag (aY u tt i (nth ab (kC text) i)).1.refs,AV.rs ag (aY u tt i (nth ab (kC text) i)).1.last,AV.zz,AV.zz,AV.rs ae a,AV.rs ae b]) h3.symm) h4.symm)|rfl
   ·(show _=lS g' A' text);unfold lS;first|(rw [e];rfl)|(rw [e];exact congrArg (fun x=>AV.t [A0.a x,trA tt,A0.s (SV.q false)]) (nD (b0:=0) (b1:=1) (b2:=2) (b3:=5) (b4:=6) xn hu.wf))|(rw [e];have h3:=xn.gone;have h4:=xn.dead;exact congr (congrArg (fun (a b:List Pt)=>[AV.rs ab (aY u tt i (nth ab (kC text) i)).1.rows,AV.rs ag (aY u tt i (nth ab (kC text) i)).1.refs,AV.rs ag (aY u tt i (nth ab (kC text) i)).1.last,AV.zz,AV.zz,AV.rs ae a,AV.rs ae b]) h3.symm) h4.symm)|rfl
  ·exact absurd (show true=false from w4) Bool.noConfusion
  ·exact absurd (show false=true from w6) Bool.noConfusion
  ·have mo:=bU w1
   have hz:(aY u tt i (nth ab (kC text) i)).2.2=true:=(show true=(aY u tt i (nth ab (kC text) i)).2.2 from w5).symm
   have h2:=hpo (by omega)
   refine⟨(i+1,(aY u tt i (nth ab (kC text) i)).1,(aY u tt i (nth ab (kC text) i)).2.1),[(1000000001,1000360000),(1000000002,1000360001)],?_,?_,?_⟩
   rotate_right
   ·exact bV
   ·exact⟨h2.1.mono (by show 1045000+6*i+6≤1045000+6*(i+1);omega),h2.2.1,mo,by rw [←hr,bW (ek:=ab) mo,OA hz]⟩
   ·show (kC text).length-(i+1)<(kC text).length-i;omega
  ·have FL:=aA (p:=(i:Int)<((kC text).length:Int)) w8
   have e0:iW (kC text) 0 g' A'=(u,tt,true):=by rw [←hr,ZB3 (by omega)];rfl
   have hz:(cF u tt (kC text).length).2.2=false:=(show false=(cF u tt (kC text).length).2.2 from w9).symm
   have e:dG g' A' text=cF u tt (kC text).length:=by rw [hM,e0];rfl
   refine⟨[1000000001,1000000002],[],_,_,_,rfl,az,(),0,aa,?_,?_,rfl⟩
   ·(show _=jM g' A' text);unfold jM;first|(rw [e,hz];rfl)|(rw [e];rfl)|rfl
   ·(show _=lS g' A' text);unfold lS;first|(rw [e,hz];rfl)|(rw [e];rfl)|rfl
  ·have FL:=aA (p:=(i:Int)<((kC text).length:Int)) w8
   have e0:iW (kC text) 0 g' A'=(u,tt,true):=by rw [←hr,ZB3 (by omega)];rfl
   have hz:(cF u tt (kC text).length).2.2=true:=(show true=(cF u tt (kC text).length).2.2 from dy).symm
   have e:dG g' A' text=cF u tt (kC text).length:=by rw [hM,e0];rfl
   refine⟨[1000500000,1000500001],[],_,_,_,rfl,az,(),0,aa,?_,?_,rfl⟩
   ·(show _=jM g' A' text);unfold jM;first|(rw [e,hz];rfl)|(rw [e];rfl)|rfl
   ·(show _=lS g' A' text);unfold lS;first|(rw [e,hz];rfl)|(rw [e];rfl)|rfl
end GL
namespace GL
theorem FV {s:ay}:∀{f:Nat}{l out r:List Pt},j7 f s l out=some r→(∀p∈l,aZ p=true)→(∀p∈out,aZ p=true)→(∀p∈r,aZ p=true)∧r.length≤out.length+f
 |0,l,out,r,h,_,_=>by rw [j7] at h;cases h
 |f+1,[],out,r,h,_,ho=>by rw [j7] at h;have h:=ZG8 h;rw [←h];exact⟨ho,by omega⟩
 |f+1,p::l,out,r,h,hl,ho=>by
  have hp:=hl p (by simp)
  have hl':∀q∈l,aZ q=true:=fun q hq=>hl q (by simp [hq])
  have ho':∀q∈out++[p],aZ q=true:=fun q hq=>by
   rcases ZB4.1 hq with hq |hq
   ·exact ho q hq
   ·rw [ZC7.1 hq];exact hp
  have hlen:(out++[p]).length=out.length+1:=by rw [ZA0];rfl
  rw [j7] at h
  cases hh:au p with
  |true=>rw [hh,cond_true] at h;have:=FV h hl' ho;exact⟨this.1,by omega⟩
  |false=>
   rw [hh,cond_false] at h
   cases hv:decide (p.2.2.2.2>0) with
   |true=>
    rw [hv,cond_true] at h
    have:=FV h (fun q hq=>by
     rcases ZB4.1 hq with hq |hq
     ·exact sP s p _ q hq
     ·exact hl' q hq) ho'
    exact⟨this.1,by have:=this.2;omega⟩
   |false=>rw [hv,cond_false] at h;have:=FV h hl' ho';exact⟨this.1,by have:=this.2;omega⟩
theorem aaz {s:ay}{t:bf}(h:aZ t.root=true):(∀p∈allM s t,aZ p=true)∧(allM s t).length≤40:=by
 unfold allM
 cases he:j7 40 s [t.root] [] with
 |none=>exact⟨fun p hp=>absurd (show p∈([]:List Pt) from hp) ZF6,ZA7 _⟩
 |some r=>
  have:=FV he (fun p hp=>by rw [ZC7.1 hp];exact h) (fun p hp=>absurd hp ZF6)
  exact⟨this.1,by have:=this.2;rw [ZA4] at this;show r.length≤40;omega⟩
theorem P8:(cT nz).ok:=P7
theorem nW {n:fu}(h:cy n=true):(cT n).ok:=by
 obtain⟨_,_,_,b4,b5,b6,_,_,_⟩:=lh h
 exact⟨⟨b4.2,b6⟩,b5.1,b5.2⟩
theorem OW (s:ByteArray):(cT (bz s).1).ok:=by
 cases h:(bz s).2 with
 |true=>exact nW (WX h)
 |false=>rw [WY h];exact P8
theorem pe (s:ay) (t:bf) (k:Int):(cT (cK s t k).1).ok:=by
 unfold cK
 cases !(ik k 0 (t.many-1)) with
 |true=>exact P8
 |false=>exact OW _
def xH (s:ay) (t:bf) (k:Int):ay:=dx (allM s (cT (cK s t k).1)) s
theorem rn (s:ay) (t:bf) (k:Int):cq s t k=bif !(aY (xH s t k) t k ⟨#[]⟩).2.2 then ((aY (xH s t k) t k ⟨#[]⟩).1,(aY (xH s t k) t k ⟨#[]⟩).2.1,false) else cF (aY (xH s t k) t k ⟨#[]⟩).1 (aY (xH s t k) t k ⟨#[]⟩).2.1 (mx s t k):=rfl
def vf (S:ay) (t:bf) (k:Int):Prop:=S.wg 1045000∧t.ok∧0≤k∧k≤15∧NC S (cT (cK S t k).1)=true
def jg (S:ay) (t:bf) (k:Int):AV:=.t [.a (kW 0 1 2 5 6 (cq S t k).1),trA (cq S t k).2.1,.s (.q (cq S t k).2.2)]
def kM (S:ay) (t:bf) (k:Int):List AV:=[.rs ab (cq S t k).1.rows,.rs ag (cq S t k).1.refs,.rs ag (cq S t k).1.last,.zz,.zz,.rs ae (cq S t k).1.gone,.rs ae (cq S t k).1.dead]
def DD:cn where
 A:=[.a (stB 0 1 2 3 4),.a [.int,.int,.int,.int,.int,.int,.int],.s .int]
 B:=[.r ab,.r ag,.r ag,.r ae,.r ae]
 pre:=fun x b=>stW x.1 b∧vf (gP x.1 b) (x.2.1) (x.2.2)
 r:=fun x b _=>jg (gP x.1 b) (x.2.1) (x.2.2)
 o:=fun x b _=>kM (gP x.1 b) (x.2.1) (x.2.2)
 nf:=2
 mv:=true
theorem abK:Has Tryz.prog 183 DD:=by
 refine Has.ofZ zT zF zF (l:=[(51,jE),(208,sL),(209,AB),(95,cJ),(60,ez),(210,ma)]) ⟨vy,ME,ZT,gx,lY,zH,aa⟩ Tryz.func183 ?_
 rintro⟨⟨(AU:Nat),(AT:Nat),(AS:Nat),(ao:Int),(AR:Nat),(aq:Int),(AQ:Nat),(ar:Bool)⟩,⟨(t1:Int),(t2:Int),(t3:Int),(t4:Int),(t5:Int),(t6:Int),(t7:Int)⟩,(k:Int)⟩ ⟨(aj:List ByteArray),(ak:List Int),(an:List Int),(ah:List Pt),(ai:List Pt)⟩ ⟨⟨(gC:AU=List.length aj),(gB:AT=List.length ak),(gA:AS=List.length an),(gz:AR=List.length ah),(gy:AQ=List.length ai)⟩,(hp:vf (aj,ak,an,ao,ah,aq,ai,ar) (t1,t2,t3,t4,t5,t6,t7) k)⟩
 subst gC gB gA gz gy
 show vc _ _ _ _ (entry [.a [.xs 0 1 0 aj.length,.xs 1 1 0 ak.length,.xs 2 1 0 an.length,.int ao,.xs 3 5 0 ah.length,.int aq,.xs 4 5 0 ai.length,.q ar],.a [.int t1,.int t2,.int t3,.int t4,.int t5,.int t6,.int t7],.int k] [.rs ab aj,.rs ag ak,.rs ag an,.rs ae ah,.rs ae ai]) _
 let g':=(aj,ak,an,ao,ah,aq,ai,ar)
 let A':=(t1,t2,t3,t4,t5,t6,t7)
 obtain⟨ll,cG,hk0,EX,hen⟩:=hp
 have ll:ay.wg g' 1045000:=ll
 have cG:bf.ok A':=cG
 have hna:=aaz (s:=g') (pe g' A' k).rd.ok
 have hlm:=IC (s:=g') cG k
 refine⟨⟨⟨⟨⟨?_,?_⟩,⟨?_,?_⟩,⟨?_,?_⟩,aa,⟨?_,?_⟩,aa,⟨?_,?_⟩,tv2⟩,tv8,tv2⟩,?_,?_⟩,fun x1 w2=>⟨⟨⟨⟨⟨?_,?_⟩,⟨?_,?_⟩,⟨?_,?_⟩,aa,⟨?_,?_⟩,aa,⟨?_,?_⟩,tv2⟩,tv8,tv2⟩,?_,?_⟩,fun x3 w4=>⟨⟨⟨⟨⟨?_,?_⟩,⟨?_,?_⟩,⟨?_,?_⟩,aa,⟨?_,?_⟩,aa,⟨?_,?_⟩,tv2⟩,tv8,aa⟩,?_,?_⟩,fun x5 w6=>?_⟩⟩⟩
 all_goals first|refine aw ?_|refine ax ?_|exact a8|(dsimp only [jE,kJ,sL,q7,AB,wE,cJ,dH,ez,fK,ma,mJ,gP];omega)|exact a7|exact ll.wf.rd|exact cG|exact hen|skip
 refine cN (l:=[(51,jE),(208,sL),(209,AB),(95,cJ),(60,ez),(210,ma)]) (ex:=zT) (wr:=zF) (pt:=zF) ⟨vy,ME,ZT,gx,lY,zH,aa⟩ [.s 2,.s 3,.s 4,.b 1004,.s 6,.s 7,.b 1006,.b 1007,.s 11,.s 12,.b 300000] (fun y:Nat×ay=>[(.s 13,.int y.1),(.b 1003,.a (kW 0 1 2 1000000001 1000000002 y.2)),(.b 0,.rs ab y.2.rows),(.b 1,.rs ag y.2.refs),(.b 2,.rs ag y.2.last),(.b 1000000001,.rs ae y.2.gone),(.b 1000000002,.rs ae y.2.dead)]) (fun y=>y.2.wg (1045000+y.1)∧y.1≤(allM g' (cT (cK g' A' k).1)).length∧dx ((allM g' (cT (cK g' A' k).1)).drop y.1) y.2=xH g' A' k) (fun y=>(allM g' (cT (cK g' A' k).1)).length-y.1) (0,g') [(1000000001,3),(1000000002,4)] ⟨ll,ZA7 _,rfl⟩ dM ?_
 rintro⟨i,u⟩ ⟨(hu:u.wg (1045000+i)),(hi:i≤(allM g' (cT (cK g' A' k).1)).length),(hr:dx ((allM g' (cT (cK g' A' k).1)).drop i) u=xH g' A' k)⟩
 have bU:decide ((i:Int)<((allM g' (cT (cK g' A' k).1)).length:Int))=true→i<(allM g' (cT (cK g' A' k).1)).length:=fun h=>by have:=aJ h;omega
 have hia:=nT (oC hna.1 i)
 have I3:=pg u (nth ae (allM g' (cT (cK g' A' k).1)) i)
 have hpo:=nq (k:=k) (text:=⟨#[]⟩) hu cG hk0 EX
 have hg:=hu.g
 have hd:=hu.d
 have hlen:=hna.2
 refine⟨fun w1=>⟨[.s 3,.b 1003],Sq36,rfl,Sq12,Sq37,rfl,Sq13,Sq38,rfl,[.s 37,.s 38],Sq39,rfl,⟨?_,?_⟩,[.s 39,.b 300000],Sq40,rfl,?_,[.s 36,.s 40,.b 0,.b 1,.b 2,.b 1000000001,.b 1000000002,.b 1000420001,.b 1000420000],[.s 41,.b 0,.b 1,.b 2,.b 1000000001,.b 1000000002,.b 1000420000,.b 1000420001],rfl,⟨⟨tv9,tv6,aa⟩,⟨?_,?_,?_,?_,?_⟩,⟨?_,?_,?_⟩,?_,?_,?_,?_⟩,?_,fun x2 w3=>⟨[.s 3,.s 41,.b 1003],[.b 1003],rfl,⟨?_,?_⟩,?_⟩⟩,fun w4=>⟨⟨⟨tv9,tv8,tv3⟩,⟨?_,?_,?_,?_,?_⟩,?_,?_,?_,?_,?_,?_,?_,?_⟩,fun |false=>fun w5=>⟨fun w6=>⟨[.s 3,.b 1003],Sq52,rfl,[.s 4,.b 1004],Sq53,rfl,[.s 6,.s 52,.b 1006],[.b 1006],rfl,[.s 7,.s 53,.b 1007],[.b 1007],rfl,[],Sq8,rfl,?_⟩,fun w7=>⟨⟨⟨tv9,tv8,tv2⟩,⟨?_,?_,?_,?_,?_⟩,?_,?_,?_,?_,?_,?_⟩,fun |false=>fun w8=>?_ |true=>fun w9=>?_⟩⟩ |true=>fun dy=>⟨fun kA=>⟨[.s 3,.b 1003],Sq52,rfl,[.s 4,.b 1004],Sq53,rfl,[.s 6,.s 52,.b 1006],[.b 1006],rfl,[.s 7,.s 53,.b 1007],[.b 1007],rfl,[],Sq8,rfl,?_⟩,fun dJ=>⟨⟨⟨tv9,tv8,tv2⟩,⟨?_,?_,?_,?_,?_⟩,?_,?_,?_,?_,?_,?_⟩,fun |false=>fun iU=>?_ |true=>fun gO=>?_⟩⟩⟩⟩
 all_goals first|refine aw ?_|refine ax ?_|exact a8|(dsimp only [jE,kJ,sL,q7,AB,wE,cJ,dH,ez,fK,ma,mJ,gP];omega)|exact a7|exact bU w1|exact hu.wf.n|exact hu.wf.n.1|exact hu.wf.n.2.1|exact hu.wf.n.2.2|exact hia.1|exact hia.2|exact ZB0 hg (by omega)|exact ZB0 hd (by omega)|exact hu.wf|exact cG.rd|exact cG.m1|exact⟨_,rfl⟩|exact hpo.1.wf|exact hpo.2.1.rd|exact hlm.1|exact ZB0 hpo.1.g (by omega)|exact ZB0 hpo.1.d (by omega)|exact ZE0 hlm.2 cG.m1|(show (i:Int)<((allM g' (cT (cK g' A' k).1)).length:Int);have:=bU w1;omega)|exact ZA7 _|skip
 all_goals first|exact absurd (show true=false from w7) Bool.noConfusion|exact absurd (show false=true from kA) Bool.noConfusion|skip
 ·have mo:=bU w1
  refine⟨(i+1,cM u (nth ae (allM g' (cT (cK g' A' k).1)) i)),[(1000000001,1000420000),(1000000002,1000420001)],?_,?_,?_⟩
  rotate_right
  ·exact bV
  ·refine⟨⟨qq hu.wf,?_,?_,?_⟩,mo,by rw [←hr,bW (ek:=ae) mo];rfl⟩
   ·show (cM u (nth ae (allM g' (cT (cK g' A' k).1)) i)).gone.length≤1045000+(i+1);omega
   ·show (cM u (nth ae (allM g' (cT (cK g' A' k).1)) i)).dead.length≤1045000+(i+1);omega
   ·show (cM u _).cg≤_;rw [wV];have:=hu.t;omega
  ·show (allM g' (cT (cK g' A' k).1)).length-(i+1)<(allM g' (cT (cK g' A' k).1)).length-i;omega
 all_goals have hU:xH g' A' k=u:=by rw [←hr,ZB3 (by have:=aA (p:=(i:Int)<((allM g' (cT (cK g' A' k).1)).length:Int)) w4;omega)];rfl
 ·have hz:(aY u A' k ⟨#[]⟩).2.2=false:=(show false=(aY u A' k ⟨#[]⟩).2.2 from w5).symm
  have e:cq g' A' k=((aY u A' k ⟨#[]⟩).1,(aY u A' k ⟨#[]⟩).2.1,false):=by rw [rn,hU,hz];rfl
  refine⟨[1000000001,1000000002],[],_,_,_,rfl,az,(),0,aa,?_,?_,rfl⟩
  ·(show _=jg g' A' k);unfold jg;first|(rw [e];rfl)|rfl
  ·(show _=kM g' A' k);unfold kM;first|(rw [e];rfl)|rfl
 ·have hz:(aY u A' k ⟨#[]⟩).2.2=true:=(show true=(aY u A' k ⟨#[]⟩).2.2 from dy).symm
  have hc:(cF (aY u A' k ⟨#[]⟩).1 (aY u A' k ⟨#[]⟩).2.1 (mx g' A' k)).2.2=false:=(show false=(cF (aY u A' k ⟨#[]⟩).1 (aY u A' k ⟨#[]⟩).2.1 (mx g' A' k)).2.2 from iU).symm
  have e:cq g' A' k=(cF (aY u A' k ⟨#[]⟩).1 (aY u A' k ⟨#[]⟩).2.1 (mx g' A' k)):=by rw [rn,hU,hz];rfl
  refine⟨[1000470000,1000470001],[],_,_,_,rfl,az,(),0,aa,?_,?_,rfl⟩
  ·(show _=jg g' A' k);unfold jg;first|(rw [e,hc];rfl)|(rw [e];rfl)|rfl
  ·(show _=kM g' A' k);unfold kM;first|(rw [e,hc];rfl)|(rw [e];rfl)|rfl
 ·have hz:(aY u A' k ⟨#[]⟩).2.2=true:=(show true=(aY u A' k ⟨#[]⟩).2.2 from dy).symm
  have hc:(cF (aY u A' k ⟨#[]⟩).1 (aY u A' k ⟨#[]⟩).2.1 (mx g' A' k)).2.2=true:=(show true=(cF (aY u A' k ⟨#[]⟩).1 (aY u A' k ⟨#[]⟩).2.1 (mx g' A' k)).2.2 from gO).symm
  have e:cq g' A' k=(cF (aY u A' k ⟨#[]⟩).1 (aY u A' k ⟨#[]⟩).2.1 (mx g' A' k)):=by rw [rn,hU,hz];rfl
  refine⟨[1000580000,1000580001],[],_,_,_,rfl,az,(),0,aa,?_,?_,rfl⟩
  ·(show _=jg g' A' k);unfold jg;first|(rw [e,hc];rfl)|(rw [e];rfl)|rfl
  ·(show _=kM g' A' k);unfold kM;first|(rw [e,hc];rfl)|(rw [e];rfl)|rfl
end GL
end Go.Proofs.YtnkbdhldiinfdaaGreatDoor
