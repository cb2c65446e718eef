/- Part 17 of the proof of a drawn law. -/
import Derived.Test.YtnkbdhldiinfdaaGreatDoorPah
import Derived.Test.YtnkbdhldiinfdaaGreatDoorPal
import Derived.Test.YtnkbdhldiinfdaaGreatDoorPam
import Derived.Test.YtnkbdhldiinfdaaGreatDoorPan
import Derived.Test.YtnkbdhldiinfdaaGreatDoorPap
set_option maxHeartbeats 20000000
set_option maxRecDepth 100000
set_option linter.all false
namespace Go.Proofs.YtnkbdhldiinfdaaGreatDoor
namespace GL
theorem JA:∀{l:List ByteArray}{out:ByteArray},out.size≤2048→(dB l out).1.size≤2048
 |[],out,h=>h
 |x::l,out,h=>by
  cases h1:decide ((x.size:Int)>2048) with
  |true=>rw [M0 h1];exact ZA7 _
  |false=>cases h2:decide (((out++bX x.size++⟨#[58]⟩++x).size:Int)>2048) with
   |true=>rw [MZ h2];exact ZA7 _
   |false=>rw [MY h1 h2];exact JA (by have:=aA h2;omega)
theorem PN (l:List ByteArray):(cE l).1.size≤2048:=by
 cases h:decide ((l.length:Int)≤60) with
 |true=>rw [gE h];exact JA (ZA7 _)
 |false=>rw [tP h];exact ZA7 _
theorem WW (n:fu):(aC n).size≤2048:=by
 unfold aC
 cases cy n with
 |false=>exact ZA7 _
 |true=>exact PN _
def tj (S:ay) (t:bf) (k:Int) (n:fu):Prop:=S.wg 1046000∧t.ok∧0≤k∧k≤15
def pK (S:ay) (t:bf) (k:Int) (n:fu):AV:=.t [.a (kW 0 1 2 5 6 (aY S t k (aC n)).1),trA (aY S t k (aC n)).2.1,.s (.q (aY S t k (aC n)).2.2)]
def sk (S:ay) (t:bf) (k:Int) (n:fu):List AV:=[.rs ab (aY S t k (aC n)).1.rows,.rs ag (aY S t k (aC n)).1.refs,.rs ag (aY S t k (aC n)).1.last,.zz,.zz,.rs ae (aY S t k (aC n)).1.gone,.rs ae (aY S t k (aC n)).1.dead]
def vT:cn where
 A:=[.a (stB 0 1 2 3 4),.a [.int,.int,.int,.int,.int,.int,.int],.s .int,.a [.int,.int,.int,.int,.int,.int,.int,.int,.int,.int]]
 B:=[.r ab,.r ag,.r ag,.r ae,.r ae]
 pre:=λx b=>stW x.1 b∧tj (gP x.1 b) (x.2.1) (x.2.2.1) (x.2.2.2)
 r:=λx b _=>pK (gP x.1 b) (x.2.1) (x.2.2.1) (x.2.2.2)
 o:=λx b _=>sk (gP x.1 b) (x.2.1) (x.2.2.1) (x.2.2.2)
 nf:=2
 mv:=true
theorem TB:Has Tryz.prog 77 vT:=by
 refine Has.ofZ zT zF zF (l:=[(118,sO),(60,ez)]) ⟨MK,lY,aa⟩ Tryz.func77 ?_
 rintro⟨⟨(AU:Nat),(AT:Nat),(AS:Nat),(ao:Int),(AR:Nat),(aq:Int),(AQ:Nat),(ar:Bool)⟩,⟨(t1:Int),(t2:Int),(t3:Int),(t4:Int),(t5:Int),(t6:Int),(t7:Int)⟩,(k:Int),⟨(n1:Int),(n2:Int),(n3:Int),(n4:Int),(n5:Int),(n6:Int),(n7:Int),(n8:Int),(n9:Int),(cw:Int)⟩⟩ ⟨(aj:List ByteArray),(ak:List Int),(an:List Int),(ah:List Pt),(ai:List Pt)⟩ ⟨⟨(gC:AU=List.length aj),(gB:AT=List.length ak),(gA:AS=List.length an),(gz:AR=List.length ah),(gy:AQ=List.length ai)⟩,(hp:tj (aj,ak,an,ao,ah,aq,ai,ar) (t1,t2,t3,t4,t5,t6,t7) k (n1,n2,n3,n4,n5,n6,n7,n8,n9,cw))⟩
 subst gC gB gA gz gy
 show vc _ _ _ _ (entry [.a [.xs 0 1 0 aj.length,.xs 1 1 0 ak.length,.xs 2 1 0 an.length,.int ao,.xs 3 5 0 ah.length,.int aq,.xs 4 5 0 ai.length,.q ar],.a [.int t1,.int t2,.int t3,.int t4,.int t5,.int t6,.int t7],.int k,.a [.int n1,.int n2,.int n3,.int n4,.int n5,.int n6,.int n7,.int n8,.int n9,.int cw]] [.rs ab aj,.rs ag ak,.rs ag an,.rs ae ah,.rs ae ai]) _
 let g':=(n1,n2,n3,n4,n5,n6,n7,n8,n9,cw)
 let A':=(aj,ak,an,ao,ah,aq,ai,ar)
 let B':=(t1,t2,t3,t4,t5,t6,t7)
 obtain⟨ll,cG,hk0,EX⟩:=hp
 have ll:ay.wg A' 1046000:=ll
 have cG:bf.ok B':=cG
 have dj:=WW g'
 refine⟨[.s 4,.b 1004],Sq11,ζ,[.s 5,.b 1005],Sq12,ζ,Sq2,Sq13,ζ,[.s 7,.b 1007],Sq14,ζ,Sq14,Sq15,ζ,⟨⟨tv11,aa⟩,aa⟩,?_,λx1 w2=>⟨[.s 11,.s 12,.s 13,.s 15,.b 0,.b 1,.b 2,.b 3,.b 4,.b 1000170001,.b 1000170000],[.s 16,.b 0,.b 1,.b 2,.b 3,.b 4,.b 1000170000,.b 1000170001],ζ,⟨⟨tv9,tv8,tv3⟩,⟨?_,?_,?_,?_,?_⟩,?_,?_,?_,?_,?_,?_,?_,?_⟩,?_,λ|false=>λw3=>⟨Sq16,Sq17,ζ,Sq16,Sq18,ζ,Sq16,Sq19,ζ,[.s 8,.s 17,.b 1008],[.b 1008],ζ,[.s 9,.s 18,.b 1009],[.b 1009],ζ,Sq19,Sq10,ζ,?_⟩ |true=>λw4=>⟨Sq16,Sq17,ζ,Sq16,Sq18,ζ,Sq16,Sq19,ζ,[.s 8,.s 17,.b 1008],[.b 1008],ζ,[.s 9,.s 18,.b 1009],[.b 1009],ζ,Sq19,Sq10,ζ,?_⟩⟩⟩
 all_goals first|refine aw ?_|refine ax ?_|exact a8|(dsimp only [sO,ra,ez,fK,gP];omega)|exact a7|exact ll.wf|exact cG.rd|exact cG.m1|exact ll.g|exact ll.d|exact ZB0 dj (by decide)|exact⟨_,rfl⟩|skip
 ·have hz:(aY A' B' k (aC g')).2.2=false:=(show false=(aY A' B' k (aC g')).2.2 from w3).symm
  refine⟨[3,4],[],_,_,_,ζ,az,(),0,aa,?_,?_,ζ⟩
  ·(show _=pK A' B' k g');unfold pK;first|(rw [hz];rfl)|rfl
  ·(show _=sk A' B' k g');unfold sk;first|(rw [hz];rfl)|rfl
 ·have hz:(aY A' B' k (aC g')).2.2=true:=(show true=(aY A' B' k (aC g')).2.2 from w4).symm
  refine⟨[1000170000,1000170001],[],_,_,_,ζ,az,(),0,aa,?_,?_,ζ⟩
  ·(show _=pK A' B' k g');unfold pK;first|(rw [hz];rfl)|rfl
  ·(show _=sk A' B' k g');unfold sk;first|(rw [hz];rfl)|rfl
theorem acS:∀{f:Nat}{s:ByteArray},∀x∈pcF f s,x.size≤s.size
 |0,s,x,h=>by cases h
 |f+1,s,x,h=>by
  cases h1:decide ((s.size:Int)>128) with
  |true=>
   rw [acV h1] at h
   rcases ZB8.1 h with h |h
   ·rw [h,ZC5];omega
   ·have:=acS x h
    rw [ZC5] at this;omega
  |false=>cases h2:decide (s≠⟨#[]⟩) with
   |true=>rw [acU h1 h2] at h;rw [ZC7.1 h];exact ZB5 _
   |false=>rw [acT h1 h2] at h;cases h
def B1 (S:ay) (t:bf) (text:ByteArray):Prop:=S.wg 1045000∧t.ok∧text.size≤1000000
def jM (S:ay) (t:bf) (text:ByteArray):AV:=.t [.a (kW 0 1 2 5 6 (dG S t text).1),trA (dG S t text).2.1,.s (.q (dG S t text).2.2)]
def lS (S:ay) (t:bf) (text:ByteArray):List AV:=[.rs ab (dG S t text).1.rows,.rs ag (dG S t text).1.refs,.rs ag (dG S t text).1.last,.zz,.zz,.rs ae (dG S t text).1.gone,.rs ae (dG S t text).1.dead]
def PV:cn where
 A:=[.a (stB 0 1 2 3 4),.a [.int,.int,.int,.int,.int,.int,.int],.s .str]
 B:=[.r ab,.r ag,.r ag,.r ae,.r ae]
 pre:=λx b=>stW x.1 b∧B1 (gP x.1 b) (x.2.1) (x.2.2)
 r:=λx b _=>jM (gP x.1 b) (x.2.1) (x.2.2)
 o:=λx b _=>lS (gP x.1 b) (x.2.1) (x.2.2)
 nf:=2
 mv:=true
theorem afW:Has Tryz.prog 206 PV:=by
 refine Has.ofZ zT zF zF (l:=[(228,qw),(60,ez),(210,ma)]) ⟨IE,lY,zH,aa⟩ Tryz.func206 ?_
 rintro⟨⟨(AU:Nat),(AT:Nat),(AS:Nat),(ao:Int),(AR:Nat),(aq:Int),(AQ:Nat),(ar:Bool)⟩,⟨(t1:Int),(t2:Int),(t3:Int),(t4:Int),(t5:Int),(t6:Int),(t7:Int)⟩,(text:ByteArray)⟩ ⟨(aj:List ByteArray),(ak:List Int),(an:List Int),(ah:List Pt),(ai:List Pt)⟩ ⟨⟨(gC:AU=List.length aj),(gB:AT=List.length ak),(gA:AS=List.length an),(gz:AR=List.length ah),(gy:AQ=List.length ai)⟩,(hp:B1 (aj,ak,an,ao,ah,aq,ai,ar) (t1,t2,t3,t4,t5,t6,t7) text)⟩
 subst gC gB gA gz gy
 show vc _ _ _ _ (entry [.a [.xs 0 1 0 aj.length,.xs 1 1 0 ak.length,.xs 2 1 0 an.length,.int ao,.xs 3 5 0 ah.length,.int aq,.xs 4 5 0 ai.length,.q ar],.a [.int t1,.int t2,.int t3,.int t4,.int t5,.int t6,.int t7],.str text] [.rs ab aj,.rs ag ak,.rs ag an,.rs ae ah,.rs ae ai]) _
 let g':=(aj,ak,an,ao,ah,aq,ai,ar)
 let A':=(t1,t2,t3,t4,t5,t6,t7)
 obtain⟨ll,cG,hts⟩:=hp
 have ll:ay.wg g' 1045000:=ll
 have cG:bf.ok A':=cG
 have hps:∀x∈kC text,x.size≤1000000:=λx hx=>ZB0 (acS x hx) hts
 refine⟨⟨tv2,?_⟩,λx1 w2=>⟨λw3=>⟨[.s 3,.b 1003],Sq19,ζ,[.s 4,.b 1004],Sq20,ζ,[.s 6,.s 19,.b 1006],[.b 1006],ζ,[.s 7,.s 20,.b 1007],[.b 1007],ζ,[],Sq8,ζ,?_⟩,λw4=>?_⟩⟩
 all_goals first|refine aw ?_|refine ax ?_|exact a8|(dsimp only [qw,lI,ez,fK,ma,mJ,gP];omega)|exact a7|skip
 ·have e:dG g' A' text=(g',A',false):=by unfold dG;rw [w3];rfl
  refine⟨[3,4],[],_,_,_,ζ,az,(),0,aa,?_,?_,ζ⟩
  ·(show _=jM g' A' text);unfold jM;first|(rw [e];rfl)|rfl
  ·(show _=lS g' A' text);unfold lS;first|(rw [e];rfl)|rfl
 ·have hl:=aA w4
  have hM:dG g' A' text=KB (iW (kC text) 0 g' A') (kC text).length:=by unfold dG;rw [w4];rfl
  refine cN (l:=[(228,qw),(60,ez),(210,ma)]) (ex:=zT) (wr:=zF) (pt:=zF) ⟨IE,lY,zH,aa⟩ [.s 6,.s 7,.b 1006,.b 1007,.s 9,.b 160000] (λy:Nat×ay×bf=>[(.s 3,.s (.bp 1003 0)),(.s 4,.s (.bp 1004 0)),(.s 10,.int y.1),(.b 1003,.a (kW 0 1 2 1000000001 1000000002 y.2.1)),(.b 0,.rs ab y.2.1.rows),(.b 1,.rs ag y.2.1.refs),(.b 2,.rs ag y.2.1.last),(.b 1000000001,.rs ae y.2.1.gone),(.b 1000000002,.rs ae y.2.1.dead),(.b 1004,.a [.int y.2.2.1,.int y.2.2.2.1,.int y.2.2.2.2.1,.int y.2.2.2.2.2.1,.int y.2.2.2.2.2.2.1,.int y.2.2.2.2.2.2.2.1,.int y.2.2.2.2.2.2.2.2])]) (λy=>y.2.1.wg (1045000+6*y.1)∧y.2.2.ok∧y.1≤(kC text).length∧iW ((kC text).drop y.1) y.1 y.2.1 y.2.2=iW (kC text) 0 g' A') (λy=>(kC text).length-y.1) (0,g',A') [(1000000001,3),(1000000002,4)] ⟨ll,cG,ZA7 _,rfl⟩ dM ?_
  rintro⟨i,u,tt⟩ ⟨(hu:u.wg (1045000+6*i)),(ht:tt.ok),(hi:i≤(kC text).length),(hr:iW ((kC text).drop i) i u tt=iW (kC text) 0 g' A')⟩
  have bU:decide ((i:Int)<((kC text).length:Int))=true→i<(kC text).length:=λh=>by have:=aJ h;omega
  have hxs:i<(kC text).length→(nth ab (kC text) i).size≤1000000:=λh=>hps _ (bR (ek:=ab) h)
  have hpo:=λh:i<16=>nq (k:=(i:Int)) (text:=nth ab (kC text) i) hu ht (by omega) (by omega)
  have ajz:∀r,iW (kC text) 0 g' A'=r→r.2.2=false→dG g' A' text=r:=λr h1 h2=>by rw [hM,h1];unfold KB;rw [h2];rfl
  refine⟨λw1=>⟨[.s 3,.b 1003],Sq28,ζ,[.s 4,.b 1004],Sq29,ζ,Sq10,Sq30,ζ,Sq9,Sq31,ζ,Sq10,Sq32,ζ,[.s 31,.s 32],Sq33,ζ,⟨?_,?_⟩,[.s 33,.b 160000],Sq34,ζ,?_,[.s 28,.s 29,.s 30,.s 34,.b 0,.b 1,.b 2,.b 1000000001,.b 1000000002,.b 1000360001,.b 1000360000],[.s 35,.b 0,.b 1,.b 2,.b 1000000001,.b 1000000002,.b 1000360000,.b 1000360001],ζ,⟨⟨tv9,tv8,tv3⟩,⟨?_,?_,?_,?_,?_⟩,?_,?_,?_,?_,?_,?_,?_,?_⟩,?_,λ|false=>λw2=>⟨Sq35,Sq27,ζ,Sq27,Sq36,ζ,Sq27,Sq37,ζ,Sq27,Sq38,ζ,[.b 1011],[.s 11,.b 1011],ζ,[.b 1012],[.s 12,.b 1012],ζ,[.s 11,.s 36,.b 1011],[.b 1011],ζ,[.s 12,.s 37,.b 1012],[.b 1012],ζ,Sq38,Sq13,ζ,λw3=>⟨[.s 3,.b 1003],Sq41,ζ,[.s 4,.b 1004],Sq42,ζ,[.s 6,.s 41,.b 1006],[.b 1006],ζ,[.s 7,.s 42,.b 1007],[.b 1007],ζ,[],Sq8,ζ,?_⟩,λw4=>⟨⟨?_,?_⟩,?_⟩⟩ |true=>λw5=>⟨Sq35,Sq27,ζ,Sq27,Sq36,ζ,Sq27,Sq37,ζ,Sq27,Sq38,ζ,[.b 1011],[.s 11,.b 1011],ζ,[.b 1012],[.s 12,.b 1012],ζ,[.s 11,.s 36,.b 1011],[.b 1011],ζ,[.s 12,.s 37,.b 1012],[.b 1012],ζ,Sq38,Sq13,ζ,λw6=>⟨[.s 3,.b 1003],Sq41,ζ,[.s 4,.b 1004],Sq42,ζ,[.s 6,.s 41,.b 1006],[.b 1006],ζ,[.s 7,.s 42,.b 1007],[.b 1007],ζ,[],Sq8,ζ,?_⟩,λw7=>⟨⟨?_,?_⟩,?_⟩⟩⟩,λw8=>⟨⟨⟨tv9,tv8,tv2⟩,⟨?_,?_,?_,?_,?_⟩,?_,?_,?_,?_,?_,?_⟩,λ|false=>λw9=>?_ |true=>λdy=>?_⟩⟩
  all_goals first|refine aw ?_|refine ax ?_|exact a8|(dsimp only [qw,lI,ez,fK,ma,mJ,gP];omega)|exact a7|exact bU w1|exact hu.wf|exact ht.rd|exact ht.m1|exact ZB0 hu.g (by omega)|exact ZB0 hu.d (by omega)|exact hxs (bU w1)|exact⟨_,rfl⟩|exact Int.natCast_nonneg _|(show ((kC text).length:Int)≤16;omega)|skip
  ·have mo:=bU w1
   have hz:(aY u tt i (nth ab (kC text) i)).2.2=false:=(show false=(aY u tt i (nth ab (kC text) i)).2.2 from w2).symm
   have xn:=(hpo (by omega)).2.2 hz
   have e:dG g' A' text=((aY u tt i (nth ab (kC text) i)).1,tt,false):=ajz _ (by rw [←hr,bW (ek:=ab) mo,OB hz]) rfl
   refine⟨[1000000001,1000000002],[],_,_,_,ζ,az,(),0,aa,?_,?_,ζ⟩
   ·(show _=jM g' A' text);unfold jM;first|(rw [e];rfl)|(rw [e];exact congrArg (λx=>AV.t [A0.a x,trA tt,A0.s (SV.q false)]) (nD (b0:=0) (b1:=1) (b2:=2) (b3:=5) (b4:=6) xn hu.wf))|(rw [e];have h3:=xn.gone;have h4:=xn.dead;exact congr (congrArg (λ(a b:List Pt)=>[AV.rs ab (aY u tt i (nth ab (kC text) i)).1.rows,AV.rs ag (aY u tt i (nth ab (kC text) i)).1.refs,AV.rs ag (aY u tt i (nth ab (kC text) i)).1.last,AV.zz,AV.zz,AV.rs ae a,AV.rs ae b]) h3.symm) h4.symm)|rfl
   ·(show _=lS g' A' text);unfold lS;first|(rw [e];rfl)|(rw [e];exact congrArg (λx=>AV.t [A0.a x,trA tt,A0.s (SV.q false)]) (nD (b0:=0) (b1:=1) (b2:=2) (b3:=5) (b4:=6) xn hu.wf))|(rw [e];have h3:=xn.gone;have h4:=xn.dead;exact congr (congrArg (λ(a b:List Pt)=>[AV.rs ab (aY u tt i (nth ab (kC text) i)).1.rows,AV.rs ag (aY u tt i (nth ab (kC text) i)).1.refs,AV.rs ag (aY u tt i (nth ab (kC text) i)).1.last,AV.zz,AV.zz,AV.rs ae a,AV.rs ae b]) h3.symm) h4.symm)|rfl
  ·exact absurd (show true=false from w4) Bool.noConfusion
  ·exact absurd (show false=true from w6) Bool.noConfusion
  ·have mo:=bU w1
   have hz:(aY u tt i (nth ab (kC text) i)).2.2=true:=(show true=(aY u tt i (nth ab (kC text) i)).2.2 from w5).symm
   have h2:=hpo (by omega)
   refine⟨(i+1,(aY u tt i (nth ab (kC text) i)).1,(aY u tt i (nth ab (kC text) i)).2.1),[(1000000001,1000360000),(1000000002,1000360001)],?_,?_,?_⟩
   rotate_right
   ·exact bV
   ·exact⟨h2.1.mono (by show 1045000+6*i+6≤1045000+6*(i+1);omega),h2.2.1,mo,by rw [←hr,bW (ek:=ab) mo,OA hz]⟩
   ·show (kC text).length-(i+1)<(kC text).length-i;omega
  ·have FL:=aA (p:=(i:Int)<((kC text).length:Int)) w8
   have e0:iW (kC text) 0 g' A'=(u,tt,true):=by rw [←hr,ZB3 (by omega)];rfl
   have hz:(cF u tt (kC text).length).2.2=false:=(show false=(cF u tt (kC text).length).2.2 from w9).symm
   have e:dG g' A' text=cF u tt (kC text).length:=by rw [hM,e0];rfl
   refine⟨[1000000001,1000000002],[],_,_,_,ζ,az,(),0,aa,?_,?_,ζ⟩
   ·(show _=jM g' A' text);unfold jM;first|(rw [e,hz];rfl)|(rw [e];rfl)|rfl
   ·(show _=lS g' A' text);unfold lS;first|(rw [e,hz];rfl)|(rw [e];rfl)|rfl
  ·have FL:=aA (p:=(i:Int)<((kC text).length:Int)) w8
   have e0:iW (kC text) 0 g' A'=(u,tt,true):=by rw [←hr,ZB3 (by omega)];rfl
   have hz:(cF u tt (kC text).length).2.2=true:=(show true=(cF u tt (kC text).length).2.2 from dy).symm
   have e:dG g' A' text=cF u tt (kC text).length:=by rw [hM,e0];rfl
   refine⟨[1000500000,1000500001],[],_,_,_,ζ,az,(),0,aa,?_,?_,ζ⟩
   ·(show _=jM g' A' text);unfold jM;first|(rw [e,hz];rfl)|(rw [e];rfl)|rfl
   ·(show _=lS g' A' text);unfold lS;first|(rw [e,hz];rfl)|(rw [e];rfl)|rfl
end GL
namespace GL
theorem FV {s:ay}:∀{f:Nat}{l out r:List Pt},j7 f s l out=some r→(∀p∈l,aZ p=true)→(∀p∈out,aZ p=true)→(∀p∈r,aZ p=true)∧r.length≤out.length+f
 |0,l,out,r,h,_,_=>by rw [j7] at h;cases h
 |f+1,[],out,r,h,_,ho=>by rw [j7] at h;have h:=ZG8 h;rw [←h];exact⟨ho,by omega⟩
 |f+1,p::l,out,r,h,hl,ho=>by
  have hp:=hl p (by simp)
  have hl':∀q∈l,aZ q=true:=λq hq=>hl q (by simp [hq])
  have ho':∀q∈out++[p],aZ q=true:=λq hq=>by
   rcases ZB4.1 hq with hq |hq
   ·exact ho q hq
   ·rw [ZC7.1 hq];exact hp
  have hlen:(out++[p]).length=out.length+1:=by rw [ZA0];rfl
  rw [j7] at h
  cases hh:au p with
  |true=>rw [hh,cond_true] at h;have:=FV h hl' ho;exact⟨this.1,by omega⟩
  |false=>
   rw [hh,cond_false] at h
   cases hv:decide (p.2.2.2.2>0) with
   |true=>
    rw [hv,cond_true] at h
    have:=FV h (λq hq=>by
     rcases ZB4.1 hq with hq |hq
     ·exact sP s p _ q hq
     ·exact hl' q hq) ho'
    exact⟨this.1,by have:=this.2;omega⟩
   |false=>rw [hv,cond_false] at h;have:=FV h hl' ho';exact⟨this.1,by have:=this.2;omega⟩
theorem aaz {s:ay}{t:bf}(h:aZ t.root=true):(∀p∈allM s t,aZ p=true)∧(allM s t).length≤40:=by
 unfold allM
 cases he:j7 40 s [t.root] [] with
 |none=>exact⟨λp hp=>absurd (show p∈([]:List Pt) from hp) ZF6,ZA7 _⟩
 |some r=>
  have:=FV he (λp hp=>by rw [ZC7.1 hp];exact h) (λp hp=>absurd hp ZF6)
  exact⟨this.1,by have:=this.2;rw [ZA4] at this;show r.length≤40;omega⟩
theorem P8:(cT nz).ok:=P7
theorem nW {n:fu}(h:cy n=true):(cT n).ok:=by
 obtain⟨_,_,_,b4,b5,b6,_,_,_⟩:=lh h
 exact⟨⟨b4.2,b6⟩,b5.1,b5.2⟩
theorem OW (s:ByteArray):(cT (bz s).1).ok:=by
 cases h:(bz s).2 with
 |true=>exact nW (WX h)
 |false=>rw [WY h];exact P8
theorem pe (s:ay) (t:bf) (k:Int):(cT (cK s t k).1).ok:=by
 unfold cK
 cases !(ik k 0 (t.many-1)) with
 |true=>exact P8
 |false=>exact OW _
def xH (s:ay) (t:bf) (k:Int):ay:=dx (allM s (cT (cK s t k).1)) s
theorem rn (s:ay) (t:bf) (k:Int):cq s t k=bif !(aY (xH s t k) t k ⟨#[]⟩).2.2 then ((aY (xH s t k) t k ⟨#[]⟩).1,(aY (xH s t k) t k ⟨#[]⟩).2.1,false) else cF (aY (xH s t k) t k ⟨#[]⟩).1 (aY (xH s t k) t k ⟨#[]⟩).2.1 (mx s t k):=rfl
def vf (S:ay) (t:bf) (k:Int):Prop:=S.wg 1045000∧t.ok∧0≤k∧k≤15∧NC S (cT (cK S t k).1)=true
def jg (S:ay) (t:bf) (k:Int):AV:=.t [.a (kW 0 1 2 5 6 (cq S t k).1),trA (cq S t k).2.1,.s (.q (cq S t k).2.2)]
def kM (S:ay) (t:bf) (k:Int):List AV:=[.rs ab (cq S t k).1.rows,.rs ag (cq S t k).1.refs,.rs ag (cq S t k).1.last,.zz,.zz,.rs ae (cq S t k).1.gone,.rs ae (cq S t k).1.dead]
def DD:cn where
 A:=[.a (stB 0 1 2 3 4),.a [.int,.int,.int,.int,.int,.int,.int],.s .int]
 B:=[.r ab,.r ag,.r ag,.r ae,.r ae]
 pre:=λx b=>stW x.1 b∧vf (gP x.1 b) (x.2.1) (x.2.2)
 r:=λx b _=>jg (gP x.1 b) (x.2.1) (x.2.2)
 o:=λx b _=>kM (gP x.1 b) (x.2.1) (x.2.2)
 nf:=2
 mv:=true
theorem abK:Has Tryz.prog 183 DD:=by
 refine Has.ofZ zT zF zF (l:=[(51,jE),(208,sL),(209,AB),(95,cJ),(60,ez),(210,ma)]) ⟨vy,ME,ZT,gx,lY,zH,aa⟩ Tryz.func183 ?_
 rintro⟨⟨(AU:Nat),(AT:Nat),(AS:Nat),(ao:Int),(AR:Nat),(aq:Int),(AQ:Nat),(ar:Bool)⟩,⟨(t1:Int),(t2:Int),(t3:Int),(t4:Int),(t5:Int),(t6:Int),(t7:Int)⟩,(k:Int)⟩ ⟨(aj:List ByteArray),(ak:List Int),(an:List Int),(ah:List Pt),(ai:List Pt)⟩ ⟨⟨(gC:AU=List.length aj),(gB:AT=List.length ak),(gA:AS=List.length an),(gz:AR=List.length ah),(gy:AQ=List.length ai)⟩,(hp:vf (aj,ak,an,ao,ah,aq,ai,ar) (t1,t2,t3,t4,t5,t6,t7) k)⟩
 subst gC gB gA gz gy
 show vc _ _ _ _ (entry [.a [.xs 0 1 0 aj.length,.xs 1 1 0 ak.length,.xs 2 1 0 an.length,.int ao,.xs 3 5 0 ah.length,.int aq,.xs 4 5 0 ai.length,.q ar],.a [.int t1,.int t2,.int t3,.int t4,.int t5,.int t6,.int t7],.int k] [.rs ab aj,.rs ag ak,.rs ag an,.rs ae ah,.rs ae ai]) _
 let g':=(aj,ak,an,ao,ah,aq,ai,ar)
 let A':=(t1,t2,t3,t4,t5,t6,t7)
 obtain⟨ll,cG,hk0,EX,hen⟩:=hp
 have ll:ay.wg g' 1045000:=ll
 have cG:bf.ok A':=cG
 have hna:=aaz (s:=g') (pe g' A' k).rd.ok
 have hlm:=IC (s:=g') cG k
 refine⟨⟨⟨⟨⟨?_,?_⟩,⟨?_,?_⟩,⟨?_,?_⟩,aa,⟨?_,?_⟩,aa,⟨?_,?_⟩,tv2⟩,tv8,tv2⟩,?_,?_⟩,λx1 w2=>⟨⟨⟨⟨⟨?_,?_⟩,⟨?_,?_⟩,⟨?_,?_⟩,aa,⟨?_,?_⟩,aa,⟨?_,?_⟩,tv2⟩,tv8,tv2⟩,?_,?_⟩,λx3 w4=>⟨⟨⟨⟨⟨?_,?_⟩,⟨?_,?_⟩,⟨?_,?_⟩,aa,⟨?_,?_⟩,aa,⟨?_,?_⟩,tv2⟩,tv8,aa⟩,?_,?_⟩,λx5 w6=>?_⟩⟩⟩
 all_goals first|refine aw ?_|refine ax ?_|exact a8|(dsimp only [jE,kJ,sL,q7,AB,wE,cJ,dH,ez,fK,ma,mJ,gP];omega)|exact a7|exact ll.wf.rd|exact cG|exact hen|skip
 refine cN (l:=[(51,jE),(208,sL),(209,AB),(95,cJ),(60,ez),(210,ma)]) (ex:=zT) (wr:=zF) (pt:=zF) ⟨vy,ME,ZT,gx,lY,zH,aa⟩ [.s 2,.s 3,.s 4,.b 1004,.s 6,.s 7,.b 1006,.b 1007,.s 11,.s 12,.b 300000] (λy:Nat×ay=>[(.s 13,.int y.1),(.b 1003,.a (kW 0 1 2 1000000001 1000000002 y.2)),(.b 0,.rs ab y.2.rows),(.b 1,.rs ag y.2.refs),(.b 2,.rs ag y.2.last),(.b 1000000001,.rs ae y.2.gone),(.b 1000000002,.rs ae y.2.dead)]) (λy=>y.2.wg (1045000+y.1)∧y.1≤(allM g' (cT (cK g' A' k).1)).length∧dx ((allM g' (cT (cK g' A' k).1)).drop y.1) y.2=xH g' A' k) (λy=>(allM g' (cT (cK g' A' k).1)).length-y.1) (0,g') [(1000000001,3),(1000000002,4)] ⟨ll,ZA7 _,rfl⟩ dM ?_
 rintro⟨i,u⟩ ⟨(hu:u.wg (1045000+i)),(hi:i≤(allM g' (cT (cK g' A' k).1)).length),(hr:dx ((allM g' (cT (cK g' A' k).1)).drop i) u=xH g' A' k)⟩
 have bU:decide ((i:Int)<((allM g' (cT (cK g' A' k).1)).length:Int))=true→i<(allM g' (cT (cK g' A' k).1)).length:=λh=>by have:=aJ h;omega
 have hia:=nT (oC hna.1 i)
 have I3:=pg u (nth ae (allM g' (cT (cK g' A' k).1)) i)
 have hpo:=nq (k:=k) (text:=⟨#[]⟩) hu cG hk0 EX
 have hg:=hu.g
 have hd:=hu.d
 have hlen:=hna.2
 refine⟨λw1=>⟨[.s 3,.b 1003],Sq36,ζ,Sq12,Sq37,ζ,Sq13,Sq38,ζ,[.s 37,.s 38],Sq39,ζ,⟨?_,?_⟩,[.s 39,.b 300000],Sq40,ζ,?_,[.s 36,.s 40,.b 0,.b 1,.b 2,.b 1000000001,.b 1000000002,.b 1000420001,.b 1000420000],[.s 41,.b 0,.b 1,.b 2,.b 1000000001,.b 1000000002,.b 1000420000,.b 1000420001],ζ,⟨⟨tv9,tv6,aa⟩,⟨?_,?_,?_,?_,?_⟩,⟨?_,?_,?_⟩,?_,?_,?_,?_⟩,?_,λx2 w3=>⟨[.s 3,.s 41,.b 1003],[.b 1003],ζ,⟨?_,?_⟩,?_⟩⟩,λw4=>⟨⟨⟨tv9,tv8,tv3⟩,⟨?_,?_,?_,?_,?_⟩,?_,?_,?_,?_,?_,?_,?_,?_⟩,λ|false=>λw5=>⟨λw6=>⟨[.s 3,.b 1003],Sq52,ζ,[.s 4,.b 1004],Sq53,ζ,[.s 6,.s 52,.b 1006],[.b 1006],ζ,[.s 7,.s 53,.b 1007],[.b 1007],ζ,[],Sq8,ζ,?_⟩,λw7=>⟨⟨⟨tv9,tv8,tv2⟩,⟨?_,?_,?_,?_,?_⟩,?_,?_,?_,?_,?_,?_⟩,λ|false=>λw8=>?_ |true=>λw9=>?_⟩⟩ |true=>λdy=>⟨λkA=>⟨[.s 3,.b 1003],Sq52,ζ,[.s 4,.b 1004],Sq53,ζ,[.s 6,.s 52,.b 1006],[.b 1006],ζ,[.s 7,.s 53,.b 1007],[.b 1007],ζ,[],Sq8,ζ,?_⟩,λdJ=>⟨⟨⟨tv9,tv8,tv2⟩,⟨?_,?_,?_,?_,?_⟩,?_,?_,?_,?_,?_,?_⟩,λ|false=>λiU=>?_ |true=>λgO=>?_⟩⟩⟩⟩
 all_goals first|refine aw ?_|refine ax ?_|exact a8|(dsimp only [jE,kJ,sL,q7,AB,wE,cJ,dH,ez,fK,ma,mJ,gP];omega)|exact a7|exact bU w1|exact hu.wf.n|exact hu.wf.n.1|exact hu.wf.n.2.1|exact hu.wf.n.2.2|exact hia.1|exact hia.2|exact ZB0 hg (by omega)|exact ZB0 hd (by omega)|exact hu.wf|exact cG.rd|exact cG.m1|exact⟨_,rfl⟩|exact hpo.1.wf|exact hpo.2.1.rd|exact hlm.1|exact ZB0 hpo.1.g (by omega)|exact ZB0 hpo.1.d (by omega)|exact ZE0 hlm.2 cG.m1|(show (i:Int)<((allM g' (cT (cK g' A' k).1)).length:Int);have:=bU w1;omega)|exact ZA7 _|skip
 all_goals first|exact absurd (show true=false from w7) Bool.noConfusion|exact absurd (show false=true from kA) Bool.noConfusion|skip
 ·have mo:=bU w1
  refine⟨(i+1,cM u (nth ae (allM g' (cT (cK g' A' k).1)) i)),[(1000000001,1000420000),(1000000002,1000420001)],?_,?_,?_⟩
  rotate_right
  ·exact bV
  ·refine⟨⟨qq hu.wf,?_,?_,?_⟩,mo,by rw [←hr,bW (ek:=ae) mo];rfl⟩
   ·show (cM u (nth ae (allM g' (cT (cK g' A' k).1)) i)).gone.length≤1045000+(i+1);omega
   ·show (cM u (nth ae (allM g' (cT (cK g' A' k).1)) i)).dead.length≤1045000+(i+1);omega
   ·show (cM u _).cg≤_;rw [wV];have:=hu.t;omega
  ·show (allM g' (cT (cK g' A' k).1)).length-(i+1)<(allM g' (cT (cK g' A' k).1)).length-i;omega
 all_goals have hU:xH g' A' k=u:=by rw [←hr,ZB3 (by have:=aA (p:=(i:Int)<((allM g' (cT (cK g' A' k).1)).length:Int)) w4;omega)];rfl
 ·have hz:(aY u A' k ⟨#[]⟩).2.2=false:=(show false=(aY u A' k ⟨#[]⟩).2.2 from w5).symm
  have e:cq g' A' k=((aY u A' k ⟨#[]⟩).1,(aY u A' k ⟨#[]⟩).2.1,false):=by rw [rn,hU,hz];rfl
  refine⟨[1000000001,1000000002],[],_,_,_,ζ,az,(),0,aa,?_,?_,ζ⟩
  ·(show _=jg g' A' k);unfold jg;first|(rw [e];rfl)|rfl
  ·(show _=kM g' A' k);unfold kM;first|(rw [e];rfl)|rfl
 ·have hz:(aY u A' k ⟨#[]⟩).2.2=true:=(show true=(aY u A' k ⟨#[]⟩).2.2 from dy).symm
  have hc:(cF (aY u A' k ⟨#[]⟩).1 (aY u A' k ⟨#[]⟩).2.1 (mx g' A' k)).2.2=false:=(show false=(cF (aY u A' k ⟨#[]⟩).1 (aY u A' k ⟨#[]⟩).2.1 (mx g' A' k)).2.2 from iU).symm
  have e:cq g' A' k=(cF (aY u A' k ⟨#[]⟩).1 (aY u A' k ⟨#[]⟩).2.1 (mx g' A' k)):=by rw [rn,hU,hz];rfl
  refine⟨[1000470000,1000470001],[],_,_,_,ζ,az,(),0,aa,?_,?_,ζ⟩
  ·(show _=jg g' A' k);unfold jg;first|(rw [e,hc];rfl)|(rw [e];rfl)|rfl
  ·(show _=kM g' A' k);unfold kM;first|(rw [e,hc];rfl)|(rw [e];rfl)|rfl
 ·have hz:(aY u A' k ⟨#[]⟩).2.2=true:=(show true=(aY u A' k ⟨#[]⟩).2.2 from dy).symm
  have hc:(cF (aY u A' k ⟨#[]⟩).1 (aY u A' k ⟨#[]⟩).2.1 (mx g' A' k)).2.2=true:=(show true=(cF (aY u A' k ⟨#[]⟩).1 (aY u A' k ⟨#[]⟩).2.1 (mx g' A' k)).2.2 from gO).symm
  have e:cq g' A' k=(cF (aY u A' k ⟨#[]⟩).1 (aY u A' k ⟨#[]⟩).2.1 (mx g' A' k)):=by rw [rn,hU,hz];rfl
  refine⟨[1000580000,1000580001],[],_,_,_,ζ,az,(),0,aa,?_,?_,ζ⟩
  ·(show _=jg g' A' k);unfold jg;first|(rw [e,hc];rfl)|(rw [e];rfl)|rfl
  ·(show _=kM g' A' k);unfold kM;first|(rw [e,hc];rfl)|(rw [e];rfl)|rfl
end GL
namespace GL
def mw (size k:Int):Int:=min 12 (size-k*12)
def qZ (size:Int) (k:Int):Prop:= -1000000≤size∧size≤1000000∧0≤k∧k≤1000000
def u3 (size:Int) (k:Int):AV:=.s (.int (mw size k))
def V6 (size:Int) (k:Int):List AV:=[]
def sJ:cn where
 A:=[.s .int,.s .int]
 B:=[]
 pre:=λx b=>qZ (x.1) (x.2)
 r:=λx b _=>u3 (x.1) (x.2)
 o:=λx b _=>V6 (x.1) (x.2)
theorem MC:Has Tryz.prog 229 sJ:=by
 refine Has.fm zT zF zF (l:=[]) trivial Tryz.func229 ?_
 rintro⟨(size:Int),(k:Int)⟩ _ (hp:qZ size k)
 show vc _ _ _ _ (entry [.int size,.int k] []) _
 obtain⟨h1,h2,h3,h4⟩:=hp
 refine⟨⟨?_,?_⟩,⟨⟨?_,?_⟩,?_⟩⟩
 all_goals first|refine aw ?_|refine ax ?_|exact a8|exact a7|skip
 refine⟨[],[],_,_,_,ζ,az,(),aa,?_,?_,ζ⟩
 ·(show _=u3 size k);unfold u3;first|rfl
 ·rfl
def txF (size:Int):List ByteArray→Nat→ByteArray→ByteArray
 |[],_,out=>out
 |s::l,k,out=>txF size l (k+1) (out++s++kG (mw size k-s.size))
def jd (s:ay) (n:fu):ByteArray:=txF n.2.2.1 (bo s (cT n)) 0 ⟨#[]⟩
theorem kV (n:Int):(kG n).size=(max 0 n).toNat:=by
 unfold kG;rw [fa,nC];simp
structure fu.fok (n:fu):Prop where
 ok:(cT n).ok
 s0: -1000000≤n.2.2.1
 s1:n.2.2.1≤1000000
def qY (S:ay) (n:fu):Prop:=S.rd∧n.fok
def u2 (S:ay) (n:fu):AV:=.s (.str (jd S n))
def V5 (S:ay) (n:fu):List AV:=[]
def sI:cn where
 A:=[.a xv,.a [.int,.int,.int,.int,.int,.int,.int,.int,.int,.int]]
 B:=[]
 pre:=λx b=>qY (x.1) (x.2)
 r:=λx b _=>u2 (x.1) (x.2)
 o:=λx b _=>V5 (x.1) (x.2)
theorem MB:Has Tryz.prog 213 sI:=by
 refine Has.fm zT zF zF (l:=[(50,dc),(229,sJ),(214,iF)]) ⟨iR,MC,tI,aa⟩ Tryz.func213 ?_
 rintro⟨⟨(aj:List ByteArray),(ak:List Int),(an:List Int),(ao:Int),(ah:List Pt),(aq:Int),(ai:List Pt),(ar:Bool)⟩,⟨(n1:Int),(n2:Int),(n3:Int),(n4:Int),(n5:Int),(n6:Int),(n7:Int),(n8:Int),(n9:Int),(cw:Int)⟩⟩ _ (hp:qY (aj,ak,an,ao,ah,aq,ai,ar) (n1,n2,n3,n4,n5,n6,n7,n8,n9,cw))
 show vc _ _ _ _ (entry [.a [.vz ab aj,.vz ag ak,.vz ag an,.int ao,.vz ae ah,.int aq,.vz ae ai,.q ar],.a [.int n1,.int n2,.int n3,.int n4,.int n5,.int n6,.int n7,.int n8,.int n9,.int cw]] []) _
 let g':=(n1,n2,n3,n4,n5,n6,n7,n8,n9,cw)
 let A':=(aj,ak,an,ao,ah,aq,ai,ar)
 obtain⟨dF,hf⟩:=hp
 have dF:ay.rd A':=dF
 have hf:fu.fok g':=hf
 have cG:=hf.ok
 have h0:0≤cw:=cG.m0
 have h1:cw≤16:=cG.m1
 have hs0: -1000000≤n3:=hf.s0
 have hs1:n3≤1000000:=hf.s1
 have hl:(bo A' (cT g')).length=cw.toNat:=fq cG
 refine⟨⟨⟨tv9,tv8,aa⟩,?_,?_,?_,?_⟩,λx1 w2=>?_⟩
 all_goals first|refine aw ?_|refine ax ?_|exact a8|(dsimp only [dc,eF,sJ,qZ,iF,jP];omega)|exact a7|exact dF|exact cG.rd|exact h0|exact h1|skip
 refine cN (l:=[(50,dc),(229,sJ),(214,iF)]) (ex:=zT) (wr:=zF) (pt:=zF) ⟨iR,MC,tI,aa⟩ [.s 2,.s 3,.b 1002,.b 1003,.s 6,.b 130000] (λy:Nat×ByteArray=>[(.s 5,.str y.2),(.s 7,.int y.1)]) (λy=>(y.1:Int)≤cw∧y.2.size≤3000000*y.1∧txF n3 ((bo A' (cT g')).drop y.1) y.1 y.2=jd A' g') (λy=>cw.toNat-y.1) (0,⟨#[]⟩) [] ⟨h0,ZA7 _,rfl⟩ dM ?_
 rintro⟨i,out⟩ ⟨(hi:(i:Int)≤cw),(ho:out.size≤3000000*i),(hr:txF n3 ((bo A' (cT g')).drop i) i out=jd A' g')⟩
 have bU:decide ((i:Int)<cw)=true→i<(bo A' (cT g')).length:=λh=>by have:=aJ h;omega
 have dj:=WS (wv (s:=A') (t:=cT g') dF) i
 have hlg:mw n3 i≤12:=by unfold mw;omega
 have ami: -1000200≤mw n3 i:=by unfold mw;omega
 have hzs:(kG (mw n3 i-(nth ab (bo A' (cT g')) i).size)).size≤12:=by rw [kV];omega
 refine⟨λw1=>⟨⟨?_,?_⟩,?_,?_,⟨tv3,?_,?_,?_,?_⟩,λx2 w3=>⟨⟨?_,?_⟩,⟨tv2,?_⟩,λx4 w5=>⟨?_,⟨?_,?_⟩,?_⟩⟩⟩,λw6=>?_⟩
 all_goals first|refine aw ?_|refine ax ?_|exact a8|(dsimp only [dc,eF,sJ,qZ,iF,jP];omega)|exact a7|exact bU w1|exact hs0|exact hs1|(show (i:Int)<((bo A' (cT g')).length:Int);have:=bU w1;omega)|(show (out.size+(nth ab (bo A' (cT g')) i).size:Int)≤imax;unfold imax;omega)|(show gK≤mw n3 i-((nth ab (bo A' (cT g')) i).size:Int);unfold gK;omega)|(show (((out++(nth ab (bo A' (cT g')) i)).size:Nat):Int)+((kG (mw n3 i-(nth ab (bo A' (cT g')) i).size)).size:Int)≤imax;rw [ZB2];unfold imax;omega)|skip
 ·have mo:=bU w1
  have aeb:=aJ (p:=(i:Int)<cw) w1
  refine⟨(i+1,out++(nth ab (bo A' (cT g')) i)++kG (mw n3 i-(nth ab (bo A' (cT g')) i).size)),[],?_,?_,?_⟩
  rotate_right
  ·exact bV
  ·refine⟨by show ((i+1:Nat):Int)≤cw;omega,?_,by rw [←hr,bW (ek:=ab) mo];rfl⟩
   show (out++(nth ab (bo A' (cT g')) i)++kG (mw n3 i-(nth ab (bo A' (cT g')) i).size)).size≤3000000*(i+1)
   rw [ZB2,ZB2];omega
  ·show cw.toNat-(i+1)<cw.toNat-i;omega
 ·have e:jd A' g'=out:=by rw [←hr,ZB3 (by have:=aA (p:=(i:Int)<cw) w6;omega)];rfl
  refine⟨[],[],_,_,_,ζ,az,(),aa,?_,?_,ζ⟩
  ·(show _=u2 A' g');unfold u2;first|(rw [e];rfl)|rfl
  ·rfl
theorem QC {size:Int}:∀{l:List ByteArray}{k:Nat}{out:ByteArray},(∀x∈l,x.size≤1000000)→(txF size l k out).size≤out.size+1000012*l.length
 |[],k,out,_=>ZB5 _
 |x::l,k,out,h=>by
  have h1:=QC (size:=size) (l:=l) (k:=k+1) (out:=out++x++kG (mw size k-x.size)) λy hy=>h y (by simp [hy])
  have h2:=h x (by simp)
  rw [ZB2,ZB2,kV] at h1
  have h3:mw size k≤12:=by unfold mw;omega
  rw [txF,ZA1];omega
theorem GA {s:ay}{n:fu}(hs:s.rd) (hn:n.fok):(jd s n).size≤16000200:=by
 have h:=QC (size:=n.2.2.1) (k:=0) (out:=⟨#[]⟩) (wv (s:=s) (t:=cT n) hs)
 rw [fq hn.ok] at h
 have:=hn.ok.m1
 show (txF _ _ _ _).size≤_
 rw [show (⟨#[]⟩:ByteArray).size=0 from rfl] at h
 omega
theorem aci:∀{f:Nat}{s:ByteArray},(zrF f s).size≤s.size
 |0,s=>ZB5 _
 |f+1,s=>by
  cases h:zrB s with
  |true=>
   rw [agz h]
   have:=aci (f:=f) (s:=s.extract 0 ((s.size:Int)-1).toNat)
   rw [ZC5] at this;omega
  |false=>rw [acj h];exact ZB5 _
abbrev eJ (text:ByteArray) (k:Int):ByteArray:=zrM (text.extract (k*12).toNat (min (text.size:Int) ((k+1)*12)).toNat)
def qP:Nat→Int→ay→bf→ByteArray→ay×bf×Bool
 |0,_,s,t,_=>(s,t,true)
 |f+1,k,s,t,text=>bif !(aY s t k (eJ text k)).2.2 then ((aY s t k (eJ text k)).1,t,false) else qP f (k+1) (aY s t k (eJ text k)).1 (aY s t k (eJ text k)).2.1 text
theorem VU {f:Nat}{k:Int}{s:ay}{t:bf}{text:ByteArray}(h:(aY s t k (eJ text k)).2.2=false):qP (f+1) k s t text=((aY s t k (eJ text k)).1,t,false):=by rw [qP,h];rfl
theorem VT {f:Nat}{k:Int}{s:ay}{t:bf}{text:ByteArray}(h:(aY s t k (eJ text k)).2.2=true):qP (f+1) k s t text=qP f (k+1) (aY s t k (eJ text k)).1 (aY s t k (eJ text k)).2.1 text:=by rw [qP,h];rfl
def zw (s:ay) (n:fu) (text:ByteArray) (fr to:Int):ay×fu×Bool:=
 ((qP (to+1-fr).toNat fr s (cT n) text).1,kb n text.size (qP (to+1-fr).toNat fr s (cT n) text).2.1,(qP (to+1-fr).toNat fr s (cT n) text).2.2)
theorem Y5 {s u:ay}{n:fu}{t:bf}{text:ByteArray}{fr to:Int}{b:Bool}(h:qP (to+1-fr).toNat fr s (cT n) text=(u,t,b)):zw s n text fr to=(u,kb n text.size t,b):=by unfold zw;rw [h]
def ti (S:ay) (n:fu) (text:ByteArray) (fr:Int) (to:Int):Prop:=S.wg 1045000∧(cT n).ok∧0≤fr∧to≤15∧fr≤to+1∧to*12≤text.size∧text.size≤100000000
def pI (S:ay) (n:fu) (text:ByteArray) (fr:Int) (to:Int):AV:=.t [.a (kW 0 1 2 5 6 (zw S n text fr to).1),ndA (zw S n text fr to).2.1,.s (.q (zw S n text fr to).2.2)]
def si (S:ay) (n:fu) (text:ByteArray) (fr:Int) (to:Int):List AV:=[.rs ab (zw S n text fr to).1.rows,.rs ag (zw S n text fr to).1.refs,.rs ag (zw S n text fr to).1.last,.zz,.zz,.rs ae (zw S n text fr to).1.gone,.rs ae (zw S n text fr to).1.dead]
def vS:cn where
 A:=[.a (stB 0 1 2 3 4),.a [.int,.int,.int,.int,.int,.int,.int,.int,.int,.int],.s .str,.s .int,.s .int]
 B:=[.r ab,.r ag,.r ag,.r ae,.r ae]
 pre:=λx b=>stW x.1 b∧ti (gP x.1 b) (x.2.1) (x.2.2.1) (x.2.2.2.1) (x.2.2.2.2)
 r:=λx b _=>pI (gP x.1 b) (x.2.1) (x.2.2.1) (x.2.2.2.1) (x.2.2.2.2)
 o:=λx b _=>si (gP x.1 b) (x.2.1) (x.2.2.1) (x.2.2.2.1) (x.2.2.2.2)
 nf:=2
 mv:=true
theorem S9:Has Tryz.prog 215 vS:=by
 refine Has.ofZ zT zF zF (l:=[(230,vU),(60,ez)]) ⟨TD,lY,aa⟩ Tryz.func215 ?_
 rintro⟨⟨(AU:Nat),(AT:Nat),(AS:Nat),(ao:Int),(AR:Nat),(aq:Int),(AQ:Nat),(ar:Bool)⟩,⟨(n1:Int),(n2:Int),(n3:Int),(n4:Int),(n5:Int),(n6:Int),(n7:Int),(n8:Int),(n9:Int),(cw:Int)⟩,(text:ByteArray),(fr:Int),(to:Int)⟩ ⟨(aj:List ByteArray),(ak:List Int),(an:List Int),(ah:List Pt),(ai:List Pt)⟩ ⟨⟨(gC:AU=List.length aj),(gB:AT=List.length ak),(gA:AS=List.length an),(gz:AR=List.length ah),(gy:AQ=List.length ai)⟩,(hp:ti (aj,ak,an,ao,ah,aq,ai,ar) (n1,n2,n3,n4,n5,n6,n7,n8,n9,cw) text fr to)⟩
 subst gC gB gA gz gy
 show vc _ _ _ _ (entry [.a [.xs 0 1 0 aj.length,.xs 1 1 0 ak.length,.xs 2 1 0 an.length,.int ao,.xs 3 5 0 ah.length,.int aq,.xs 4 5 0 ai.length,.q ar],.a [.int n1,.int n2,.int n3,.int n4,.int n5,.int n6,.int n7,.int n8,.int n9,.int cw],.str text,.int fr,.int to] [.rs ab aj,.rs ag ak,.rs ag an,.rs ae ah,.rs ae ai]) _
 let g':=(n1,n2,n3,n4,n5,n6,n7,n8,n9,cw)
 let A':=(aj,ak,an,ao,ah,aq,ai,ar)
 obtain⟨ll,cG,hf0,amd,hft,htt,hts⟩:=hp
 have ll:ay.wg A' 1045000:=ll
 have cG:bf.ok (cT g'):=cG
 refine ?_
 all_goals first|refine aw ?_|refine ax ?_|exact a8|(dsimp only [vU,qb,ez,fK,gP];omega)|exact a7|skip
 refine cN (l:=[(230,vU),(60,ez)]) (ex:=zT) (wr:=zF) (pt:=zF) ⟨TD,lY,aa⟩ [.s 2,.s 4,.s 5,.s 6,.s 10,.s 11,.b 1010,.b 1011] (λy:Int×ay×bf=>[(.s 13,.int y.1),(.b 1005,.a (kW 0 1 2 1000000001 1000000002 y.2.1)),(.b 0,.rs ab y.2.1.rows),(.b 1,.rs ag y.2.1.refs),(.b 2,.rs ag y.2.1.last),(.b 1000000001,.rs ae y.2.1.gone),(.b 1000000002,.rs ae y.2.1.dead),(.b 1006,.a [.int n1,.int n2,.int text.size,.int y.2.2.1,.int y.2.2.2.1,.int y.2.2.2.2.1,.int y.2.2.2.2.2.1,.int y.2.2.2.2.2.2.1,.int y.2.2.2.2.2.2.2.1,.int y.2.2.2.2.2.2.2.2])]) (λy=>(0≤y.1∧y.1≤to+1)∧y.2.1.wg (1045000+6*y.1.toNat)∧y.2.2.ok∧qP (to+1-y.1).toNat y.1 y.2.1 y.2.2 text=qP (to+1-fr).toNat fr A' (cT g') text) (λy=>(to+1-y.1).toNat) (fr,A',cT g') [(1000000001,3),(1000000002,4)] ⟨⟨hf0,hft⟩,ll.mono (ZD3 _ _),cG,rfl⟩ dM ?_
 rintro⟨k,u,tt⟩ ⟨⟨(hk0:0≤k),(EX:k≤to+1)⟩,(hu:u.wg (1045000+6*k.toNat)),(ht:tt.ok),(hr:qP (to+1-k).toNat k u tt text=qP (to+1-fr).toNat fr A' (cT g') text)⟩
 have hle:decide (k≤to)=true→k≤to:=λh=>aJ h
 have hpo:=λh:k≤15=>nq (k:=k) (text:=eJ text k) hu ht hk0 h
 have hg:=hu.g
 have hd:=hu.d
 have hx:(text.extract (k*12).toNat (min (text.size:Int) ((k+1)*12)).toNat).size≤1000000:=by rw [ZC5];omega
 refine⟨λw1=>⟨⟨?_,?_⟩,⟨?_,?_⟩,[.s 5,.b 1005],Sq34,ζ,Sq6,Sq35,ζ,[.s 35,.b 1006],Sq36,ζ,Sq13,Sq37,ζ,Sq2,Sq38,ζ,Sq13,Sq39,ζ,Sq39,Sq40,ζ,⟨?_,?_⟩,Sq14,Sq41,ζ,[.s 38,.s 40,.s 41],Sq42,ζ,⟨?_,?_,?_⟩,Sq42,Sq43,ζ,⟨tv2,?_⟩,?_,λx2 w3=>⟨[.s 34,.s 36,.s 37,.s 43,.b 0,.b 1,.b 2,.b 1000000001,.b 1000000002,.b 1000450001,.b 1000450000],[.s 44,.b 0,.b 1,.b 2,.b 1000000001,.b 1000000002,.b 1000450000,.b 1000450001],ζ,⟨⟨tv9,tv8,tv3⟩,⟨?_,?_,?_,?_,?_⟩,?_,?_,?_,?_,?_,?_,?_,?_⟩,?_,λ|false=>λw4=>⟨Sq44,Sq33,ζ,Sq33,Sq45,ζ,Sq33,Sq46,ζ,Sq33,Sq47,ζ,[.b 1015],[.s 15,.b 1015],ζ,[.b 1016],[.s 16,.b 1016],ζ,[.s 15,.s 45,.b 1015],[.b 1015],ζ,[.s 16,.s 46,.b 1016],[.b 1016],ζ,Sq47,Sq17,ζ,λw5=>⟨[.s 5,.b 1005],Sq50,ζ,[.s 6,.b 1006],Sq51,ζ,[.s 10,.s 50,.b 1010],[.b 1010],ζ,[.s 11,.s 51,.b 1011],[.b 1011],ζ,[],Sq12,ζ,?_⟩,λw6=>⟨⟨?_,?_⟩,?_⟩⟩ |true=>λw7=>⟨Sq44,Sq33,ζ,Sq33,Sq45,ζ,Sq33,Sq46,ζ,Sq33,Sq47,ζ,[.b 1015],[.s 15,.b 1015],ζ,[.b 1016],[.s 16,.b 1016],ζ,[.s 15,.s 45,.b 1015],[.b 1015],ζ,[.s 16,.s 46,.b 1016],[.b 1016],ζ,Sq47,Sq17,ζ,λw8=>⟨[.s 5,.b 1005],Sq50,ζ,[.s 6,.b 1006],Sq51,ζ,[.s 10,.s 50,.b 1010],[.b 1010],ζ,[.s 11,.s 51,.b 1011],[.b 1011],ζ,[],Sq12,ζ,?_⟩,λw9=>⟨⟨?_,?_⟩,?_⟩⟩⟩⟩,λdy=>⟨[.s 5,.b 1005],Sq55,ζ,[.s 6,.b 1006],Sq56,ζ,[.s 10,.s 55,.b 1010],[.b 1010],ζ,[.s 11,.s 56,.b 1011],[.b 1011],ζ,[],Sq12,ζ,?_⟩⟩
 all_goals first|refine aw ?_|refine ax ?_|exact a8|(dsimp only [vU,qb,ez,fK,gP];omega)|exact a7|exact hu.wf|exact ht.rd|exact ht.m1|exact ZB0 hg (by have:=hle w1;omega)|exact ZB0 hd (by have:=hle w1;omega)|exact⟨_,rfl⟩|(have:=hle w1;omega)|skip
 ·exact hx
 ·exact ZB0 aci hx
 ·have hk:=hle w1
  have hz:(aY u tt k (eJ text k)).2.2=false:=(show false=(aY u tt k (eJ text k)).2.2 from w4).symm
  have xn:=(hpo (by omega)).2.2 hz
  have e0:qP (to+1-fr).toNat fr A' (cT g') text=((aY u tt k (eJ text k)).1,tt,false):=by rw [←hr,show (to+1-k).toNat=(to-k).toNat+1 by omega,VU hz]
  have e:=Y5 e0
  refine⟨[1000000001,1000000002],[],_,_,_,ζ,az,(),0,aa,?_,?_,ζ⟩
  ·(show _=pI A' g' text fr to);unfold pI;first|(rw [e];rfl)|(rw [e];exact congrArg (λx=>AV.t [A0.a x,ndA (kb g' text.size tt),A0.s (SV.q false)]) (nD (b0:=0) (b1:=1) (b2:=2) (b3:=5) (b4:=6) xn hu.wf))|(rw [e];have h3:=xn.gone;have h4:=xn.dead;exact congr (congrArg (λ(a b:List Pt)=>[AV.rs ab (aY u tt k (eJ text k)).1.rows,AV.rs ag (aY u tt k (eJ text k)).1.refs,AV.rs ag (aY u tt k (eJ text k)).1.last,AV.zz,AV.zz,AV.rs ae a,AV.rs ae b]) h3.symm) h4.symm)|rfl
  ·(show _=si A' g' text fr to);unfold si;first|(rw [e];rfl)|(rw [e];exact congrArg (λx=>AV.t [A0.a x,ndA (kb g' text.size tt),A0.s (SV.q false)]) (nD (b0:=0) (b1:=1) (b2:=2) (b3:=5) (b4:=6) xn hu.wf))|(rw [e];have h3:=xn.gone;have h4:=xn.dead;exact congr (congrArg (λ(a b:List Pt)=>[AV.rs ab (aY u tt k (eJ text k)).1.rows,AV.rs ag (aY u tt k (eJ text k)).1.refs,AV.rs ag (aY u tt k (eJ text k)).1.last,AV.zz,AV.zz,AV.rs ae a,AV.rs ae b]) h3.symm) h4.symm)|rfl
 ·exact absurd (show true=false from w6) Bool.noConfusion
 ·exact absurd (show false=true from w8) Bool.noConfusion
 ·have hk:=hle w1
  have hz:(aY u tt k (eJ text k)).2.2=true:=(show true=(aY u tt k (eJ text k)).2.2 from w7).symm
  have h2:=hpo (by omega)
  refine⟨(k+1,(aY u tt k (eJ text k)).1,(aY u tt k (eJ text k)).2.1),[(1000000001,1000450000),(1000000002,1000450001)],?_,?_,?_⟩
  rotate_right
  ·exact bV
  ·refine⟨⟨by show 0≤k+1;omega,by show k+1≤to+1;omega⟩,h2.1.mono (by show 1045000+6*k.toNat+6≤1045000+6*(k+1).toNat;omega),h2.2.1,?_⟩
   show qP (to+1-(k+1)).toNat (k+1) (aY u tt k (eJ text k)).1 (aY u tt k (eJ text k)).2.1 text=_
   rw [←hr,show (to+1-k).toNat=(to+1-(k+1)).toNat+1 by omega,VT hz]
  ·show (to+1-(k+1)).toNat<(to+1-k).toNat;omega
 ·have FL:¬k≤to:=aA (p:=k≤to) dy
  have e0:qP (to+1-fr).toNat fr A' (cT g') text=(u,tt,true):=by rw [←hr,show (to+1-k).toNat=0 by omega];rfl
  have e:=Y5 e0
  refine⟨[1000000001,1000000002],[],_,_,_,ζ,az,(),0,aa,?_,?_,ζ⟩
  ·(show _=pI A' g' text fr to);unfold pI;first|(rw [e];rfl)|rfl
  ·(show _=si A' g' text fr to);unfold si;first|(rw [e];rfl)|rfl
