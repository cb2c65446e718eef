/- A drawn law returns true for every code (its row lists package variables, tied by the card): part 30. -/
import Derived.Test.YtkgpljpmdkflmaaGreatDoorPan
import Derived.Test.YtkgpljpmdkflmaaGreatDoorPav
import Derived.Test.YtkgpljpmdkflmaaGreatDoorPaw
import Derived.Test.YtkgpljpmdkflmaaGreatDoorPax
import Derived.Test.YtkgpljpmdkflmaaGreatDoorPbc
set_option maxHeartbeats 20000000
set_option maxRecDepth 100000
set_option linter.all false
namespace Go.Proofs.YtkgpljpmdkflmaaGreatDoor
namespace GL
theorem I9:∀{l:List ByteArray}{out:ByteArray},out.size≤2048→(dB l out).1.size≤2048
 |[],out,h=>h
 |x::l,out,h=>by
  cases h1:decide ((x.size:Int)>2048) with
  |true=>rw [MY h1];exact ZA7 _
  |false=>cases h2:decide (((out++bY x.size++⟨#[58]⟩++x).size:Int)>2048) with
   |true=>rw [MX h2];exact ZA7 _
   |false=>rw [MW h1 h2];exact I9 (by have:=aA h2;omega)
theorem PL (l:List ByteArray):(cF l).1.size≤2048:=by
 cases h:decide ((l.length:Int)≤60) with
 |true=>rw [gF h];exact I9 (ZA7 _)
 |false=>rw [tR h];exact ZA7 _
theorem WS (n:fv):(aC n).size≤2048:=by
 unfold aC
 cases cy n with
 |false=>exact ZA7 _
 |true=>exact PL _
def tl (S:ay) (t:bf) (k:Int) (n:fv):Prop:=S.wg 1046000∧t.ok∧0≤k∧k≤15
def pM (S:ay) (t:bf) (k:Int) (n:fv):AV:=.t [.a (kZ 0 1 2 5 6 (aY S t k (aC n)).1),trA (aY S t k (aC n)).2.1,.s (.q (aY S t k (aC n)).2.2)]
def sq (S:ay) (t:bf) (k:Int) (n:fv):List AV:=[.rs ab (aY S t k (aC n)).1.rows,.rs ag (aY S t k (aC n)).1.refs,.rs ag (aY S t k (aC n)).1.last,.zz,.zz,.rs ae (aY S t k (aC n)).1.gone,.rs ae (aY S t k (aC n)).1.dead]
def vW:ct where
 A:=[.a (stB 0 1 2 3 4),.a [.int,.int,.int,.int,.int,.int,.int],.s .int,.a [.int,.int,.int,.int,.int,.int,.int,.int,.int,.int]]
 B:=[.r ab,.r ag,.r ag,.r ae,.r ae]
 pre:=fun x b=>stW x.1 b∧tl (gQ x.1 b) (x.2.1) (x.2.2.1) (x.2.2.2)
 r:=fun x b _=>pM (gQ x.1 b) (x.2.1) (x.2.2.1) (x.2.2.2)
 o:=fun x b _=>sq (gQ x.1 b) (x.2.1) (x.2.2.1) (x.2.2.2)
 nf:=2
 mv:=true
theorem S7:Has Tryz.prog 127 vW:=by
 refine Has.ofZ zT zF zF (l:=[(168,sR),(75,eA)]) ⟨MI,l6,aa⟩ Tryz.func127 ?_
 rintro⟨⟨(AU:Nat),(AT:Nat),(AS:Nat),(ao:Int),(AR:Nat),(aq:Int),(AQ:Nat),(ar:Bool)⟩,⟨(t1:Int),(t2:Int),(t3:Int),(t4:Int),(t5:Int),(t6:Int),(t7:Int)⟩,(k:Int),⟨(n1:Int),(n2:Int),(n3:Int),(n4:Int),(n5:Int),(n6:Int),(n7:Int),(n8:Int),(n9:Int),(cx:Int)⟩⟩ ⟨(aj:List ByteArray),(ak:List Int),(an:List Int),(ah:List Pt),(ai:List Pt)⟩ ⟨⟨(gD:AU=List.length aj),(gC:AT=List.length ak),(gB:AS=List.length an),(gA:AR=List.length ah),(gz:AQ=List.length ai)⟩,(hp:tl (aj,ak,an,ao,ah,aq,ai,ar) (t1,t2,t3,t4,t5,t6,t7) k (n1,n2,n3,n4,n5,n6,n7,n8,n9,cx))⟩
 subst gD gC gB gA gz
 show vc _ _ _ _ (entry [.a [.xs 0 1 0 aj.length,.xs 1 1 0 ak.length,.xs 2 1 0 an.length,.int ao,.xs 3 5 0 ah.length,.int aq,.xs 4 5 0 ai.length,.q ar],.a [.int t1,.int t2,.int t3,.int t4,.int t5,.int t6,.int t7],.int k,.a [.int n1,.int n2,.int n3,.int n4,.int n5,.int n6,.int n7,.int n8,.int n9,.int cx]] [.rs ab aj,.rs ag ak,.rs ag an,.rs ae ah,.rs ae ai]) _
 obtain⟨lu,cH,hk0,EW⟩:=hp
 have lu:ay.wg (aj,ak,an,ao,ah,aq,ai,ar) 1046000:=lu
 have cH:bf.ok (t1,t2,t3,t4,t5,t6,t7):=cH
 have dj:=WS (n1,n2,n3,n4,n5,n6,n7,n8,n9,cx)
 refine⟨[.s 4,.b 1004],Sq11,rfl,[.s 5,.b 1005],Sq12,rfl,Sq2,Sq13,rfl,[.s 7,.b 1007],Sq14,rfl,Sq14,Sq15,rfl,⟨⟨⟨aa,aa,aa,aa,aa,aa,aa,aa,aa,aa,aa⟩,aa⟩,aa⟩,?_,fun x1 w2=>⟨[.s 11,.s 12,.s 13,.s 15,.b 0,.b 1,.b 2,.b 3,.b 4,.b 1000170001,.b 1000170000],[.s 16,.b 0,.b 1,.b 2,.b 3,.b 4,.b 1000170000,.b 1000170001],rfl,⟨⟨⟨aa,aa,aa,aa,aa,aa,aa,aa,aa⟩,⟨aa,aa,aa,aa,aa,aa,aa,aa⟩,aa,aa,aa⟩,⟨?_,?_,?_,?_,?_⟩,?_,?_,?_,?_,?_,?_,?_,?_⟩,?_,fun |false=>fun w3=>⟨Sq16,Sq17,rfl,Sq16,Sq18,rfl,Sq16,Sq19,rfl,[.s 8,.s 17,.b 1008],[.b 1008],rfl,[.s 9,.s 18,.b 1009],[.b 1009],rfl,Sq19,Sq10,rfl,?_⟩ |true=>fun w4=>⟨Sq16,Sq17,rfl,Sq16,Sq18,rfl,Sq16,Sq19,rfl,[.s 8,.s 17,.b 1008],[.b 1008],rfl,[.s 9,.s 18,.b 1009],[.b 1009],rfl,Sq19,Sq10,rfl,?_⟩⟩⟩
 all_goals first|refine aw ?_|refine ax ?_|exact a8|(dsimp only [sR,ri,eA,fL,gQ];omega)|exact a7|exact lu.wf|exact cH.rd|exact cH.m1|exact lu.g|exact lu.d|exact ZB0 dj (by decide)|exact⟨_,rfl⟩|skip
 ·have hz:(aY (aj,ak,an,ao,ah,aq,ai,ar) (t1,t2,t3,t4,t5,t6,t7) k (aC (n1,n2,n3,n4,n5,n6,n7,n8,n9,cx))).2.2=false:=(show false=(aY (aj,ak,an,ao,ah,aq,ai,ar) (t1,t2,t3,t4,t5,t6,t7) k (aC (n1,n2,n3,n4,n5,n6,n7,n8,n9,cx))).2.2 from w3).symm
  refine⟨[3,4],[],_,_,_,rfl,az,(),0,aa,?_,?_,rfl⟩
  ·(show _=pM (aj,ak,an,ao,ah,aq,ai,ar) (t1,t2,t3,t4,t5,t6,t7) k (n1,n2,n3,n4,n5,n6,n7,n8,n9,cx));unfold pM;first|(rw [hz];rfl)|rfl
  ·(show _=sq (aj,ak,an,ao,ah,aq,ai,ar) (t1,t2,t3,t4,t5,t6,t7) k (n1,n2,n3,n4,n5,n6,n7,n8,n9,cx));unfold sq;first|(rw [hz];rfl)|rfl
 ·have hz:(aY (aj,ak,an,ao,ah,aq,ai,ar) (t1,t2,t3,t4,t5,t6,t7) k (aC (n1,n2,n3,n4,n5,n6,n7,n8,n9,cx))).2.2=true:=(show true=(aY (aj,ak,an,ao,ah,aq,ai,ar) (t1,t2,t3,t4,t5,t6,t7) k (aC (n1,n2,n3,n4,n5,n6,n7,n8,n9,cx))).2.2 from w4).symm
  refine⟨[1000170000,1000170001],[],_,_,_,rfl,az,(),0,aa,?_,?_,rfl⟩
  ·(show _=pM (aj,ak,an,ao,ah,aq,ai,ar) (t1,t2,t3,t4,t5,t6,t7) k (n1,n2,n3,n4,n5,n6,n7,n8,n9,cx));unfold pM;first|(rw [hz];rfl)|rfl
  ·(show _=sq (aj,ak,an,ao,ah,aq,ai,ar) (t1,t2,t3,t4,t5,t6,t7) k (n1,n2,n3,n4,n5,n6,n7,n8,n9,cx));unfold sq;first|(rw [hz];rfl)|rfl
theorem acO:∀{f:Nat}{s:ByteArray},∀x∈pcF f s,x.size≤s.size
 |0,s,x,h=>by cases h
 |f+1,s,x,h=>by
  cases h1:decide ((s.size:Int)>128) with
  |true=>
   rw [acR h1] at h
   rcases ZB8.1 h with h |h
   ·rw [h,ZC5];omega
   ·have:=acO x h
    rw [ZC5] at this;omega
  |false=>cases h2:decide (s≠⟨#[]⟩) with
   |true=>rw [acQ h1 h2] at h;rw [ZC7.1 h];exact ZB5 _
   |false=>rw [acP h1 h2] at h;cases h
theorem aj7 {b0 b1 b2 b3 b4:Nat}{s u:ay}(hs:s.wf) (hu:u.wf) (h1:u.gone=s.gone) (h2:u.dead=s.dead) (h3:u.cj=s.cj) (h4:u.ca=s.ca) (h5:u.same=s.same):kZ b0 b1 b2 b3 b4 s=kZ b0 b1 b2 b3 b4 u:=by
 unfold kZ
 rw [hu.n.1,hu.n.2.1,hu.n.2.2,hs.n.1,hs.n.2.1,hs.n.2.2,h1,h2,h3,h4,h5]
def B1 (S:ay) (t:bf) (text:ByteArray):Prop:=S.wg 1045000∧t.ok∧text.size≤1000000
def jN (S:ay) (t:bf) (text:ByteArray):AV:=.t [.a (kZ 0 1 2 5 6 (dH S t text).1),trA (dH S t text).2.1,.s (.q (dH S t text).2.2)]
def lW (S:ay) (t:bf) (text:ByteArray):List AV:=[.rs ab (dH S t text).1.rows,.rs ag (dH S t text).1.refs,.rs ag (dH S t text).1.last,.zz,.zz,.rs ae (dH S t text).1.gone,.rs ae (dH S t text).1.dead]
def PT:ct where
 A:=[.a (stB 0 1 2 3 4),.a [.int,.int,.int,.int,.int,.int,.int],.s .str]
 B:=[.r ab,.r ag,.r ag,.r ae,.r ae]
 pre:=fun x b=>stW x.1 b∧B1 (gQ x.1 b) (x.2.1) (x.2.2)
 r:=fun x b _=>jN (gQ x.1 b) (x.2.1) (x.2.2)
 o:=fun x b _=>lW (gQ x.1 b) (x.2.1) (x.2.2)
 nf:=2
 mv:=true
theorem afQ:Has Tryz.prog 78 PT:=by
 refine Has.ofZ zT zF zF (l:=[(123,qy),(75,eA),(124,me)]) ⟨ID,l6,zI,aa⟩ Tryz.func78 ?_
 rintro⟨⟨(AU:Nat),(AT:Nat),(AS:Nat),(ao:Int),(AR:Nat),(aq:Int),(AQ:Nat),(ar:Bool)⟩,⟨(t1:Int),(t2:Int),(t3:Int),(t4:Int),(t5:Int),(t6:Int),(t7:Int)⟩,(text:ByteArray)⟩ ⟨(aj:List ByteArray),(ak:List Int),(an:List Int),(ah:List Pt),(ai:List Pt)⟩ ⟨⟨(gD:AU=List.length aj),(gC:AT=List.length ak),(gB:AS=List.length an),(gA:AR=List.length ah),(gz:AQ=List.length ai)⟩,(hp:B1 (aj,ak,an,ao,ah,aq,ai,ar) (t1,t2,t3,t4,t5,t6,t7) text)⟩
 subst gD gC gB gA gz
 show vc _ _ _ _ (entry [.a [.xs 0 1 0 aj.length,.xs 1 1 0 ak.length,.xs 2 1 0 an.length,.int ao,.xs 3 5 0 ah.length,.int aq,.xs 4 5 0 ai.length,.q ar],.a [.int t1,.int t2,.int t3,.int t4,.int t5,.int t6,.int t7],.str text] [.rs ab aj,.rs ag ak,.rs ag an,.rs ae ah,.rs ae ai]) _
 obtain⟨lu,cH,hts⟩:=hp
 have lu:ay.wg (aj,ak,an,ao,ah,aq,ai,ar) 1045000:=lu
 have cH:bf.ok (t1,t2,t3,t4,t5,t6,t7):=cH
 have hps:∀x∈kE text,x.size≤1000000:=fun x hx=>ZB0 (acO x hx) hts
 refine⟨⟨⟨aa,aa⟩,?_⟩,fun x1 w2=>⟨fun w3=>⟨[.s 3,.b 1003],Sq19,rfl,[.s 4,.b 1004],Sq20,rfl,[.s 6,.s 19,.b 1006],[.b 1006],rfl,[.s 7,.s 20,.b 1007],[.b 1007],rfl,[],Sq8,rfl,?_⟩,fun w4=>?_⟩⟩
 all_goals first|refine aw ?_|refine ax ?_|exact a8|(dsimp only [qy,lL,eA,fL,me,mM,gQ];omega)|exact a7|skip
 ·have e:dH (aj,ak,an,ao,ah,aq,ai,ar) (t1,t2,t3,t4,t5,t6,t7) text=((aj,ak,an,ao,ah,aq,ai,ar),(t1,t2,t3,t4,t5,t6,t7),false):=by unfold dH;rw [w3];rfl
  refine⟨[3,4],[],_,_,_,rfl,az,(),0,aa,?_,?_,rfl⟩
  ·(show _=jN (aj,ak,an,ao,ah,aq,ai,ar) (t1,t2,t3,t4,t5,t6,t7) text);unfold jN;first|(rw [e];rfl)|rfl
  ·(show _=lW (aj,ak,an,ao,ah,aq,ai,ar) (t1,t2,t3,t4,t5,t6,t7) text);unfold lW;first|(rw [e];rfl)|rfl
 ·have hl:=aA w4
  have hM:dH (aj,ak,an,ao,ah,aq,ai,ar) (t1,t2,t3,t4,t5,t6,t7) text=J9 (iY (kE text) 0 (aj,ak,an,ao,ah,aq,ai,ar) (t1,t2,t3,t4,t5,t6,t7)) (kE text).length:=by unfold dH;rw [w4];rfl
  refine cO (l:=[(123,qy),(75,eA),(124,me)]) (ex:=zT) (wr:=zF) (pt:=zF) ⟨ID,l6,zI,aa⟩ [.s 6,.s 7,.b 1006,.b 1007,.s 9,.b 160000] (fun y:Nat×ay×bf=>[(.s 3,.s (.bp 1003 0)),(.s 4,.s (.bp 1004 0)),(.s 10,.int y.1),(.b 1003,.a (kZ 0 1 2 1000000001 1000000002 y.2.1)),(.b 0,.rs ab y.2.1.rows),(.b 1,.rs ag y.2.1.refs),(.b 2,.rs ag y.2.1.last),(.b 1000000001,.rs ae y.2.1.gone),(.b 1000000002,.rs ae y.2.1.dead),(.b 1004,.a [.int y.2.2.1,.int y.2.2.2.1,.int y.2.2.2.2.1,.int y.2.2.2.2.2.1,.int y.2.2.2.2.2.2.1,.int y.2.2.2.2.2.2.2.1,.int y.2.2.2.2.2.2.2.2])]) (fun y=>y.2.1.wg (1045000+6*y.1)∧y.2.2.ok∧y.1≤(kE text).length∧iY ((kE text).drop y.1) y.1 y.2.1 y.2.2=iY (kE text) 0 (aj,ak,an,ao,ah,aq,ai,ar) (t1,t2,t3,t4,t5,t6,t7)) (fun y=>(kE text).length-y.1) (0,(aj,ak,an,ao,ah,aq,ai,ar),(t1,t2,t3,t4,t5,t6,t7)) [(1000000001,3),(1000000002,4)] ⟨lu,cH,ZA7 _,rfl⟩ dN ?_
  rintro⟨i,u,tt⟩ ⟨(hu:u.wg (1045000+6*i)),(ht:tt.ok),(hi:i≤(kE text).length),(hr:iY ((kE text).drop i) i u tt=iY (kE text) 0 (aj,ak,an,ao,ah,aq,ai,ar) (t1,t2,t3,t4,t5,t6,t7))⟩
  have bV:decide ((i:Int)<((kE text).length:Int))=true→i<(kE text).length:=fun h=>by have:=aJ h;omega
  have hxs:i<(kE text).length→(nth ab (kE text) i).size≤1000000:=fun h=>hps _ (bS (ek:=ab) h)
  have hpo:=fun h:i<16=>nt (k:=(i:Int)) (text:=nth ab (kE text) i) hu ht (by omega) (by omega)
  have aju:∀r,iY (kE text) 0 (aj,ak,an,ao,ah,aq,ai,ar) (t1,t2,t3,t4,t5,t6,t7)=r→r.2.2=false→dH (aj,ak,an,ao,ah,aq,ai,ar) (t1,t2,t3,t4,t5,t6,t7) text=r:=fun r h1 h2=>by rw [hM,h1];unfold J9;rw [h2];rfl
  refine⟨fun w1=>⟨[.s 3,.b 1003],Sq28,rfl,[.s 4,.b 1004],Sq29,rfl,Sq10,Sq30,rfl,Sq9,Sq31,rfl,Sq10,Sq32,rfl,[.s 31,.s 32],Sq33,rfl,⟨?_,?_⟩,[.s 33,.b 160000],Sq34,rfl,?_,[.s 28,.s 29,.s 30,.s 34,.b 0,.b 1,.b 2,.b 1000000001,.b 1000000002,.b 1000360001,.b 1000360000],[.s 35,.b 0,.b 1,.b 2,.b 1000000001,.b 1000000002,.b 1000360000,.b 1000360001],rfl,⟨⟨⟨aa,aa,aa,aa,aa,aa,aa,aa,aa⟩,⟨aa,aa,aa,aa,aa,aa,aa,aa⟩,aa,aa,aa⟩,⟨?_,?_,?_,?_,?_⟩,?_,?_,?_,?_,?_,?_,?_,?_⟩,?_,fun |false=>fun w2=>⟨Sq35,Sq27,rfl,Sq27,Sq36,rfl,Sq27,Sq37,rfl,Sq27,Sq38,rfl,[.b 1011],[.s 11,.b 1011],rfl,[.b 1012],[.s 12,.b 1012],rfl,[.s 11,.s 36,.b 1011],[.b 1011],rfl,[.s 12,.s 37,.b 1012],[.b 1012],rfl,Sq38,Sq13,rfl,fun w3=>⟨[.s 3,.b 1003],Sq41,rfl,[.s 4,.b 1004],Sq42,rfl,[.s 6,.s 41,.b 1006],[.b 1006],rfl,[.s 7,.s 42,.b 1007],[.b 1007],rfl,[],Sq8,rfl,?_⟩,fun w4=>⟨⟨?_,?_⟩,?_⟩⟩ |true=>fun w5=>⟨Sq35,Sq27,rfl,Sq27,Sq36,rfl,Sq27,Sq37,rfl,Sq27,Sq38,rfl,[.b 1011],[.s 11,.b 1011],rfl,[.b 1012],[.s 12,.b 1012],rfl,[.s 11,.s 36,.b 1011],[.b 1011],rfl,[.s 12,.s 37,.b 1012],[.b 1012],rfl,Sq38,Sq13,rfl,fun w6=>⟨[.s 3,.b 1003],Sq41,rfl,[.s 4,.b 1004],Sq42,rfl,[.s 6,.s 41,.b 1006],[.b 1006],rfl,[.s 7,.s 42,.b 1007],[.b 1007],rfl,[],Sq8,rfl,?_⟩,fun w7=>⟨⟨?_,?_⟩,?_⟩⟩⟩,fun w8=>⟨⟨⟨⟨aa,aa,aa,aa,aa,aa,aa,aa,aa⟩,⟨aa,aa,aa,aa,aa,aa,aa,aa⟩,aa,aa⟩,⟨?_,?_,?_,?_,?_⟩,?_,?_,?_,?_,?_,?_⟩,fun |false=>fun w9=>?_ |true=>fun dy=>?_⟩⟩
  all_goals first|refine aw ?_|refine ax ?_|exact a8|(dsimp only [qy,lL,eA,fL,me,mM,gQ];omega)|exact a7|exact bV w1|exact hu.wf|exact ht.rd|exact ht.m1|exact ZB0 hu.g (by omega)|exact ZB0 hu.d (by omega)|exact hxs (bV w1)|exact⟨_,rfl⟩|exact Int.natCast_nonneg _|(show ((kE text).length:Int)≤16;omega)|skip
  ·have mu:=bV w1
   have hz:(aY u tt i (nth ab (kE text) i)).2.2=false:=(show false=(aY u tt i (nth ab (kE text) i)).2.2 from w2).symm
   have xr:=(hpo (by omega)).2.2 hz
   have e:dH (aj,ak,an,ao,ah,aq,ai,ar) (t1,t2,t3,t4,t5,t6,t7) text=((aY u tt i (nth ab (kE text) i)).1,tt,false):=aju _ (by rw [←hr,bX (ek:=ab) mu,N9 hz]) rfl
   refine⟨[1000000001,1000000002],[],_,_,_,rfl,az,(),0,aa,?_,?_,rfl⟩
   ·(show _=jN (aj,ak,an,ao,ah,aq,ai,ar) (t1,t2,t3,t4,t5,t6,t7) text);unfold jN;first|(rw [e];rfl)|(rw [e];exact congrArg (fun x=>AV.t [A0.a x,trA tt,A0.s (SV.q false)]) (nG (b0:=0) (b1:=1) (b2:=2) (b3:=5) (b4:=6) xr hu.wf))|(rw [e];have h3:=xr.gone;have h4:=xr.dead;exact congr (congrArg (fun (a b:List Pt)=>[AV.rs ab (aY u tt i (nth ab (kE text) i)).1.rows,AV.rs ag (aY u tt i (nth ab (kE text) i)).1.refs,AV.rs ag (aY u tt i (nth ab (kE text) i)).1.last,AV.zz,AV.zz,AV.rs ae a,AV.rs ae b]) h3.symm) h4.symm)|rfl
   ·(show _=lW (aj,ak,an,ao,ah,aq,ai,ar) (t1,t2,t3,t4,t5,t6,t7) text);unfold lW;first|(rw [e];rfl)|(rw [e];exact congrArg (fun x=>AV.t [A0.a x,trA tt,A0.s (SV.q false)]) (nG (b0:=0) (b1:=1) (b2:=2) (b3:=5) (b4:=6) xr hu.wf))|(rw [e];have h3:=xr.gone;have h4:=xr.dead;exact congr (congrArg (fun (a b:List Pt)=>[AV.rs ab (aY u tt i (nth ab (kE text) i)).1.rows,AV.rs ag (aY u tt i (nth ab (kE text) i)).1.refs,AV.rs ag (aY u tt i (nth ab (kE text) i)).1.last,AV.zz,AV.zz,AV.rs ae a,AV.rs ae b]) h3.symm) h4.symm)|rfl
  ·exact absurd (show true=false from w4) Bool.noConfusion
  ·exact absurd (show false=true from w6) Bool.noConfusion
  ·have mu:=bV w1
   have hz:(aY u tt i (nth ab (kE text) i)).2.2=true:=(show true=(aY u tt i (nth ab (kE text) i)).2.2 from w5).symm
   have h2:=hpo (by omega)
   refine⟨(i+1,(aY u tt i (nth ab (kE text) i)).1,(aY u tt i (nth ab (kE text) i)).2.1),[(1000000001,1000360000),(1000000002,1000360001)],?_,?_,?_⟩
   rotate_right
   ·exact bW
   ·exact⟨h2.1.mono (by show 1045000+6*i+6≤1045000+6*(i+1);omega),h2.2.1,mu,by rw [←hr,bX (ek:=ab) mu,N8 hz]⟩
   ·show (kE text).length-(i+1)<(kE text).length-i;omega
  ·have FK:=aA (p:=(i:Int)<((kE text).length:Int)) w8
   have e0:iY (kE text) 0 (aj,ak,an,ao,ah,aq,ai,ar) (t1,t2,t3,t4,t5,t6,t7)=(u,tt,true):=by rw [←hr,ZB3 (by omega)];rfl
   have hz:(cG u tt (kE text).length).2.2=false:=(show false=(cG u tt (kE text).length).2.2 from w9).symm
   have e:dH (aj,ak,an,ao,ah,aq,ai,ar) (t1,t2,t3,t4,t5,t6,t7) text=cG u tt (kE text).length:=by rw [hM,e0];rfl
   refine⟨[1000000001,1000000002],[],_,_,_,rfl,az,(),0,aa,?_,?_,rfl⟩
   ·(show _=jN (aj,ak,an,ao,ah,aq,ai,ar) (t1,t2,t3,t4,t5,t6,t7) text);unfold jN;first|(rw [e,hz];rfl)|(rw [e];rfl)|rfl
   ·(show _=lW (aj,ak,an,ao,ah,aq,ai,ar) (t1,t2,t3,t4,t5,t6,t7) text);unfold lW;first|(rw [e,hz];rfl)|(rw [e];rfl)|rfl
  ·have FK:=aA (p:=(i:Int)<((kE text).length:Int)) w8
   have e0:iY (kE text) 0 (aj,ak,an,ao,ah,aq,ai,ar) (t1,t2,t3,t4,t5,t6,t7)=(u,tt,true):=by rw [←hr,ZB3 (by omega)];rfl
   have hz:(cG u tt (kE text).length).2.2=true:=(show true=(cG u tt (kE text).length).2.2 from dy).symm
   have e:dH (aj,ak,an,ao,ah,aq,ai,ar) (t1,t2,t3,t4,t5,t6,t7) text=cG u tt (kE text).length:=by rw [hM,e0];rfl
   refine⟨[1000500000,1000500001],[],_,_,_,rfl,az,(),0,aa,?_,?_,rfl⟩
   ·(show _=jN (aj,ak,an,ao,ah,aq,ai,ar) (t1,t2,t3,t4,t5,t6,t7) text);unfold jN;first|(rw [e,hz];rfl)|(rw [e];rfl)|rfl
   ·(show _=lW (aj,ak,an,ao,ah,aq,ai,ar) (t1,t2,t3,t4,t5,t6,t7) text);unfold lW;first|(rw [e,hz];rfl)|(rw [e];rfl)|rfl
end GL
namespace GL
theorem FU {s:ay}:∀{f:Nat}{l out r:List Pt},j9 f s l out=some r→(∀p∈l,aZ p=true)→(∀p∈out,aZ p=true)→(∀p∈r,aZ p=true)∧r.length≤out.length+f
 |0,l,out,r,h,_,_=>by rw [j9] at h;cases h
 |f+1,[],out,r,h,_,ho=>by rw [j9] at h;have h:=ZG5 h;rw [←h];exact⟨ho,by omega⟩
 |f+1,p::l,out,r,h,hl,ho=>by
  have hp:=hl p (by simp)
  have hl':∀q∈l,aZ q=true:=fun q hq=>hl q (by simp [hq])
  have ho':∀q∈out++[p],aZ q=true:=fun q hq=>by
   rcases ZB4.1 hq with hq |hq
   ·exact ho q hq
   ·rw [ZC7.1 hq];exact hp
  have hlen:(out++[p]).length=out.length+1:=by rw [ZA0];rfl
  rw [j9] at h
  cases hh:au p with
  |true=>rw [hh,cond_true] at h;have:=FU h hl' ho;exact⟨this.1,by omega⟩
  |false=>
   rw [hh,cond_false] at h
   cases hv:decide (p.2.2.2.2>0) with
   |true=>
    rw [hv,cond_true] at h
    have:=FU h (fun q hq=>by
     rcases ZB4.1 hq with hq |hq
     ·exact sS s p _ q hq
     ·exact hl' q hq) ho'
    exact⟨this.1,by have:=this.2;omega⟩
   |false=>rw [hv,cond_false] at h;have:=FU h hl' ho';exact⟨this.1,by have:=this.2;omega⟩
theorem aaw {s:ay}{t:bf}(h:aZ t.root=true):(∀p∈allM s t,aZ p=true)∧(allM s t).length≤40:=by
 unfold allM
 cases he:j9 40 s [t.root] [] with
 |none=>exact⟨fun p hp=>absurd (show p∈([]:List Pt) from hp) ZF6,ZA7 _⟩
 |some r=>
  have:=FU he (fun p hp=>by rw [ZC7.1 hp];exact h) (fun p hp=>absurd hp ZF6)
  exact⟨this.1,by have:=this.2;rw [ZA4] at this;show r.length≤40;omega⟩
theorem P6:(cU nC).ok:=P5
theorem nZ {n:fv}(h:cy n=true):(cU n).ok:=by
 obtain⟨_,_,_,b4,b5,b6,_,_,_⟩:=ll h
 exact⟨⟨b4.2,b6⟩,b5.1,b5.2⟩
theorem OU (s:ByteArray):(cU (bA s).1).ok:=by
 cases h:(bA s).2 with
 |true=>exact nZ (WU h)
 |false=>rw [WV h];exact P6
theorem ph (s:ay) (t:bf) (k:Int):(cU (cL s t k).1).ok:=by
 unfold cL
 cases !(iB k 0 (t.many-1)) with
 |true=>exact P6
 |false=>exact OU _
def xJ (s:ay) (t:bf) (k:Int):ay:=dx (allM s (cU (cL s t k).1)) s
theorem ru (s:ay) (t:bf) (k:Int):cr s t k=bif !(aY (xJ s t k) t k ⟨#[]⟩).2.2 then ((aY (xJ s t k) t k ⟨#[]⟩).1,(aY (xJ s t k) t k ⟨#[]⟩).2.1,false) else cG (aY (xJ s t k) t k ⟨#[]⟩).1 (aY (xJ s t k) t k ⟨#[]⟩).2.1 (mA s t k):=rfl
def vi (S:ay) (t:bf) (k:Int):Prop:=S.wg 1045000∧t.ok∧0≤k∧k≤15∧NA S (cU (cL S t k).1)=true
def ji (S:ay) (t:bf) (k:Int):AV:=.t [.a (kZ 0 1 2 5 6 (cr S t k).1),trA (cr S t k).2.1,.s (.q (cr S t k).2.2)]
def kO (S:ay) (t:bf) (k:Int):List AV:=[.rs ab (cr S t k).1.rows,.rs ag (cr S t k).1.refs,.rs ag (cr S t k).1.last,.zz,.zz,.rs ae (cr S t k).1.gone,.rs ae (cr S t k).1.dead]
def DE:ct where
 A:=[.a (stB 0 1 2 3 4),.a [.int,.int,.int,.int,.int,.int,.int],.s .int]
 B:=[.r ab,.r ag,.r ag,.r ae,.r ae]
 pre:=fun x b=>stW x.1 b∧vi (gQ x.1 b) (x.2.1) (x.2.2)
 r:=fun x b _=>ji (gQ x.1 b) (x.2.1) (x.2.2)
 o:=fun x b _=>kO (gQ x.1 b) (x.2.1) (x.2.2)
 nf:=2
 mv:=true
theorem abH:Has Tryz.prog 228 DE:=by
 refine Has.ofZ zT zF zF (l:=[(257,jG),(258,sO),(69,AD),(122,cK),(75,eA),(124,me)]) ⟨vC,MC,ZQ,gy,l6,zI,aa⟩ Tryz.func228 ?_
 rintro⟨⟨(AU:Nat),(AT:Nat),(AS:Nat),(ao:Int),(AR:Nat),(aq:Int),(AQ:Nat),(ar:Bool)⟩,⟨(t1:Int),(t2:Int),(t3:Int),(t4:Int),(t5:Int),(t6:Int),(t7:Int)⟩,(k:Int)⟩ ⟨(aj:List ByteArray),(ak:List Int),(an:List Int),(ah:List Pt),(ai:List Pt)⟩ ⟨⟨(gD:AU=List.length aj),(gC:AT=List.length ak),(gB:AS=List.length an),(gA:AR=List.length ah),(gz:AQ=List.length ai)⟩,(hp:vi (aj,ak,an,ao,ah,aq,ai,ar) (t1,t2,t3,t4,t5,t6,t7) k)⟩
 subst gD gC gB gA gz
 show vc _ _ _ _ (entry [.a [.xs 0 1 0 aj.length,.xs 1 1 0 ak.length,.xs 2 1 0 an.length,.int ao,.xs 3 5 0 ah.length,.int aq,.xs 4 5 0 ai.length,.q ar],.a [.int t1,.int t2,.int t3,.int t4,.int t5,.int t6,.int t7],.int k] [.rs ab aj,.rs ag ak,.rs ag an,.rs ae ah,.rs ae ai]) _
 obtain⟨lu,cH,hk0,EW,hen⟩:=hp
 have lu:ay.wg (aj,ak,an,ao,ah,aq,ai,ar) 1045000:=lu
 have cH:bf.ok (t1,t2,t3,t4,t5,t6,t7):=cH
 have hna:=aaw (s:=(aj,ak,an,ao,ah,aq,ai,ar)) (ph (aj,ak,an,ao,ah,aq,ai,ar) (t1,t2,t3,t4,t5,t6,t7) k).rd.ok
 have hlm:=IB (s:=(aj,ak,an,ao,ah,aq,ai,ar)) cH k
 refine⟨⟨⟨⟨⟨?_,?_⟩,⟨?_,?_⟩,⟨?_,?_⟩,aa,⟨?_,?_⟩,aa,⟨?_,?_⟩,aa,aa⟩,⟨aa,aa,aa,aa,aa,aa,aa,aa⟩,aa,aa⟩,?_,?_⟩,fun x1 w2=>⟨⟨⟨⟨⟨?_,?_⟩,⟨?_,?_⟩,⟨?_,?_⟩,aa,⟨?_,?_⟩,aa,⟨?_,?_⟩,aa,aa⟩,⟨aa,aa,aa,aa,aa,aa,aa,aa⟩,aa,aa⟩,?_,?_⟩,fun x3 w4=>⟨⟨⟨⟨⟨?_,?_⟩,⟨?_,?_⟩,⟨?_,?_⟩,aa,⟨?_,?_⟩,aa,⟨?_,?_⟩,aa,aa⟩,⟨aa,aa,aa,aa,aa,aa,aa,aa⟩,aa⟩,?_,?_⟩,fun x5 w6=>?_⟩⟩⟩
 all_goals first|refine aw ?_|refine ax ?_|exact a8|(dsimp only [jG,kL,sO,ra,AD,wH,cK,dI,eA,fL,me,mM,gQ];omega)|exact a7|exact lu.wf.rd|exact cH|exact hen|skip
 refine cO (l:=[(257,jG),(258,sO),(69,AD),(122,cK),(75,eA),(124,me)]) (ex:=zT) (wr:=zF) (pt:=zF) ⟨vC,MC,ZQ,gy,l6,zI,aa⟩ [.s 2,.s 3,.s 4,.b 1004,.s 6,.s 7,.b 1006,.b 1007,.s 11,.s 12,.b 300000] (fun y:Nat×ay=>[(.s 13,.int y.1),(.b 1003,.a (kZ 0 1 2 1000000001 1000000002 y.2)),(.b 0,.rs ab y.2.rows),(.b 1,.rs ag y.2.refs),(.b 2,.rs ag y.2.last),(.b 1000000001,.rs ae y.2.gone),(.b 1000000002,.rs ae y.2.dead)]) (fun y=>y.2.wg (1045000+y.1)∧y.1≤(allM (aj,ak,an,ao,ah,aq,ai,ar) (cU (cL (aj,ak,an,ao,ah,aq,ai,ar) (t1,t2,t3,t4,t5,t6,t7) k).1)).length∧dx ((allM (aj,ak,an,ao,ah,aq,ai,ar) (cU (cL (aj,ak,an,ao,ah,aq,ai,ar) (t1,t2,t3,t4,t5,t6,t7) k).1)).drop y.1) y.2=xJ (aj,ak,an,ao,ah,aq,ai,ar) (t1,t2,t3,t4,t5,t6,t7) k) (fun y=>(allM (aj,ak,an,ao,ah,aq,ai,ar) (cU (cL (aj,ak,an,ao,ah,aq,ai,ar) (t1,t2,t3,t4,t5,t6,t7) k).1)).length-y.1) (0,(aj,ak,an,ao,ah,aq,ai,ar)) [(1000000001,3),(1000000002,4)] ⟨lu,ZA7 _,rfl⟩ dN ?_
 rintro⟨i,u⟩ ⟨(hu:u.wg (1045000+i)),(hi:i≤(allM (aj,ak,an,ao,ah,aq,ai,ar) (cU (cL (aj,ak,an,ao,ah,aq,ai,ar) (t1,t2,t3,t4,t5,t6,t7) k).1)).length),(hr:dx ((allM (aj,ak,an,ao,ah,aq,ai,ar) (cU (cL (aj,ak,an,ao,ah,aq,ai,ar) (t1,t2,t3,t4,t5,t6,t7) k).1)).drop i) u=xJ (aj,ak,an,ao,ah,aq,ai,ar) (t1,t2,t3,t4,t5,t6,t7) k)⟩
 have bV:decide ((i:Int)<((allM (aj,ak,an,ao,ah,aq,ai,ar) (cU (cL (aj,ak,an,ao,ah,aq,ai,ar) (t1,t2,t3,t4,t5,t6,t7) k).1)).length:Int))=true→i<(allM (aj,ak,an,ao,ah,aq,ai,ar) (cU (cL (aj,ak,an,ao,ah,aq,ai,ar) (t1,t2,t3,t4,t5,t6,t7) k).1)).length:=fun h=>by have:=aJ h;omega
 have hia:=nW (oE hna.1 i)
 have I2:=pj u (nth ae (allM (aj,ak,an,ao,ah,aq,ai,ar) (cU (cL (aj,ak,an,ao,ah,aq,ai,ar) (t1,t2,t3,t4,t5,t6,t7) k).1)) i)
 have hpo:=nt (k:=k) (text:=⟨#[]⟩) hu cH hk0 EW
 have hg:=hu.g
 have hd:=hu.d
 have hlen:=hna.2
 refine⟨fun w1=>⟨[.s 3,.b 1003],Sq36,rfl,Sq12,Sq37,rfl,Sq13,Sq38,rfl,[.s 37,.s 38],Sq39,rfl,⟨?_,?_⟩,[.s 39,.b 300000],Sq40,rfl,?_,[.s 36,.s 40,.b 0,.b 1,.b 2,.b 1000000001,.b 1000000002,.b 1000420001,.b 1000420000],[.s 41,.b 0,.b 1,.b 2,.b 1000000001,.b 1000000002,.b 1000420000,.b 1000420001],rfl,⟨⟨⟨aa,aa,aa,aa,aa,aa,aa,aa,aa⟩,⟨aa,aa,aa,aa,aa,aa⟩,aa⟩,⟨?_,?_,?_,?_,?_⟩,⟨?_,?_,?_⟩,?_,?_,?_,?_⟩,?_,fun x2 w3=>⟨[.s 3,.s 41,.b 1003],[.b 1003],rfl,⟨?_,?_⟩,?_⟩⟩,fun w4=>⟨⟨⟨⟨aa,aa,aa,aa,aa,aa,aa,aa,aa⟩,⟨aa,aa,aa,aa,aa,aa,aa,aa⟩,aa,aa,aa⟩,⟨?_,?_,?_,?_,?_⟩,?_,?_,?_,?_,?_,?_,?_,?_⟩,fun |false=>fun w5=>⟨fun w6=>⟨[.s 3,.b 1003],Sq52,rfl,[.s 4,.b 1004],Sq53,rfl,[.s 6,.s 52,.b 1006],[.b 1006],rfl,[.s 7,.s 53,.b 1007],[.b 1007],rfl,[],Sq8,rfl,?_⟩,fun w7=>⟨⟨⟨⟨aa,aa,aa,aa,aa,aa,aa,aa,aa⟩,⟨aa,aa,aa,aa,aa,aa,aa,aa⟩,aa,aa⟩,⟨?_,?_,?_,?_,?_⟩,?_,?_,?_,?_,?_,?_⟩,fun |false=>fun w8=>?_ |true=>fun w9=>?_⟩⟩ |true=>fun dy=>⟨fun kC=>⟨[.s 3,.b 1003],Sq52,rfl,[.s 4,.b 1004],Sq53,rfl,[.s 6,.s 52,.b 1006],[.b 1006],rfl,[.s 7,.s 53,.b 1007],[.b 1007],rfl,[],Sq8,rfl,?_⟩,fun dK=>⟨⟨⟨⟨aa,aa,aa,aa,aa,aa,aa,aa,aa⟩,⟨aa,aa,aa,aa,aa,aa,aa,aa⟩,aa,aa⟩,⟨?_,?_,?_,?_,?_⟩,?_,?_,?_,?_,?_,?_⟩,fun |false=>fun iV=>?_ |true=>fun gP=>?_⟩⟩⟩⟩
 all_goals first|refine aw ?_|refine ax ?_|exact a8|(dsimp only [jG,kL,sO,ra,AD,wH,cK,dI,eA,fL,me,mM,gQ];omega)|exact a7|exact bV w1|exact hu.wf.n|exact hu.wf.n.1|exact hu.wf.n.2.1|exact hu.wf.n.2.2|exact hia.1|exact hia.2|exact ZB0 hg (by omega)|exact ZB0 hd (by omega)|exact hu.wf|exact cH.rd|exact cH.m1|exact⟨_,rfl⟩|exact hpo.1.wf|exact hpo.2.1.rd|exact hlm.1|exact ZB0 hpo.1.g (by omega)|exact ZB0 hpo.1.d (by omega)|exact ZE0 hlm.2 cH.m1|(show (i:Int)<((allM (aj,ak,an,ao,ah,aq,ai,ar) (cU (cL (aj,ak,an,ao,ah,aq,ai,ar) (t1,t2,t3,t4,t5,t6,t7) k).1)).length:Int);have:=bV w1;omega)|exact ZA7 _|skip
 all_goals first|exact absurd (show true=false from w7) Bool.noConfusion|exact absurd (show false=true from kC) Bool.noConfusion|skip
 ·have mu:=bV w1
  refine⟨(i+1,cN u (nth ae (allM (aj,ak,an,ao,ah,aq,ai,ar) (cU (cL (aj,ak,an,ao,ah,aq,ai,ar) (t1,t2,t3,t4,t5,t6,t7) k).1)) i)),[(1000000001,1000420000),(1000000002,1000420001)],?_,?_,?_⟩
  rotate_right
  ·exact bW
  ·refine⟨⟨qt hu.wf,?_,?_,?_⟩,mu,by rw [←hr,bX (ek:=ae) mu];rfl⟩
   ·show (cN u (nth ae (allM (aj,ak,an,ao,ah,aq,ai,ar) (cU (cL (aj,ak,an,ao,ah,aq,ai,ar) (t1,t2,t3,t4,t5,t6,t7) k).1)) i)).gone.length≤1045000+(i+1);omega
   ·show (cN u (nth ae (allM (aj,ak,an,ao,ah,aq,ai,ar) (cU (cL (aj,ak,an,ao,ah,aq,ai,ar) (t1,t2,t3,t4,t5,t6,t7) k).1)) i)).dead.length≤1045000+(i+1);omega
   ·show (cN u _).cj≤_;rw [wY];have:=hu.t;omega
  ·show (allM (aj,ak,an,ao,ah,aq,ai,ar) (cU (cL (aj,ak,an,ao,ah,aq,ai,ar) (t1,t2,t3,t4,t5,t6,t7) k).1)).length-(i+1)<(allM (aj,ak,an,ao,ah,aq,ai,ar) (cU (cL (aj,ak,an,ao,ah,aq,ai,ar) (t1,t2,t3,t4,t5,t6,t7) k).1)).length-i;omega
 all_goals have hU:xJ (aj,ak,an,ao,ah,aq,ai,ar) (t1,t2,t3,t4,t5,t6,t7) k=u:=by rw [←hr,ZB3 (by have:=aA (p:=(i:Int)<((allM (aj,ak,an,ao,ah,aq,ai,ar) (cU (cL (aj,ak,an,ao,ah,aq,ai,ar) (t1,t2,t3,t4,t5,t6,t7) k).1)).length:Int)) w4;omega)];rfl
 ·have hz:(aY u (t1,t2,t3,t4,t5,t6,t7) k ⟨#[]⟩).2.2=false:=(show false=(aY u (t1,t2,t3,t4,t5,t6,t7) k ⟨#[]⟩).2.2 from w5).symm
  have e:cr (aj,ak,an,ao,ah,aq,ai,ar) (t1,t2,t3,t4,t5,t6,t7) k=((aY u (t1,t2,t3,t4,t5,t6,t7) k ⟨#[]⟩).1,(aY u (t1,t2,t3,t4,t5,t6,t7) k ⟨#[]⟩).2.1,false):=by rw [ru,hU,hz];rfl
  refine⟨[1000000001,1000000002],[],_,_,_,rfl,az,(),0,aa,?_,?_,rfl⟩
  ·(show _=ji (aj,ak,an,ao,ah,aq,ai,ar) (t1,t2,t3,t4,t5,t6,t7) k);unfold ji;first|(rw [e];rfl)|rfl
  ·(show _=kO (aj,ak,an,ao,ah,aq,ai,ar) (t1,t2,t3,t4,t5,t6,t7) k);unfold kO;first|(rw [e];rfl)|rfl
 ·have hz:(aY u (t1,t2,t3,t4,t5,t6,t7) k ⟨#[]⟩).2.2=true:=(show true=(aY u (t1,t2,t3,t4,t5,t6,t7) k ⟨#[]⟩).2.2 from dy).symm
  have hc:(cG (aY u (t1,t2,t3,t4,t5,t6,t7) k ⟨#[]⟩).1 (aY u (t1,t2,t3,t4,t5,t6,t7) k ⟨#[]⟩).2.1 (mA (aj,ak,an,ao,ah,aq,ai,ar) (t1,t2,t3,t4,t5,t6,t7) k)).2.2=false:=(show false=(cG (aY u (t1,t2,t3,t4,t5,t6,t7) k ⟨#[]⟩).1 (aY u (t1,t2,t3,t4,t5,t6,t7) k ⟨#[]⟩).2.1 (mA (aj,ak,an,ao,ah,aq,ai,ar) (t1,t2,t3,t4,t5,t6,t7) k)).2.2 from iV).symm
  have e:cr (aj,ak,an,ao,ah,aq,ai,ar) (t1,t2,t3,t4,t5,t6,t7) k=(cG (aY u (t1,t2,t3,t4,t5,t6,t7) k ⟨#[]⟩).1 (aY u (t1,t2,t3,t4,t5,t6,t7) k ⟨#[]⟩).2.1 (mA (aj,ak,an,ao,ah,aq,ai,ar) (t1,t2,t3,t4,t5,t6,t7) k)):=by rw [ru,hU,hz];rfl
  refine⟨[1000470000,1000470001],[],_,_,_,rfl,az,(),0,aa,?_,?_,rfl⟩
  ·(show _=ji (aj,ak,an,ao,ah,aq,ai,ar) (t1,t2,t3,t4,t5,t6,t7) k);unfold ji;first|(rw [e,hc];rfl)|(rw [e];rfl)|rfl
  ·(show _=kO (aj,ak,an,ao,ah,aq,ai,ar) (t1,t2,t3,t4,t5,t6,t7) k);unfold kO;first|(rw [e,hc];rfl)|(rw [e];rfl)|rfl
 ·have hz:(aY u (t1,t2,t3,t4,t5,t6,t7) k ⟨#[]⟩).2.2=true:=(show true=(aY u (t1,t2,t3,t4,t5,t6,t7) k ⟨#[]⟩).2.2 from dy).symm
  have hc:(cG (aY u (t1,t2,t3,t4,t5,t6,t7) k ⟨#[]⟩).1 (aY u (t1,t2,t3,t4,t5,t6,t7) k ⟨#[]⟩).2.1 (mA (aj,ak,an,ao,ah,aq,ai,ar) (t1,t2,t3,t4,t5,t6,t7) k)).2.2=true:=(show true=(cG (aY u (t1,t2,t3,t4,t5,t6,t7) k ⟨#[]⟩).1 (aY u (t1,t2,t3,t4,t5,t6,t7) k ⟨#[]⟩).2.1 (mA (aj,ak,an,ao,ah,aq,ai,ar) (t1,t2,t3,t4,t5,t6,t7) k)).2.2 from gP).symm
  have e:cr (aj,ak,an,ao,ah,aq,ai,ar) (t1,t2,t3,t4,t5,t6,t7) k=(cG (aY u (t1,t2,t3,t4,t5,t6,t7) k ⟨#[]⟩).1 (aY u (t1,t2,t3,t4,t5,t6,t7) k ⟨#[]⟩).2.1 (mA (aj,ak,an,ao,ah,aq,ai,ar) (t1,t2,t3,t4,t5,t6,t7) k)):=by rw [ru,hU,hz];rfl
  refine⟨[1000580000,1000580001],[],_,_,_,rfl,az,(),0,aa,?_,?_,rfl⟩
  ·(show _=ji (aj,ak,an,ao,ah,aq,ai,ar) (t1,t2,t3,t4,t5,t6,t7) k);unfold ji;first|(rw [e,hc];rfl)|(rw [e];rfl)|rfl
  ·(show _=kO (aj,ak,an,ao,ah,aq,ai,ar) (t1,t2,t3,t4,t5,t6,t7) k);unfold kO;first|(rw [e,hc];rfl)|(rw [e];rfl)|rfl
end GL
end Go.Proofs.YtkgpljpmdkflmaaGreatDoor
