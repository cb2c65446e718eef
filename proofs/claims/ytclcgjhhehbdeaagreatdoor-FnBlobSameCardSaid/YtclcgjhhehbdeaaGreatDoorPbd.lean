/- A drawn law returns true for every code (its row lists package variables, tied by the card): part 30. -/
import Derived.Test.YtclcgjhhehbdeaaGreatDoorPan
import Derived.Test.YtclcgjhhehbdeaaGreatDoorPav
import Derived.Test.YtclcgjhhehbdeaaGreatDoorPaw
import Derived.Test.YtclcgjhhehbdeaaGreatDoorPax
import Derived.Test.YtclcgjhhehbdeaaGreatDoorPbc
set_option maxHeartbeats 20000000
set_option maxRecDepth 100000
set_option linter.all false
namespace Go.Proofs.YtclcgjhhehbdeaaGreatDoor
namespace GL
theorem I4:∀{l:List ByteArray}{out:ByteArray},out.size≤2048→(dA l out).1.size≤2048
 |[],out,h=>h
 |x::l,out,h=>by
  cases h1:decide ((x.size:Int)>2048) with
  |true=>rw [MU h1];exact ZA7 _
  |false=>cases h2:decide (((out++bX x.size++⟨#[58]⟩++x).size:Int)>2048) with
   |true=>rw [MT h2];exact ZA7 _
   |false=>rw [MS h1 h2];exact I4 (by have:=aA h2;omega)
theorem PH (l:List ByteArray):(cE l).1.size≤2048:=by
 cases h:decide ((l.length:Int)≤60) with
 |true=>rw [gD h];exact I4 (ZA7 _)
 |false=>rw [tL h];exact ZA7 _
theorem WO (n:ft):(aC n).size≤2048:=by
 unfold aC
 cases cy n with
 |false=>exact ZA7 _
 |true=>exact PH _
def tf (S:ay) (t:bf) (k:Int) (n:ft):Prop:=S.wg 1046000∧t.ok∧0≤k∧k≤15
def pF (S:ay) (t:bf) (k:Int) (n:ft):AV:=.t [.a (kT 0 1 2 5 6 (aY S t k (aC n)).1),trA (aY S t k (aC n)).2.1,.s (.q (aY S t k (aC n)).2.2)]
def se (S:ay) (t:bf) (k:Int) (n:ft):List AV:=[.rs ab (aY S t k (aC n)).1.rows,.rs ag (aY S t k (aC n)).1.refs,.rs ag (aY S t k (aC n)).1.last,.zz,.zz,.rs ae (aY S t k (aC n)).1.gone,.rs ae (aY S t k (aC n)).1.dead]
def vP:cn where
 A:=[.a (stB 0 1 2 3 4),.a [.int,.int,.int,.int,.int,.int,.int],.s .int,.a [.int,.int,.int,.int,.int,.int,.int,.int,.int,.int]]
 B:=[.r ab,.r ag,.r ag,.r ae,.r ae]
 pre:=fun x b=>stW x.1 b∧tf (gO x.1 b) (x.2.1) (x.2.2.1) (x.2.2.2)
 r:=fun x b _=>pF (gO x.1 b) (x.2.1) (x.2.2.1) (x.2.2.2)
 o:=fun x b _=>se (gO x.1 b) (x.2.1) (x.2.2.1) (x.2.2.2)
 nf:=2
 mv:=true
theorem S4:Has Tryz.prog 115 vP:=by
 refine Has.ofZ zT zF zF (l:=[(128,sK),(26,ey)]) ⟨ME,lV,aa⟩ Tryz.func115 ?_
 rintro⟨⟨(AO:Nat),(AN:Nat),(AM:Nat),(ao:Int),(AL:Nat),(aq:Int),(AK:Nat),(ar:Bool)⟩,⟨(t1:Int),(t2:Int),(t3:Int),(t4:Int),(t5:Int),(t6:Int),(t7:Int)⟩,(k:Int),⟨(n1:Int),(n2:Int),(n3:Int),(n4:Int),(n5:Int),(n6:Int),(n7:Int),(n8:Int),(n9:Int),(cw:Int)⟩⟩ ⟨(aj:List ByteArray),(ak:List Int),(an:List Int),(ah:List Pt),(ai:List Pt)⟩ ⟨⟨(gB:AO=List.length aj),(gA:AN=List.length ak),(gz:AM=List.length an),(gy:AL=List.length ah),(gx:AK=List.length ai)⟩,(hp:tf (aj,ak,an,ao,ah,aq,ai,ar) (t1,t2,t3,t4,t5,t6,t7) k (n1,n2,n3,n4,n5,n6,n7,n8,n9,cw))⟩
 subst gB gA gz gy gx
 show vc _ _ _ _ (entry [.a [.xs 0 1 0 aj.length,.xs 1 1 0 ak.length,.xs 2 1 0 an.length,.int ao,.xs 3 5 0 ah.length,.int aq,.xs 4 5 0 ai.length,.q ar],.a [.int t1,.int t2,.int t3,.int t4,.int t5,.int t6,.int t7],.int k,.a [.int n1,.int n2,.int n3,.int n4,.int n5,.int n6,.int n7,.int n8,.int n9,.int cw]] [.rs ab aj,.rs ag ak,.rs ag an,.rs ae ah,.rs ae ai]) _
 let g':=(n1,n2,n3,n4,n5,n6,n7,n8,n9,cw)
 let A':=(aj,ak,an,ao,ah,aq,ai,ar)
 let B':=(t1,t2,t3,t4,t5,t6,t7)
 obtain⟨lh,cG,hk0,ES⟩:=hp
 have lh:ay.wg A' 1046000:=lh
 have cG:bf.ok B':=cG
 have dj:=WO g'
 refine⟨[.s 4,.b 1004],Sq11,rfl,[.s 5,.b 1005],Sq12,rfl,Sq2,Sq13,rfl,[.s 7,.b 1007],Sq14,rfl,Sq14,Sq15,rfl,⟨⟨tv11,aa⟩,aa⟩,?_,fun x1 w2=>⟨[.s 11,.s 12,.s 13,.s 15,.b 0,.b 1,.b 2,.b 3,.b 4,.b 1000170001,.b 1000170000],[.s 16,.b 0,.b 1,.b 2,.b 3,.b 4,.b 1000170000,.b 1000170001],rfl,⟨⟨tv9,tv8,tv3⟩,⟨?_,?_,?_,?_,?_⟩,?_,?_,?_,?_,?_,?_,?_,?_⟩,?_,fun |false=>fun w3=>⟨Sq16,Sq17,rfl,Sq16,Sq18,rfl,Sq16,Sq19,rfl,[.s 8,.s 17,.b 1008],[.b 1008],rfl,[.s 9,.s 18,.b 1009],[.b 1009],rfl,Sq19,Sq10,rfl,?_⟩ |true=>fun w4=>⟨Sq16,Sq17,rfl,Sq16,Sq18,rfl,Sq16,Sq19,rfl,[.s 8,.s 17,.b 1008],[.b 1008],rfl,[.s 9,.s 18,.b 1009],[.b 1009],rfl,Sq19,Sq10,rfl,?_⟩⟩⟩
 all_goals first|refine aw ?_|refine ax ?_|exact a8|(dsimp only [sK,q6,ey,fJ,gO];omega)|exact a7|exact lh.wf|exact cG.rd|exact cG.m1|exact lh.g|exact lh.d|exact ZB0 dj (by decide)|exact⟨_,rfl⟩|skip
 ·have hz:(aY A' B' k (aC g')).2.2=false:=(show false=(aY A' B' k (aC g')).2.2 from w3).symm
  refine⟨[3,4],[],_,_,_,rfl,az,(),0,aa,?_,?_,rfl⟩
  ·(show _=pF A' B' k g');unfold pF;first|(rw [hz];rfl)|rfl
  ·(show _=se A' B' k g');unfold se;first|(rw [hz];rfl)|rfl
 ·have hz:(aY A' B' k (aC g')).2.2=true:=(show true=(aY A' B' k (aC g')).2.2 from w4).symm
  refine⟨[1000170000,1000170001],[],_,_,_,rfl,az,(),0,aa,?_,?_,rfl⟩
  ·(show _=pF A' B' k g');unfold pF;first|(rw [hz];rfl)|rfl
  ·(show _=se A' B' k g');unfold se;first|(rw [hz];rfl)|rfl
theorem acK:∀{f:Nat}{s:ByteArray},∀x∈pcF f s,x.size≤s.size
 |0,s,x,h=>by cases h
 |f+1,s,x,h=>by
  cases h1:decide ((s.size:Int)>128) with
  |true=>
   rw [acN h1] at h
   rcases ZB8.1 h with h |h
   ·rw [h,ZC5];omega
   ·have:=acK x h
    rw [ZC5] at this;omega
  |false=>cases h2:decide (s≠⟨#[]⟩) with
   |true=>rw [acM h1 h2] at h;rw [ZC7.1 h];exact ZB5 _
   |false=>rw [acL h1 h2] at h;cases h
theorem aj4 {b0 b1 b2 b3 b4:Nat}{s u:ay}(hs:s.wf) (hu:u.wf) (h1:u.gone=s.gone) (h2:u.dead=s.dead) (h3:u.cg=s.cg) (h4:u.bZ=s.bZ) (h5:u.same=s.same):kT b0 b1 b2 b3 b4 s=kT b0 b1 b2 b3 b4 u:=by
 unfold kT
 rw [hu.n.1,hu.n.2.1,hu.n.2.2,hs.n.1,hs.n.2.1,hs.n.2.2,h1,h2,h3,h4,h5]
def BW (S:ay) (t:bf) (text:ByteArray):Prop:=S.wg 1045000∧t.ok∧text.size≤1000000
def jJ (S:ay) (t:bf) (text:ByteArray):AV:=.t [.a (kT 0 1 2 5 6 (dF S t text).1),trA (dF S t text).2.1,.s (.q (dF S t text).2.2)]
def lP (S:ay) (t:bf) (text:ByteArray):List AV:=[.rs ab (dF S t text).1.rows,.rs ag (dF S t text).1.refs,.rs ag (dF S t text).1.last,.zz,.zz,.rs ae (dF S t text).1.gone,.rs ae (dF S t text).1.dead]
def PO:cn where
 A:=[.a (stB 0 1 2 3 4),.a [.int,.int,.int,.int,.int,.int,.int],.s .str]
 B:=[.r ab,.r ag,.r ag,.r ae,.r ae]
 pre:=fun x b=>stW x.1 b∧BW (gO x.1 b) (x.2.1) (x.2.2)
 r:=fun x b _=>jJ (gO x.1 b) (x.2.1) (x.2.2)
 o:=fun x b _=>lP (gO x.1 b) (x.2.1) (x.2.2)
 nf:=2
 mv:=true
theorem afO:Has Tryz.prog 33 PO:=by
 refine Has.ofZ zT zF zF (l:=[(69,qq),(26,ey),(70,l6)]) ⟨H8,lV,zB,aa⟩ Tryz.func33 ?_
 rintro⟨⟨(AO:Nat),(AN:Nat),(AM:Nat),(ao:Int),(AL:Nat),(aq:Int),(AK:Nat),(ar:Bool)⟩,⟨(t1:Int),(t2:Int),(t3:Int),(t4:Int),(t5:Int),(t6:Int),(t7:Int)⟩,(text:ByteArray)⟩ ⟨(aj:List ByteArray),(ak:List Int),(an:List Int),(ah:List Pt),(ai:List Pt)⟩ ⟨⟨(gB:AO=List.length aj),(gA:AN=List.length ak),(gz:AM=List.length an),(gy:AL=List.length ah),(gx:AK=List.length ai)⟩,(hp:BW (aj,ak,an,ao,ah,aq,ai,ar) (t1,t2,t3,t4,t5,t6,t7) text)⟩
 subst gB gA gz gy gx
 show vc _ _ _ _ (entry [.a [.xs 0 1 0 aj.length,.xs 1 1 0 ak.length,.xs 2 1 0 an.length,.int ao,.xs 3 5 0 ah.length,.int aq,.xs 4 5 0 ai.length,.q ar],.a [.int t1,.int t2,.int t3,.int t4,.int t5,.int t6,.int t7],.str text] [.rs ab aj,.rs ag ak,.rs ag an,.rs ae ah,.rs ae ai]) _
 let g':=(aj,ak,an,ao,ah,aq,ai,ar)
 let A':=(t1,t2,t3,t4,t5,t6,t7)
 obtain⟨lh,cG,hts⟩:=hp
 have lh:ay.wg g' 1045000:=lh
 have cG:bf.ok A':=cG
 have hps:∀x∈kz text,x.size≤1000000:=fun x hx=>ZB0 (acK x hx) hts
 refine⟨⟨tv2,?_⟩,fun x1 w2=>⟨fun w3=>⟨[.s 3,.b 1003],Sq19,rfl,[.s 4,.b 1004],Sq20,rfl,[.s 6,.s 19,.b 1006],[.b 1006],rfl,[.s 7,.s 20,.b 1007],[.b 1007],rfl,[],Sq8,rfl,?_⟩,fun w4=>?_⟩⟩
 all_goals first|refine aw ?_|refine ax ?_|exact a8|(dsimp only [qq,lF,ey,fJ,l6,mF,gO];omega)|exact a7|skip
 ·have e:dF g' A' text=(g',A',false):=by unfold dF;rw [w3];rfl
  refine⟨[3,4],[],_,_,_,rfl,az,(),0,aa,?_,?_,rfl⟩
  ·(show _=jJ g' A' text);unfold jJ;first|(rw [e];rfl)|rfl
  ·(show _=lP g' A' text);unfold lP;first|(rw [e];rfl)|rfl
 ·have hl:=aA w4
  have hM:dF g' A' text=J5 (iU (kz text) 0 g' A') (kz text).length:=by unfold dF;rw [w4];rfl
  refine cN (l:=[(69,qq),(26,ey),(70,l6)]) (ex:=zT) (wr:=zF) (pt:=zF) ⟨H8,lV,zB,aa⟩ [.s 6,.s 7,.b 1006,.b 1007,.s 9,.b 160000] (fun y:Nat×ay×bf=>[(.s 3,.s (.bp 1003 0)),(.s 4,.s (.bp 1004 0)),(.s 10,.int y.1),(.b 1003,.a (kT 0 1 2 1000000001 1000000002 y.2.1)),(.b 0,.rs ab y.2.1.rows),(.b 1,.rs ag y.2.1.refs),(.b 2,.rs ag y.2.1.last),(.b 1000000001,.rs ae y.2.1.gone),(.b 1000000002,.rs ae y.2.1.dead),(.b 1004,.a [.int y.2.2.1,.int y.2.2.2.1,.int y.2.2.2.2.1,.int y.2.2.2.2.2.1,.int y.2.2.2.2.2.2.1,.int y.2.2.2.2.2.2.2.1,.int y.2.2.2.2.2.2.2.2])]) (fun y=>y.2.1.wg (1045000+6*y.1)∧y.2.2.ok∧y.1≤(kz text).length∧iU ((kz text).drop y.1) y.1 y.2.1 y.2.2=iU (kz text) 0 g' A') (fun y=>(kz text).length-y.1) (0,g',A') [(1000000001,3),(1000000002,4)] ⟨lh,cG,ZA7 _,rfl⟩ dL ?_
  rintro⟨i,u,tt⟩ ⟨(hu:u.wg (1045000+6*i)),(ht:tt.ok),(hi:i≤(kz text).length),(hr:iU ((kz text).drop i) i u tt=iU (kz text) 0 g' A')⟩
  have bU:decide ((i:Int)<((kz text).length:Int))=true→i<(kz text).length:=fun h=>by have:=aJ h;omega
  have hxs:i<(kz text).length→(nth ab (kz text) i).size≤1000000:=fun h=>hps _ (bR (ek:=ab) h)
  have hpo:=fun h:i<16=>ni (k:=(i:Int)) (text:=nth ab (kz text) i) hu ht (by omega) (by omega)
  have ajr:∀r,iU (kz text) 0 g' A'=r→r.2.2=false→dF g' A' text=r:=fun r h1 h2=>by rw [hM,h1];unfold J5;rw [h2];rfl
  refine⟨fun w1=>⟨[.s 3,.b 1003],Sq28,rfl,[.s 4,.b 1004],Sq29,rfl,Sq10,Sq30,rfl,Sq9,Sq31,rfl,Sq10,Sq32,rfl,[.s 31,.s 32],Sq33,rfl,⟨?_,?_⟩,[.s 33,.b 160000],Sq34,rfl,?_,[.s 28,.s 29,.s 30,.s 34,.b 0,.b 1,.b 2,.b 1000000001,.b 1000000002,.b 1000360001,.b 1000360000],[.s 35,.b 0,.b 1,.b 2,.b 1000000001,.b 1000000002,.b 1000360000,.b 1000360001],rfl,⟨⟨tv9,tv8,tv3⟩,⟨?_,?_,?_,?_,?_⟩,?_,?_,?_,?_,?_,?_,?_,?_⟩,?_,fun |false=>fun w2=>⟨Sq35,Sq27,rfl,Sq27,Sq36,rfl,Sq27,Sq37,rfl,Sq27,Sq38,rfl,[.b 1011],[.s 11,.b 1011],rfl,[.b 1012],[.s 12,.b 1012],rfl,[.s 11,.s 36,.b 1011],[.b 1011],rfl,[.s 12,.s 37,.b 1012],[.b 1012],rfl,Sq38,Sq13,rfl,fun w3=>⟨[.s 3,.b 1003],Sq41,rfl,[.s 4,.b 1004],Sq42,rfl,[.s 6,.s 41,.b 1006],[.b 1006],rfl,[.s 7,.s 42,.b 1007],[.b 1007],rfl,[],Sq8,rfl,?_⟩,fun w4=>⟨⟨?_,?_⟩,?_⟩⟩ |true=>fun w5=>⟨Sq35,Sq27,rfl,Sq27,Sq36,rfl,Sq27,Sq37,rfl,Sq27,Sq38,rfl,[.b 1011],[.s 11,.b 1011],rfl,[.b 1012],[.s 12,.b 1012],rfl,[.s 11,.s 36,.b 1011],[.b 1011],rfl,[.s 12,.s 37,.b 1012],[.b 1012],rfl,Sq38,Sq13,rfl,fun w6=>⟨[.s 3,.b 1003],Sq41,rfl,[.s 4,.b 1004],Sq42,rfl,[.s 6,.s 41,.b 1006],[.b 1006],rfl,[.s 7,.s 42,.b 1007],[.b 1007],rfl,[],Sq8,rfl,?_⟩,fun w7=>⟨⟨?_,?_⟩,?_⟩⟩⟩,fun w8=>⟨⟨⟨tv9,tv8,tv2⟩,⟨?_,?_,?_,?_,?_⟩,?_,?_,?_,?_,?_,?_⟩,fun |false=>fun w9=>?_ |true=>fun dx=>?_⟩⟩
  all_goals first|refine aw ?_|refine ax ?_|exact a8|(dsimp only [qq,lF,ey,fJ,l6,mF,gO];omega)|exact a7|exact bU w1|exact hu.wf|exact ht.rd|exact ht.m1|exact ZB0 hu.g (by omega)|exact ZB0 hu.d (by omega)|exact hxs (bU w1)|exact⟨_,rfl⟩|exact Int.natCast_nonneg _|(show ((kz text).length:Int)≤16;omega)|skip
  ·have mh:=bU w1
   have hz:(aY u tt i (nth ab (kz text) i)).2.2=false:=(show false=(aY u tt i (nth ab (kz text) i)).2.2 from w2).symm
   have xj:=(hpo (by omega)).2.2 hz
   have e:dF g' A' text=((aY u tt i (nth ab (kz text) i)).1,tt,false):=ajr _ (by rw [←hr,bW (ek:=ab) mh,N5 hz]) rfl
   refine⟨[1000000001,1000000002],[],_,_,_,rfl,az,(),0,aa,?_,?_,rfl⟩
   ·(show _=jJ g' A' text);unfold jJ;first|(rw [e];rfl)|(rw [e];exact congrArg (fun x=>AV.t [A0.a x,trA tt,A0.s (SV.q false)]) (nz (b0:=0) (b1:=1) (b2:=2) (b3:=5) (b4:=6) xj hu.wf))|(rw [e];have h3:=xj.gone;have h4:=xj.dead;exact congr (congrArg (fun (a b:List Pt)=>[AV.rs ab (aY u tt i (nth ab (kz text) i)).1.rows,AV.rs ag (aY u tt i (nth ab (kz text) i)).1.refs,AV.rs ag (aY u tt i (nth ab (kz text) i)).1.last,AV.zz,AV.zz,AV.rs ae a,AV.rs ae b]) h3.symm) h4.symm)|rfl
   ·(show _=lP g' A' text);unfold lP;first|(rw [e];rfl)|(rw [e];exact congrArg (fun x=>AV.t [A0.a x,trA tt,A0.s (SV.q false)]) (nz (b0:=0) (b1:=1) (b2:=2) (b3:=5) (b4:=6) xj hu.wf))|(rw [e];have h3:=xj.gone;have h4:=xj.dead;exact congr (congrArg (fun (a b:List Pt)=>[AV.rs ab (aY u tt i (nth ab (kz text) i)).1.rows,AV.rs ag (aY u tt i (nth ab (kz text) i)).1.refs,AV.rs ag (aY u tt i (nth ab (kz text) i)).1.last,AV.zz,AV.zz,AV.rs ae a,AV.rs ae b]) h3.symm) h4.symm)|rfl
  ·exact absurd (show true=false from w4) Bool.noConfusion
  ·exact absurd (show false=true from w6) Bool.noConfusion
  ·have mh:=bU w1
   have hz:(aY u tt i (nth ab (kz text) i)).2.2=true:=(show true=(aY u tt i (nth ab (kz text) i)).2.2 from w5).symm
   have h2:=hpo (by omega)
   refine⟨(i+1,(aY u tt i (nth ab (kz text) i)).1,(aY u tt i (nth ab (kz text) i)).2.1),[(1000000001,1000360000),(1000000002,1000360001)],?_,?_,?_⟩
   rotate_right
   ·exact bV
   ·exact⟨h2.1.mono (by show 1045000+6*i+6≤1045000+6*(i+1);omega),h2.2.1,mh,by rw [←hr,bW (ek:=ab) mh,N4 hz]⟩
   ·show (kz text).length-(i+1)<(kz text).length-i;omega
  ·have FF:=aA (p:=(i:Int)<((kz text).length:Int)) w8
   have e0:iU (kz text) 0 g' A'=(u,tt,true):=by rw [←hr,ZB3 (by omega)];rfl
   have hz:(cF u tt (kz text).length).2.2=false:=(show false=(cF u tt (kz text).length).2.2 from w9).symm
   have e:dF g' A' text=cF u tt (kz text).length:=by rw [hM,e0];rfl
   refine⟨[1000000001,1000000002],[],_,_,_,rfl,az,(),0,aa,?_,?_,rfl⟩
   ·(show _=jJ g' A' text);unfold jJ;first|(rw [e,hz];rfl)|(rw [e];rfl)|rfl
   ·(show _=lP g' A' text);unfold lP;first|(rw [e,hz];rfl)|(rw [e];rfl)|rfl
  ·have FF:=aA (p:=(i:Int)<((kz text).length:Int)) w8
   have e0:iU (kz text) 0 g' A'=(u,tt,true):=by rw [←hr,ZB3 (by omega)];rfl
   have hz:(cF u tt (kz text).length).2.2=true:=(show true=(cF u tt (kz text).length).2.2 from dx).symm
   have e:dF g' A' text=cF u tt (kz text).length:=by rw [hM,e0];rfl
   refine⟨[1000500000,1000500001],[],_,_,_,rfl,az,(),0,aa,?_,?_,rfl⟩
   ·(show _=jJ g' A' text);unfold jJ;first|(rw [e,hz];rfl)|(rw [e];rfl)|rfl
   ·(show _=lP g' A' text);unfold lP;first|(rw [e,hz];rfl)|(rw [e];rfl)|rfl
end GL
namespace GL
theorem FP {s:ay}:∀{f:Nat}{l out r:List Pt},j4 f s l out=some r→(∀p∈l,aZ p=true)→(∀p∈out,aZ p=true)→(∀p∈r,aZ p=true)∧r.length≤out.length+f
 |0,l,out,r,h,_,_=>by rw [j4] at h;cases h
 |f+1,[],out,r,h,_,ho=>by rw [j4] at h;have h:=ZG5 h;rw [←h];exact⟨ho,by omega⟩
 |f+1,p::l,out,r,h,hl,ho=>by
  have hp:=hl p (by simp)
  have hl':∀q∈l,aZ q=true:=fun q hq=>hl q (by simp [hq])
  have ho':∀q∈out++[p],aZ q=true:=fun q hq=>by
   rcases ZB4.1 hq with hq |hq
   ·exact ho q hq
   ·rw [ZC7.1 hq];exact hp
  have hlen:(out++[p]).length=out.length+1:=by rw [ZA0];rfl
  rw [j4] at h
  cases hh:au p with
  |true=>rw [hh,cond_true] at h;have:=FP h hl' ho;exact⟨this.1,by omega⟩
  |false=>
   rw [hh,cond_false] at h
   cases hv:decide (p.2.2.2.2>0) with
   |true=>
    rw [hv,cond_true] at h
    have:=FP h (fun q hq=>by
     rcases ZB4.1 hq with hq |hq
     ·exact sL s p _ q hq
     ·exact hl' q hq) ho'
    exact⟨this.1,by have:=this.2;omega⟩
   |false=>rw [hv,cond_false] at h;have:=FP h hl' ho';exact⟨this.1,by have:=this.2;omega⟩
theorem aas {s:ay}{t:bf}(h:aZ t.root=true):(∀p∈allM s t,aZ p=true)∧(allM s t).length≤40:=by
 unfold allM
 cases he:j4 40 s [t.root] [] with
 |none=>exact⟨fun p hp=>absurd (show p∈([]:List Pt) from hp) ZF6,ZA7 _⟩
 |some r=>
  have:=FP he (fun p hp=>by rw [ZC7.1 hp];exact h) (fun p hp=>absurd hp ZF6)
  exact⟨this.1,by have:=this.2;rw [ZA4] at this;show r.length≤40;omega⟩
theorem P2:(cT nu).ok:=P1
theorem nS {n:ft}(h:cy n=true):(cT n).ok:=by
 obtain⟨_,_,_,b4,b5,b6,_,_,_⟩:=ld h
 exact⟨⟨b4.2,b6⟩,b5.1,b5.2⟩
theorem OQ (s:ByteArray):(cT (bz s).1).ok:=by
 cases h:(bz s).2 with
 |true=>exact nS (WQ h)
 |false=>rw [WR h];exact P2
theorem o9 (s:ay) (t:bf) (k:Int):(cT (cK s t k).1).ok:=by
 unfold cK
 cases !(ig k 0 (t.many-1)) with
 |true=>exact P2
 |false=>exact OQ _
def xC (s:ay) (t:bf) (k:Int):ay:=dw (allM s (cT (cK s t k).1)) s
theorem rj (s:ay) (t:bf) (k:Int):cq s t k=bif !(aY (xC s t k) t k ⟨#[]⟩).2.2 then ((aY (xC s t k) t k ⟨#[]⟩).1,(aY (xC s t k) t k ⟨#[]⟩).2.1,false) else cF (aY (xC s t k) t k ⟨#[]⟩).1 (aY (xC s t k) t k ⟨#[]⟩).2.1 (mq s t k):=rfl
def va (S:ay) (t:bf) (k:Int):Prop:=S.wg 1045000∧t.ok∧0≤k∧k≤15∧M6 S (cT (cK S t k).1)=true
def je (S:ay) (t:bf) (k:Int):AV:=.t [.a (kT 0 1 2 5 6 (cq S t k).1),trA (cq S t k).2.1,.s (.q (cq S t k).2.2)]
def kJ (S:ay) (t:bf) (k:Int):List AV:=[.rs ab (cq S t k).1.rows,.rs ag (cq S t k).1.refs,.rs ag (cq S t k).1.last,.zz,.zz,.rs ae (cq S t k).1.gone,.rs ae (cq S t k).1.dead]
def C9:cn where
 A:=[.a (stB 0 1 2 3 4),.a [.int,.int,.int,.int,.int,.int,.int],.s .int]
 B:=[.r ab,.r ag,.r ag,.r ae,.r ae]
 pre:=fun x b=>stW x.1 b∧va (gO x.1 b) (x.2.1) (x.2.2)
 r:=fun x b _=>je (gO x.1 b) (x.2.1) (x.2.2)
 o:=fun x b _=>kJ (gO x.1 b) (x.2.1) (x.2.2)
 nf:=2
 mv:=true
theorem abD:Has Tryz.prog 158 C9:=by
 refine Has.ofZ zT zF zF (l:=[(179,jC),(180,sH),(181,z1),(63,cJ),(26,ey),(70,l6)]) ⟨vr,L8,ZM,gw,lV,zB,aa⟩ Tryz.func158 ?_
 rintro⟨⟨(AO:Nat),(AN:Nat),(AM:Nat),(ao:Int),(AL:Nat),(aq:Int),(AK:Nat),(ar:Bool)⟩,⟨(t1:Int),(t2:Int),(t3:Int),(t4:Int),(t5:Int),(t6:Int),(t7:Int)⟩,(k:Int)⟩ ⟨(aj:List ByteArray),(ak:List Int),(an:List Int),(ah:List Pt),(ai:List Pt)⟩ ⟨⟨(gB:AO=List.length aj),(gA:AN=List.length ak),(gz:AM=List.length an),(gy:AL=List.length ah),(gx:AK=List.length ai)⟩,(hp:va (aj,ak,an,ao,ah,aq,ai,ar) (t1,t2,t3,t4,t5,t6,t7) k)⟩
 subst gB gA gz gy gx
 show vc _ _ _ _ (entry [.a [.xs 0 1 0 aj.length,.xs 1 1 0 ak.length,.xs 2 1 0 an.length,.int ao,.xs 3 5 0 ah.length,.int aq,.xs 4 5 0 ai.length,.q ar],.a [.int t1,.int t2,.int t3,.int t4,.int t5,.int t6,.int t7],.int k] [.rs ab aj,.rs ag ak,.rs ag an,.rs ae ah,.rs ae ai]) _
 let g':=(aj,ak,an,ao,ah,aq,ai,ar)
 let A':=(t1,t2,t3,t4,t5,t6,t7)
 obtain⟨lh,cG,hk0,ES,hen⟩:=hp
 have lh:ay.wg g' 1045000:=lh
 have cG:bf.ok A':=cG
 have hna:=aas (s:=g') (o9 g' A' k).rd.ok
 have hlm:=H6 (s:=g') cG k
 refine⟨⟨⟨⟨⟨?_,?_⟩,⟨?_,?_⟩,⟨?_,?_⟩,aa,⟨?_,?_⟩,aa,⟨?_,?_⟩,tv2⟩,tv8,tv2⟩,?_,?_⟩,fun x1 w2=>⟨⟨⟨⟨⟨?_,?_⟩,⟨?_,?_⟩,⟨?_,?_⟩,aa,⟨?_,?_⟩,aa,⟨?_,?_⟩,tv2⟩,tv8,tv2⟩,?_,?_⟩,fun x3 w4=>⟨⟨⟨⟨⟨?_,?_⟩,⟨?_,?_⟩,⟨?_,?_⟩,aa,⟨?_,?_⟩,aa,⟨?_,?_⟩,tv2⟩,tv8,aa⟩,?_,?_⟩,fun x5 w6=>?_⟩⟩⟩
 all_goals first|refine aw ?_|refine ax ?_|exact a8|(dsimp only [jC,kG,sH,qX,z1,wA,cJ,dG,ey,fJ,l6,mF,gO];omega)|exact a7|exact lh.wf.rd|exact cG|exact hen|skip
 refine cN (l:=[(179,jC),(180,sH),(181,z1),(63,cJ),(26,ey),(70,l6)]) (ex:=zT) (wr:=zF) (pt:=zF) ⟨vr,L8,ZM,gw,lV,zB,aa⟩ [.s 2,.s 3,.s 4,.b 1004,.s 6,.s 7,.b 1006,.b 1007,.s 11,.s 12,.b 300000] (fun y:Nat×ay=>[(.s 13,.int y.1),(.b 1003,.a (kT 0 1 2 1000000001 1000000002 y.2)),(.b 0,.rs ab y.2.rows),(.b 1,.rs ag y.2.refs),(.b 2,.rs ag y.2.last),(.b 1000000001,.rs ae y.2.gone),(.b 1000000002,.rs ae y.2.dead)]) (fun y=>y.2.wg (1045000+y.1)∧y.1≤(allM g' (cT (cK g' A' k).1)).length∧dw ((allM g' (cT (cK g' A' k).1)).drop y.1) y.2=xC g' A' k) (fun y=>(allM g' (cT (cK g' A' k).1)).length-y.1) (0,g') [(1000000001,3),(1000000002,4)] ⟨lh,ZA7 _,rfl⟩ dL ?_
 rintro⟨i,u⟩ ⟨(hu:u.wg (1045000+i)),(hi:i≤(allM g' (cT (cK g' A' k).1)).length),(hr:dw ((allM g' (cT (cK g' A' k).1)).drop i) u=xC g' A' k)⟩
 have bU:decide ((i:Int)<((allM g' (cT (cK g' A' k).1)).length:Int))=true→i<(allM g' (cT (cK g' A' k).1)).length:=fun h=>by have:=aJ h;omega
 have hia:=nP (oy hna.1 i)
 have IX:=pb u (nth ae (allM g' (cT (cK g' A' k).1)) i)
 have hpo:=ni (k:=k) (text:=⟨#[]⟩) hu cG hk0 ES
 have hg:=hu.g
 have hd:=hu.d
 have hlen:=hna.2
 refine⟨fun w1=>⟨[.s 3,.b 1003],Sq36,rfl,Sq12,Sq37,rfl,Sq13,Sq38,rfl,[.s 37,.s 38],Sq39,rfl,⟨?_,?_⟩,[.s 39,.b 300000],Sq40,rfl,?_,[.s 36,.s 40,.b 0,.b 1,.b 2,.b 1000000001,.b 1000000002,.b 1000420001,.b 1000420000],[.s 41,.b 0,.b 1,.b 2,.b 1000000001,.b 1000000002,.b 1000420000,.b 1000420001],rfl,⟨⟨tv9,tv6,aa⟩,⟨?_,?_,?_,?_,?_⟩,⟨?_,?_,?_⟩,?_,?_,?_,?_⟩,?_,fun x2 w3=>⟨[.s 3,.s 41,.b 1003],[.b 1003],rfl,⟨?_,?_⟩,?_⟩⟩,fun w4=>⟨⟨⟨tv9,tv8,tv3⟩,⟨?_,?_,?_,?_,?_⟩,?_,?_,?_,?_,?_,?_,?_,?_⟩,fun |false=>fun w5=>⟨fun w6=>⟨[.s 3,.b 1003],Sq52,rfl,[.s 4,.b 1004],Sq53,rfl,[.s 6,.s 52,.b 1006],[.b 1006],rfl,[.s 7,.s 53,.b 1007],[.b 1007],rfl,[],Sq8,rfl,?_⟩,fun w7=>⟨⟨⟨tv9,tv8,tv2⟩,⟨?_,?_,?_,?_,?_⟩,?_,?_,?_,?_,?_,?_⟩,fun |false=>fun w8=>?_ |true=>fun w9=>?_⟩⟩ |true=>fun dx=>⟨fun kx=>⟨[.s 3,.b 1003],Sq52,rfl,[.s 4,.b 1004],Sq53,rfl,[.s 6,.s 52,.b 1006],[.b 1006],rfl,[.s 7,.s 53,.b 1007],[.b 1007],rfl,[],Sq8,rfl,?_⟩,fun dI=>⟨⟨⟨tv9,tv8,tv2⟩,⟨?_,?_,?_,?_,?_⟩,?_,?_,?_,?_,?_,?_⟩,fun |false=>fun iS=>?_ |true=>fun gN=>?_⟩⟩⟩⟩
 all_goals first|refine aw ?_|refine ax ?_|exact a8|(dsimp only [jC,kG,sH,qX,z1,wA,cJ,dG,ey,fJ,l6,mF,gO];omega)|exact a7|exact bU w1|exact hu.wf.n|exact hu.wf.n.1|exact hu.wf.n.2.1|exact hu.wf.n.2.2|exact hia.1|exact hia.2|exact ZB0 hg (by omega)|exact ZB0 hd (by omega)|exact hu.wf|exact cG.rd|exact cG.m1|exact⟨_,rfl⟩|exact hpo.1.wf|exact hpo.2.1.rd|exact hlm.1|exact ZB0 hpo.1.g (by omega)|exact ZB0 hpo.1.d (by omega)|exact ZE0 hlm.2 cG.m1|(show (i:Int)<((allM g' (cT (cK g' A' k).1)).length:Int);have:=bU w1;omega)|exact ZA7 _|skip
 all_goals first|exact absurd (show true=false from w7) Bool.noConfusion|exact absurd (show false=true from kx) Bool.noConfusion|skip
 ·have mh:=bU w1
  refine⟨(i+1,cM u (nth ae (allM g' (cT (cK g' A' k).1)) i)),[(1000000001,1000420000),(1000000002,1000420001)],?_,?_,?_⟩
  rotate_right
  ·exact bV
  ·refine⟨⟨ql hu.wf,?_,?_,?_⟩,mh,by rw [←hr,bW (ek:=ae) mh];rfl⟩
   ·show (cM u (nth ae (allM g' (cT (cK g' A' k).1)) i)).gone.length≤1045000+(i+1);omega
   ·show (cM u (nth ae (allM g' (cT (cK g' A' k).1)) i)).dead.length≤1045000+(i+1);omega
   ·show (cM u _).cg≤_;rw [wR];have:=hu.t;omega
  ·show (allM g' (cT (cK g' A' k).1)).length-(i+1)<(allM g' (cT (cK g' A' k).1)).length-i;omega
 all_goals have hU:xC g' A' k=u:=by rw [←hr,ZB3 (by have:=aA (p:=(i:Int)<((allM g' (cT (cK g' A' k).1)).length:Int)) w4;omega)];rfl
 ·have hz:(aY u A' k ⟨#[]⟩).2.2=false:=(show false=(aY u A' k ⟨#[]⟩).2.2 from w5).symm
  have e:cq g' A' k=((aY u A' k ⟨#[]⟩).1,(aY u A' k ⟨#[]⟩).2.1,false):=by rw [rj,hU,hz];rfl
  refine⟨[1000000001,1000000002],[],_,_,_,rfl,az,(),0,aa,?_,?_,rfl⟩
  ·(show _=je g' A' k);unfold je;first|(rw [e];rfl)|rfl
  ·(show _=kJ g' A' k);unfold kJ;first|(rw [e];rfl)|rfl
 ·have hz:(aY u A' k ⟨#[]⟩).2.2=true:=(show true=(aY u A' k ⟨#[]⟩).2.2 from dx).symm
  have hc:(cF (aY u A' k ⟨#[]⟩).1 (aY u A' k ⟨#[]⟩).2.1 (mq g' A' k)).2.2=false:=(show false=(cF (aY u A' k ⟨#[]⟩).1 (aY u A' k ⟨#[]⟩).2.1 (mq g' A' k)).2.2 from iS).symm
  have e:cq g' A' k=(cF (aY u A' k ⟨#[]⟩).1 (aY u A' k ⟨#[]⟩).2.1 (mq g' A' k)):=by rw [rj,hU,hz];rfl
  refine⟨[1000470000,1000470001],[],_,_,_,rfl,az,(),0,aa,?_,?_,rfl⟩
  ·(show _=je g' A' k);unfold je;first|(rw [e,hc];rfl)|(rw [e];rfl)|rfl
  ·(show _=kJ g' A' k);unfold kJ;first|(rw [e,hc];rfl)|(rw [e];rfl)|rfl
 ·have hz:(aY u A' k ⟨#[]⟩).2.2=true:=(show true=(aY u A' k ⟨#[]⟩).2.2 from dx).symm
  have hc:(cF (aY u A' k ⟨#[]⟩).1 (aY u A' k ⟨#[]⟩).2.1 (mq g' A' k)).2.2=true:=(show true=(cF (aY u A' k ⟨#[]⟩).1 (aY u A' k ⟨#[]⟩).2.1 (mq g' A' k)).2.2 from gN).symm
  have e:cq g' A' k=(cF (aY u A' k ⟨#[]⟩).1 (aY u A' k ⟨#[]⟩).2.1 (mq g' A' k)):=by rw [rj,hU,hz];rfl
  refine⟨[1000580000,1000580001],[],_,_,_,rfl,az,(),0,aa,?_,?_,rfl⟩
  ·(show _=je g' A' k);unfold je;first|(rw [e,hc];rfl)|(rw [e];rfl)|rfl
  ·(show _=kJ g' A' k);unfold kJ;first|(rw [e,hc];rfl)|(rw [e];rfl)|rfl
end GL
end Go.Proofs.YtclcgjhhehbdeaaGreatDoor
