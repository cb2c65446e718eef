/- Part 8 of the proof of a drawn law. -/
import Derived.Test.YtndmmmcglebllaaGreatDoorRad
import Derived.Test.YtndmmmcglebllaaGreatDoorRaf
import Derived.Test.YtndmmmcglebllaaGreatDoorRag
set_option maxHeartbeats 20000000
set_option maxRecDepth 100000
set_option linter.all false
namespace Go.Proofs.YtndmmmcglebllaaGreatDoor
namespace GL
def O8:∀{l:List ByteArray}{out:ByteArray},out.size<=2048->(dk l out).1.size<=2048
 |[],out,h=>h
 |x::l,out,h=>by
  cases h1:decide ((x.size:Int)>2048) with
  |true=>rw [TB h1];exact ZA7 _
  |false=>cases h2:decide (((out++bL x.size++⟨#[58]⟩++x).size:Int)>2048) with
   |true=>rw [IA h2];exact ZA7 _
   |false=>rw [H9 h1 h2];exact O8 (by have:=aD h2;omega)
def WM (l:List ByteArray):(bK l).1.size<=2048:=by
 cases h:decide ((l.length:Int)<=60) with
 |true=>rw [eF h];exact O8 (ZA7 _)
 |false=>rw [qx h];exact ZA7 _
def NI (n:dN):(aB n).size<=2048:=by
 unfold aB
 cases cx n with
 |false=>exact ZA7 _
 |true=>exact WM _
def vL (S:ay) (t:bf) (k:Int) (n:dN):Prop:=S.wg 1046000/\t.ok/\0<=k/\k<=15
def rj (S:ay) (t:bf) (k:Int) (n:dN):AV:=.t [.a (nH 0 1 2 5 6 (aP S t k (aB n)).1),trA (aP S t k (aB n)).2.1,.s (.q (aP S t k (aB n)).2.2)]
def uz (S:ay) (t:bf) (k:Int) (n:dN):List AV:=[.rs ab (aP S t k (aB n)).1.rows,.rs ag (aP S t k (aB n)).1.refs,.rs ag (aP S t k (aB n)).1.last,.zz,.zz,.rs ae (aP S t k (aB n)).1.gone,.rs ae (aP S t k (aB n)).1.dead]
def yP:cu where
 A:=[.a (stB 0 1 2 3 4),.a [.int,.int,.int,.int,.int,.int,.int],.s .int,.a [.int,.int,.int,.int,.int,.int,.int,.int,.int,.int]]
 B:=[.r ab,.r ag,.r ag,.r ae,.r ae]
 pre:=λx b=>stW x.1 b/\vL (iE x.1 b) (x.2.1) (x.2.2.1) (x.2.2.2)
 r:=λx b _=>rj (iE x.1 b) (x.2.1) (x.2.2.1) (x.2.2.2)
 o:=λx b _=>uz (iE x.1 b) (x.2.1) (x.2.2.1) (x.2.2.2)
 nf:=2
 mv:=true
def aau:Has Tryz.prog 27 yP:=by
 refine Has.ofZ zT zF zF (l:=[(54,oM),(24,fM)]) ⟨HV,oZ,aa⟩ Tryz.func27 ?_
 rintro⟨⟨(C7:Nat),(C6:Nat),(C5:Nat),(ao:Int),(C4:Nat),(aq:Int),(C3:Nat),(ar:Bool)⟩,⟨(t1:Int),(t2:Int),(t3:Int),(t4:Int),(t5:Int),(t6:Int),(t7:Int)⟩,(k:Int),⟨(n1:Int),(n2:Int),(n3:Int),(n4:Int),(n5:Int),(n6:Int),(n7:Int),(n8:Int),(n9:Int),(cg:Int)⟩⟩ ⟨(aj:List ByteArray),(ak:List Int),(an:List Int),(ah:List Pt),(ai:List Pt)⟩ ⟨⟨(gR:C7=List.length aj),(gQ:C6=List.length ak),(gP:C5=List.length an),(gO:C4=List.length ah),(gN:C3=List.length ai)⟩,(hp:vL (aj,ak,an,ao,ah,aq,ai,ar) (t1,t2,t3,t4,t5,t6,t7) k (n1,n2,n3,n4,n5,n6,n7,n8,n9,cg))⟩
 subst gR gQ gP gO gN
 show vc _ _ _ _ (entry [.a [.xs 0 1 0 aj.length,.xs 1 1 0 ak.length,.xs 2 1 0 an.length,.int ao,.xs 3 5 0 ah.length,.int aq,.xs 4 5 0 ai.length,.q ar],.a [.int t1,.int t2,.int t3,.int t4,.int t5,.int t6,.int t7],.int k,.a [.int n1,.int n2,.int n3,.int n4,.int n5,.int n6,.int n7,.int n8,.int n9,.int cg]] [.rs ab aj,.rs ag ak,.rs ag an,.rs ae ah,.rs ae ai]) _
 let A':=(n1,n2,n3,n4,n5,n6,n7,n8,n9,cg)
 let B':=(aj,ak,an,ao,ah,aq,ai,ar)
 let C':=(t1,t2,t3,t4,t5,t6,t7)
 obtain⟨lf,cn,hk0,hk1⟩:=hp
 have lf:ay.wg B' 1046000:=lf
 have cn:bf.ok C':=cn
 have db:=NI A'
 refine⟨[.s 4,.b 1004],Sq11,ζ,[.s 5,.b 1005],Sq12,ζ,Sq2,Sq13,ζ,[.s 7,.b 1007],Sq14,ζ,Sq14,Sq15,ζ,⟨⟨tv11,aa⟩,aa⟩,?_,λx1 w2=>⟨[.s 11,.s 12,.s 13,.s 15,.b 0,.b 1,.b 2,.b 3,.b 4,.b 1000170001,.b 1000170000],[.s 16,.b 0,.b 1,.b 2,.b 3,.b 4,.b 1000170000,.b 1000170001],ζ,⟨⟨tv9,tv8,tv3⟩,⟨?_,?_,?_,?_,?_⟩,?_,?_,?_,?_,?_,?_,?_,?_⟩,?_,λ|false=>λw3=>⟨Sq16,Sq17,ζ,Sq16,Sq18,ζ,Sq16,Sq19,ζ,[.s 8,.s 17,.b 1008],[.b 1008],ζ,[.s 9,.s 18,.b 1009],[.b 1009],ζ,Sq19,Sq10,ζ,?_⟩ |true=>λw4=>⟨Sq16,Sq17,ζ,Sq16,Sq18,ζ,Sq16,Sq19,ζ,[.s 8,.s 17,.b 1008],[.b 1008],ζ,[.s 9,.s 18,.b 1009],[.b 1009],ζ,Sq19,Sq10,ζ,?_⟩⟩⟩
 all_goals first|refine aw ?_|refine ax ?_|exact bb|(dsimp only [oM,pE,fM,ij,iE];omega)|exact ba|exact lf.wf|exact cn.rd|exact cn.m1|exact lf.g|exact lf.d|exact ZA9 db (by decide)|exact⟨_,rfl⟩|skip
 ·have hz:(aP B' C' k (aB A')).2.2=false:=(show false=(aP B' C' k (aB A')).2.2 from w3).symm
  refine⟨[3,4],[],_,_,_,ζ,aC,(),0,aa,?_,?_,ζ⟩
  ·(show _=rj B' C' k A');unfold rj;first|(rw [hz];rfl)|rfl
  ·(show _=uz B' C' k A');unfold uz;first|(rw [hz];rfl)|rfl
 ·have hz:(aP B' C' k (aB A')).2.2=true:=(show true=(aP B' C' k (aB A')).2.2 from w4).symm
  refine⟨[1000170000,1000170001],[],_,_,_,ζ,aC,(),0,aa,?_,?_,ζ⟩
  ·(show _=rj B' C' k A');unfold rj;first|(rw [hz];rfl)|rfl
  ·(show _=uz B' C' k A');unfold uz;first|(rw [hz];rfl)|rfl
def ahV:∀{f:Nat}{s:ByteArray},∀x∈pcF f s,x.size<=s.size
 |0,s,x,h=>by cases h
 |f+1,s,x,h=>by
  cases h1:decide ((s.size:Int)>128) with
  |true=>
   rw [ahY h1] at h
   rcases ZB7.1 h with h |h
   ·rw [h,ZC2];omega
   ·have:=ahV x h
    rw [ZC2] at this;omega
  |false=>cases h2:decide (s≠⟨#[]⟩) with
   |true=>rw [ahX h1 h2] at h;rw [ZD0.1 h];exact ZB0 _
   |false=>rw [ahW h1 h2] at h;cases h
def G1 (S:ay) (t:bf) (text:ByteArray):Prop:=S.wg 1045000/\t.ok/\text.size<=1000000
def kD (S:ay) (t:bf) (text:ByteArray):AV:=.t [.a (nH 0 1 2 5 6 (eg S t text).1),trA (eg S t text).2.1,.s (.q (eg S t text).2.2)]
def nj (S:ay) (t:bf) (text:ByteArray):List AV:=[.rs ab (eg S t text).1.rows,.rs ag (eg S t text).1.refs,.rs ag (eg S t text).1.last,.zz,.zz,.rs ae (eg S t text).1.gone,.rs ae (eg S t text).1.dead]
def WX:cu where
 A:=[.a (stB 0 1 2 3 4),.a [.int,.int,.int,.int,.int,.int,.int],.s .str]
 B:=[.r ab,.r ag,.r ag,.r ae,.r ae]
 pre:=λx b=>stW x.1 b/\G1 (iE x.1 b) (x.2.1) (x.2.2)
 r:=λx b _=>kD (iE x.1 b) (x.2.1) (x.2.2)
 o:=λx b _=>nj (iE x.1 b) (x.2.1) (x.2.2)
 nf:=2
 mv:=true
def alo:Has Tryz.prog 156 WX:=by
 refine Has.ofZ zT zF zF (l:=[(183,sa),(24,fM),(160,nC)]) ⟨N9,oZ,EA,aa⟩ Tryz.func156 ?_
 rintro⟨⟨(C7:Nat),(C6:Nat),(C5:Nat),(ao:Int),(C4:Nat),(aq:Int),(C3:Nat),(ar:Bool)⟩,⟨(t1:Int),(t2:Int),(t3:Int),(t4:Int),(t5:Int),(t6:Int),(t7:Int)⟩,(text:ByteArray)⟩ ⟨(aj:List ByteArray),(ak:List Int),(an:List Int),(ah:List Pt),(ai:List Pt)⟩ ⟨⟨(gR:C7=List.length aj),(gQ:C6=List.length ak),(gP:C5=List.length an),(gO:C4=List.length ah),(gN:C3=List.length ai)⟩,(hp:G1 (aj,ak,an,ao,ah,aq,ai,ar) (t1,t2,t3,t4,t5,t6,t7) text)⟩
 subst gR gQ gP gO gN
 show vc _ _ _ _ (entry [.a [.xs 0 1 0 aj.length,.xs 1 1 0 ak.length,.xs 2 1 0 an.length,.int ao,.xs 3 5 0 ah.length,.int aq,.xs 4 5 0 ai.length,.q ar],.a [.int t1,.int t2,.int t3,.int t4,.int t5,.int t6,.int t7],.str text] [.rs ab aj,.rs ag ak,.rs ag an,.rs ae ah,.rs ae ai]) _
 let A':=(aj,ak,an,ao,ah,aq,ai,ar)
 let B':=(t1,t2,t3,t4,t5,t6,t7)
 obtain⟨lf,cn,hts⟩:=hp
 have lf:ay.wg A' 1045000:=lf
 have cn:bf.ok B':=cn
 have hps:∀x∈lN text,x.size<=1000000:=λx hx=>ZA9 (ahV x hx) hts
 refine⟨⟨tv2,?_⟩,λx1 w2=>⟨λw3=>⟨[.s 3,.b 1003],Sq19,ζ,[.s 4,.b 1004],Sq20,ζ,[.s 6,.s 19,.b 1006],[.b 1006],ζ,[.s 7,.s 20,.b 1007],[.b 1007],ζ,[],Sq8,ζ,?_⟩,λw4=>?_⟩⟩
 all_goals first|refine aw ?_|refine ax ?_|exact bb|(dsimp only [sa,mY,fM,ij,nC,oh,iE];omega)|exact ba|skip
 ·have e:eg A' B' text=(A',B',false):=by unfold eg;rw [w3];rfl
  refine⟨[3,4],[],_,_,_,ζ,aC,(),0,aa,?_,?_,ζ⟩
  ·(show _=kD A' B' text);unfold kD;first|(rw [e];rfl)|rfl
  ·(show _=nj A' B' text);unfold nj;first|(rw [e];rfl)|rfl
 ·have hl:=aD w4
  have hM:eg A' B' text=P8 (jP (lN text) 0 A' B') (lN text).length:=by unfold eg;rw [w4];rfl
  refine df (l:=[(183,sa),(24,fM),(160,nC)]) (ex:=zT) (wr:=zF) (pt:=zF) ⟨N9,oZ,EA,aa⟩ [.s 6,.s 7,.b 1006,.b 1007,.s 9,.b 160000] (λy:Nat×ay×bf=>[(.s 3,.s (.bp 1003 0)),(.s 4,.s (.bp 1004 0)),(.s 10,.int y.1),(.b 1003,.a (nH 0 1 2 1000000001 1000000002 y.2.1)),(.b 0,.rs ab y.2.1.rows),(.b 1,.rs ag y.2.1.refs),(.b 2,.rs ag y.2.1.last),(.b 1000000001,.rs ae y.2.1.gone),(.b 1000000002,.rs ae y.2.1.dead),(.b 1004,.a [.int y.2.2.1,.int y.2.2.2.1,.int y.2.2.2.2.1,.int y.2.2.2.2.2.1,.int y.2.2.2.2.2.2.1,.int y.2.2.2.2.2.2.2.1,.int y.2.2.2.2.2.2.2.2])]) (λy=>y.2.1.wg (1045000+6*y.1)/\y.2.2.ok/\y.1<=(lN text).length/\jP ((lN text).drop y.1) y.1 y.2.1 y.2.2=jP (lN text) 0 A' B') (λy=>(lN text).length-y.1) (0,A',B') [(1000000001,3),(1000000002,4)] ⟨lf,cn,ZA7 _,rfl⟩ dP ?_
  rintro⟨i,u,tt⟩ ⟨(hu:u.wg (1045000+6*i)),(ht:tt.ok),(hi:i<=(lN text).length),(hr:jP ((lN text).drop i) i u tt=jP (lN text) 0 A' B')⟩
  have bR:decide ((i:Int)<((lN text).length:Int))=true->i<(lN text).length:=λh=>by have:=aF h;omega
  have hxs:i<(lN text).length->(nth ab (lN text) i).size<=1000000:=λh=>hps _ (bS (ek:=ab) h)
  have hpo:=λh:i<16=>lL (k:=(i:Int)) (text:=nth ab (lN text) i) hu ht (by omega) (by omega)
  have apn:∀r,jP (lN text) 0 A' B'=r->r.2.2=false->eg A' B' text=r:=λr h1 h2=>by rw [hM,h1];unfold P8;rw [h2];rfl
  refine⟨λw1=>⟨[.s 3,.b 1003],Sq28,ζ,[.s 4,.b 1004],Sq29,ζ,Sq10,Sq30,ζ,Sq9,Sq31,ζ,Sq10,Sq32,ζ,[.s 31,.s 32],Sq33,ζ,⟨?_,?_⟩,[.s 33,.b 160000],Sq34,ζ,?_,[.s 28,.s 29,.s 30,.s 34,.b 0,.b 1,.b 2,.b 1000000001,.b 1000000002,.b 1000360001,.b 1000360000],[.s 35,.b 0,.b 1,.b 2,.b 1000000001,.b 1000000002,.b 1000360000,.b 1000360001],ζ,⟨⟨tv9,tv8,tv3⟩,⟨?_,?_,?_,?_,?_⟩,?_,?_,?_,?_,?_,?_,?_,?_⟩,?_,λ|false=>λw2=>⟨Sq35,Sq27,ζ,Sq27,Sq36,ζ,Sq27,Sq37,ζ,Sq27,Sq38,ζ,[.b 1011],[.s 11,.b 1011],ζ,[.b 1012],[.s 12,.b 1012],ζ,[.s 11,.s 36,.b 1011],[.b 1011],ζ,[.s 12,.s 37,.b 1012],[.b 1012],ζ,Sq38,Sq13,ζ,λw3=>⟨[.s 3,.b 1003],Sq41,ζ,[.s 4,.b 1004],Sq42,ζ,[.s 6,.s 41,.b 1006],[.b 1006],ζ,[.s 7,.s 42,.b 1007],[.b 1007],ζ,[],Sq8,ζ,?_⟩,λw4=>⟨⟨?_,?_⟩,?_⟩⟩ |true=>λw5=>⟨Sq35,Sq27,ζ,Sq27,Sq36,ζ,Sq27,Sq37,ζ,Sq27,Sq38,ζ,[.b 1011],[.s 11,.b 1011],ζ,[.b 1012],[.s 12,.b 1012],ζ,[.s 11,.s 36,.b 1011],[.b 1011],ζ,[.s 12,.s 37,.b 1012],[.b 1012],ζ,Sq38,Sq13,ζ,λw6=>⟨[.s 3,.b 1003],Sq41,ζ,[.s 4,.b 1004],Sq42,ζ,[.s 6,.s 41,.b 1006],[.b 1006],ζ,[.s 7,.s 42,.b 1007],[.b 1007],ζ,[],Sq8,ζ,?_⟩,λw7=>⟨⟨?_,?_⟩,?_⟩⟩⟩,λw8=>⟨⟨⟨tv9,tv8,tv2⟩,⟨?_,?_,?_,?_,?_⟩,?_,?_,?_,?_,?_,?_⟩,λ|false=>λw9=>?_ |true=>λdB=>?_⟩⟩
  all_goals first|refine aw ?_|refine ax ?_|exact bb|(dsimp only [sa,mY,fM,ij,nC,oh,iE];omega)|exact ba|exact bR w1|exact hu.wf|exact ht.rd|exact ht.m1|exact ZA9 hu.g (by omega)|exact ZA9 hu.d (by omega)|exact hxs (bR w1)|exact⟨_,rfl⟩|exact Int.natCast_nonneg _|(show ((lN text).length:Int)<=16;omega)|skip
  ·have lQ:=bR w1
   have hz:(aP u tt i (nth ab (lN text) i)).2.2=false:=(show false=(aP u tt i (nth ab (lN text) i)).2.2 from w2).symm
   have J5:=(hpo (by omega)).2.2 hz
   have e:eg A' B' text=((aP u tt i (nth ab (lN text) i)).1,tt,false):=apn _ (by rw [<-hr,bJ (ek:=ab) lQ,UT hz]) rfl
   refine⟨[1000000001,1000000002],[],_,_,_,ζ,aC,(),0,aa,?_,?_,ζ⟩
   ·(show _=kD A' B' text);unfold kD;first|(rw [e];rfl)|(rw [e];exact congrArg (λx=>AV.t [A0.a x,trA tt,A0.s (SV.q false)]) (mM (b0:=0) (b1:=1) (b2:=2) (b3:=5) (b4:=6) J5 hu.wf))|(rw [e];have h3:=J5.gone;have h4:=J5.dead;exact congr (congrArg (λ(a b:List Pt)=>[AV.rs ab (aP u tt i (nth ab (lN text) i)).1.rows,AV.rs ag (aP u tt i (nth ab (lN text) i)).1.refs,AV.rs ag (aP u tt i (nth ab (lN text) i)).1.last,AV.zz,AV.zz,AV.rs ae a,AV.rs ae b]) h3.symm) h4.symm)|rfl
   ·(show _=nj A' B' text);unfold nj;first|(rw [e];rfl)|(rw [e];exact congrArg (λx=>AV.t [A0.a x,trA tt,A0.s (SV.q false)]) (mM (b0:=0) (b1:=1) (b2:=2) (b3:=5) (b4:=6) J5 hu.wf))|(rw [e];have h3:=J5.gone;have h4:=J5.dead;exact congr (congrArg (λ(a b:List Pt)=>[AV.rs ab (aP u tt i (nth ab (lN text) i)).1.rows,AV.rs ag (aP u tt i (nth ab (lN text) i)).1.refs,AV.rs ag (aP u tt i (nth ab (lN text) i)).1.last,AV.zz,AV.zz,AV.rs ae a,AV.rs ae b]) h3.symm) h4.symm)|rfl
  ·exact absurd (show true=false from w4) Bool.noConfusion
  ·exact absurd (show false=true from w6) Bool.noConfusion
  ·have lQ:=bR w1
   have hz:(aP u tt i (nth ab (lN text) i)).2.2=true:=(show true=(aP u tt i (nth ab (lN text) i)).2.2 from w5).symm
   have h2:=hpo (by omega)
   refine⟨(i+1,(aP u tt i (nth ab (lN text) i)).1,(aP u tt i (nth ab (lN text) i)).2.1),[(1000000001,1000360000),(1000000002,1000360001)],?_,?_,?_⟩
   rotate_right
   ·exact bY
   ·exact⟨h2.1.mono (by show 1045000+6*i+6<=1045000+6*(i+1);omega),h2.2.1,lQ,by rw [<-hr,bJ (ek:=ab) lQ,US hz]⟩
   ·show (lN text).length-(i+1)<(lN text).length-i;omega
  ·have wZ:=aD (p:=(i:Int)<((lN text).length:Int)) w8
   have e0:jP (lN text) 0 A' B'=(u,tt,true):=by rw [<-hr,ZB3 (by omega)];rfl
   have hz:(cX u tt (lN text).length).2.2=false:=(show false=(cX u tt (lN text).length).2.2 from w9).symm
   have e:eg A' B' text=cX u tt (lN text).length:=by rw [hM,e0];rfl
   refine⟨[1000000001,1000000002],[],_,_,_,ζ,aC,(),0,aa,?_,?_,ζ⟩
   ·(show _=kD A' B' text);unfold kD;first|(rw [e,hz];rfl)|(rw [e];rfl)|rfl
   ·(show _=nj A' B' text);unfold nj;first|(rw [e,hz];rfl)|(rw [e];rfl)|rfl
  ·have wZ:=aD (p:=(i:Int)<((lN text).length:Int)) w8
   have e0:jP (lN text) 0 A' B'=(u,tt,true):=by rw [<-hr,ZB3 (by omega)];rfl
   have hz:(cX u tt (lN text).length).2.2=true:=(show true=(cX u tt (lN text).length).2.2 from dB).symm
   have e:eg A' B' text=cX u tt (lN text).length:=by rw [hM,e0];rfl
   refine⟨[1000500000,1000500001],[],_,_,_,ζ,aC,(),0,aa,?_,?_,ζ⟩
   ·(show _=kD A' B' text);unfold kD;first|(rw [e,hz];rfl)|(rw [e];rfl)|rfl
   ·(show _=nj A' B' text);unfold nj;first|(rw [e,hz];rfl)|(rw [e];rfl)|rfl
end GL
namespace GL
def K6 {s:ay}:∀{f:Nat}{l out r:List Pt},kZ f s l out=some r->(∀p∈l,bc p=true)->(∀p∈out,bc p=true)->(∀p∈r,bc p=true)/\r.length<=out.length+f
 |0,l,out,r,h,_,_=>by rw [kZ] at h;cases h
 |f+1,[],out,r,h,_,ho=>by rw [kZ] at h;have h:=ZF4 h;rw [<-h];exact⟨ho,by omega⟩
 |f+1,p::l,out,r,h,hl,ho=>by
  have hp:=hl p (by simp)
  have hl':∀q∈l,bc q=true:=λq hq=>hl q (by simp [hq])
  have ho':∀q∈out++[p],bc q=true:=λq hq=>by
   rcases ZB5.1 hq with hq |hq
   ·exact ho q hq
   ·rw [ZD0.1 hq];exact hp
  have hlen:(out++[p]).length=out.length+1:=by rw [ZA0];rfl
  rw [kZ] at h
  cases hh:au p with
  |true=>rw [hh,cond_true] at h;have:=K6 h hl' ho;exact⟨this.1,by omega⟩
  |false=>
   rw [hh,cond_false] at h
   cases hv:decide (p.2.2.2.2>0) with
   |true=>
    rw [hv,cond_true] at h
    have:=K6 h (λq hq=>by
     rcases ZB5.1 hq with hq |hq
     ·exact qP s p _ q hq
     ·exact hl' q hq) ho'
    exact⟨this.1,by have:=this.2;omega⟩
   |false=>rw [hv,cond_false] at h;have:=K6 h hl' ho';exact⟨this.1,by have:=this.2;omega⟩
def aff {s:ay}{t:bf}(h:bc t.root=true):(∀p∈allM s t,bc p=true)/\(allM s t).length<=40:=by
 unfold allM
 cases he:kZ 40 s [t.root] [] with
 |none=>exact⟨λp hp=>absurd (show p∈([]:List Pt) from hp) ZF6,ZA7 _⟩
 |some r=>
  have:=K6 he (λp hp=>by rw [ZD0.1 hp];exact h) (λp hp=>absurd hp ZF6)
  exact⟨this.1,by have:=this.2;rw [ZA4] at this;show r.length<=40;omega⟩
def XG:(cK dq).ok:=XF
def pK {n:dN}(h:cx n=true):(cK n).ok:=by
 obtain⟨_,_,_,b4,b5,b6,_,_,_⟩:=il h
 exact⟨⟨b4.2,b6⟩,b5.1,b5.2⟩
def VG (s:ByteArray):(cK (aG s).1).ok:=by
 cases h:(aG s).2 with
 |true=>exact pK (NK h)
 |false=>rw [BY h];exact XG
def qK (s:ay) (t:bf) (k:Int):(cK (cW s t k).1).ok:=by
 unfold cW
 cases !(gC k 0 (t.many-1)) with
 |true=>exact XG
 |false=>exact VG _
def AM (s:ay) (t:bf) (k:Int):ay:=dV (allM s (cK (cW s t k).1)) s
theorem tg (s:ay) (t:bf) (k:Int):cG s t k=bif !(aP (AM s t k) t k ⟨#[]⟩).2.2 then ((aP (AM s t k) t k ⟨#[]⟩).1,(aP (AM s t k) t k ⟨#[]⟩).2.1,false) else cX (aP (AM s t k) t k ⟨#[]⟩).1 (aP (AM s t k) t k ⟨#[]⟩).2.1 (nS s t k):=rfl
def xW (S:ay) (t:bf) (k:Int):Prop:=S.wg 1045000/\t.ok/\0<=k/\k<=15/\PF S (cK (cW S t k).1)=true
def j3 (S:ay) (t:bf) (k:Int):AV:=.t [.a (nH 0 1 2 5 6 (cG S t k).1),trA (cG S t k).2.1,.s (.q (cG S t k).2.2)]
def lY (S:ay) (t:bf) (k:Int):List AV:=[.rs ab (cG S t k).1.rows,.rs ag (cG S t k).1.refs,.rs ag (cG S t k).1.last,.zz,.zz,.rs ae (cG S t k).1.gone,.rs ae (cG S t k).1.dead]
def IK:cu where
 A:=[.a (stB 0 1 2 3 4),.a [.int,.int,.int,.int,.int,.int,.int],.s .int]
 B:=[.r ab,.r ag,.r ag,.r ae,.r ae]
 pre:=λx b=>stW x.1 b/\xW (iE x.1 b) (x.2.1) (x.2.2)
 r:=λx b _=>j3 (iE x.1 b) (x.2.1) (x.2.2)
 o:=λx b _=>lY (iE x.1 b) (x.2.1) (x.2.2)
 nf:=2
 mv:=true
def agz:Has Tryz.prog 127 IK:=by
 refine Has.ofZ zT zF zF (l:=[(158,kr),(159,uV),(32,qy),(53,c8),(24,fM),(160,nC)]) ⟨yq,SL,KO,iy,oZ,EA,aa⟩ Tryz.func127 ?_
 rintro⟨⟨(C7:Nat),(C6:Nat),(C5:Nat),(ao:Int),(C4:Nat),(aq:Int),(C3:Nat),(ar:Bool)⟩,⟨(t1:Int),(t2:Int),(t3:Int),(t4:Int),(t5:Int),(t6:Int),(t7:Int)⟩,(k:Int)⟩ ⟨(aj:List ByteArray),(ak:List Int),(an:List Int),(ah:List Pt),(ai:List Pt)⟩ ⟨⟨(gR:C7=List.length aj),(gQ:C6=List.length ak),(gP:C5=List.length an),(gO:C4=List.length ah),(gN:C3=List.length ai)⟩,(hp:xW (aj,ak,an,ao,ah,aq,ai,ar) (t1,t2,t3,t4,t5,t6,t7) k)⟩
 subst gR gQ gP gO gN
 show vc _ _ _ _ (entry [.a [.xs 0 1 0 aj.length,.xs 1 1 0 ak.length,.xs 2 1 0 an.length,.int ao,.xs 3 5 0 ah.length,.int aq,.xs 4 5 0 ai.length,.q ar],.a [.int t1,.int t2,.int t3,.int t4,.int t5,.int t6,.int t7],.int k] [.rs ab aj,.rs ag ak,.rs ag an,.rs ae ah,.rs ae ai]) _
 let A':=(aj,ak,an,ao,ah,aq,ai,ar)
 let B':=(t1,t2,t3,t4,t5,t6,t7)
 obtain⟨lf,cn,hk0,hk1,hen⟩:=hp
 have lf:ay.wg A' 1045000:=lf
 have cn:bf.ok B':=cn
 have hna:=aff (s:=A') (qK A' B' k).rd.ok
 have hlm:=N7 (s:=A') cn k
 refine⟨⟨⟨⟨⟨?_,?_⟩,⟨?_,?_⟩,⟨?_,?_⟩,aa,⟨?_,?_⟩,aa,⟨?_,?_⟩,tv2⟩,tv8,tv2⟩,?_,?_⟩,λx1 w2=>⟨⟨⟨⟨⟨?_,?_⟩,⟨?_,?_⟩,⟨?_,?_⟩,aa,⟨?_,?_⟩,aa,⟨?_,?_⟩,tv2⟩,tv8,tv2⟩,?_,?_⟩,λx3 w4=>⟨⟨⟨⟨⟨?_,?_⟩,⟨?_,?_⟩,⟨?_,?_⟩,aa,⟨?_,?_⟩,aa,⟨?_,?_⟩,tv2⟩,tv8,aa⟩,?_,?_⟩,λx5 w6=>?_⟩⟩⟩
 all_goals first|refine aw ?_|refine ax ?_|exact bb|(dsimp only [kr,lW,uV,sT,qy,qE,c8,eh,fM,ij,nC,oh,iE];omega)|exact ba|exact lf.wf.rd|exact cn|exact hen|skip
 refine df (l:=[(158,kr),(159,uV),(32,qy),(53,c8),(24,fM),(160,nC)]) (ex:=zT) (wr:=zF) (pt:=zF) ⟨yq,SL,KO,iy,oZ,EA,aa⟩ [.s 2,.s 3,.s 4,.b 1004,.s 6,.s 7,.b 1006,.b 1007,.s 11,.s 12,.b 300000] (λy:Nat×ay=>[(.s 13,.int y.1),(.b 1003,.a (nH 0 1 2 1000000001 1000000002 y.2)),(.b 0,.rs ab y.2.rows),(.b 1,.rs ag y.2.refs),(.b 2,.rs ag y.2.last),(.b 1000000001,.rs ae y.2.gone),(.b 1000000002,.rs ae y.2.dead)]) (λy=>y.2.wg (1045000+y.1)/\y.1<=(allM A' (cK (cW A' B' k).1)).length/\dV ((allM A' (cK (cW A' B' k).1)).drop y.1) y.2=AM A' B' k) (λy=>(allM A' (cK (cW A' B' k).1)).length-y.1) (0,A') [(1000000001,3),(1000000002,4)] ⟨lf,ZA7 _,rfl⟩ dP ?_
 rintro⟨i,u⟩ ⟨(hu:u.wg (1045000+i)),(hi:i<=(allM A' (cK (cW A' B' k).1)).length),(hr:dV ((allM A' (cK (cW A' B' k).1)).drop i) u=AM A' B' k)⟩
 have bR:decide ((i:Int)<((allM A' (cK (cW A' B' k).1)).length:Int))=true->i<(allM A' (cK (cW A' B' k).1)).length:=λh=>by have:=aF h;omega
 have hia:=pI (qd hna.1 i)
 have hfl:=qL u (nth ae (allM A' (cK (cW A' B' k).1)) i)
 have hpo:=lL (k:=k) (text:=⟨#[]⟩) hu cn hk0 hk1
 have hg:=hu.g
 have hd:=hu.d
 have hlen:=hna.2
 refine⟨λw1=>⟨[.s 3,.b 1003],Sq36,ζ,Sq12,Sq37,ζ,Sq13,Sq38,ζ,[.s 37,.s 38],Sq39,ζ,⟨?_,?_⟩,[.s 39,.b 300000],Sq40,ζ,?_,[.s 36,.s 40,.b 0,.b 1,.b 2,.b 1000000001,.b 1000000002,.b 1000420001,.b 1000420000],[.s 41,.b 0,.b 1,.b 2,.b 1000000001,.b 1000000002,.b 1000420000,.b 1000420001],ζ,⟨⟨tv9,tv6,aa⟩,⟨?_,?_,?_,?_,?_⟩,⟨?_,?_,?_⟩,?_,?_,?_,?_⟩,?_,λx2 w3=>⟨[.s 3,.s 41,.b 1003],[.b 1003],ζ,⟨?_,?_⟩,?_⟩⟩,λw4=>⟨⟨⟨tv9,tv8,tv3⟩,⟨?_,?_,?_,?_,?_⟩,?_,?_,?_,?_,?_,?_,?_,?_⟩,λ|false=>λw5=>⟨λw6=>⟨[.s 3,.b 1003],Sq52,ζ,[.s 4,.b 1004],Sq53,ζ,[.s 6,.s 52,.b 1006],[.b 1006],ζ,[.s 7,.s 53,.b 1007],[.b 1007],ζ,[],Sq8,ζ,?_⟩,λw7=>⟨⟨⟨tv9,tv8,tv2⟩,⟨?_,?_,?_,?_,?_⟩,?_,?_,?_,?_,?_,?_⟩,λ|false=>λw8=>?_ |true=>λw9=>?_⟩⟩ |true=>λdB=>⟨λiP=>⟨[.s 3,.b 1003],Sq52,ζ,[.s 4,.b 1004],Sq53,ζ,[.s 6,.s 52,.b 1006],[.b 1006],ζ,[.s 7,.s 53,.b 1007],[.b 1007],ζ,[],Sq8,ζ,?_⟩,λdW=>⟨⟨⟨tv9,tv8,tv2⟩,⟨?_,?_,?_,?_,?_⟩,?_,?_,?_,?_,?_,?_⟩,λ|false=>λiL=>?_ |true=>λgY=>?_⟩⟩⟩⟩
 all_goals first|refine aw ?_|refine ax ?_|exact bb|(dsimp only [kr,lW,uV,sT,qy,qE,c8,eh,fM,ij,nC,oh,iE];omega)|exact ba|exact bR w1|exact hu.wf.n|exact hu.wf.n.1|exact hu.wf.n.2.1|exact hu.wf.n.2.2|exact hia.1|exact hia.2|exact ZA9 hg (by omega)|exact ZA9 hd (by omega)|exact hu.wf|exact cn.rd|exact cn.m1|exact⟨_,rfl⟩|exact hpo.1.wf|exact hpo.2.1.rd|exact hlm.1|exact ZA9 hpo.1.g (by omega)|exact ZA9 hpo.1.d (by omega)|exact ZE9 hlm.2 cn.m1|(show (i:Int)<((allM A' (cK (cW A' B' k).1)).length:Int);have:=bR w1;omega)|exact ZA7 _|skip
 all_goals first|exact absurd (show true=false from w7) Bool.noConfusion|exact absurd (show false=true from iP) Bool.noConfusion|skip
 ·have lQ:=bR w1
  refine⟨(i+1,dh u (nth ae (allM A' (cK (cW A' B' k).1)) i)),[(1000000001,1000420000),(1000000002,1000420001)],?_,?_,?_⟩
  rotate_right
  ·exact bY
  ·refine⟨⟨r4 hu.wf,?_,?_,?_⟩,lQ,by rw [<-hr,bJ (ek:=ae) lQ];rfl⟩
   ·show (dh u (nth ae (allM A' (cK (cW A' B' k).1)) i)).gone.length<=1045000+(i+1);omega
   ·show (dh u (nth ae (allM A' (cK (cW A' B' k).1)) i)).dead.length<=1045000+(i+1);omega
   ·show (dh u _).cz<=_;rw [zP];have:=hu.t;omega
  ·show (allM A' (cK (cW A' B' k).1)).length-(i+1)<(allM A' (cK (cW A' B' k).1)).length-i;omega
 all_goals have hU:AM A' B' k=u:=by rw [<-hr,ZB3 (by have:=aD (p:=(i:Int)<((allM A' (cK (cW A' B' k).1)).length:Int)) w4;omega)];rfl
 ·have hz:(aP u B' k ⟨#[]⟩).2.2=false:=(show false=(aP u B' k ⟨#[]⟩).2.2 from w5).symm
  have e:cG A' B' k=((aP u B' k ⟨#[]⟩).1,(aP u B' k ⟨#[]⟩).2.1,false):=by rw [tg,hU,hz];rfl
  refine⟨[1000000001,1000000002],[],_,_,_,ζ,aC,(),0,aa,?_,?_,ζ⟩
  ·(show _=j3 A' B' k);unfold j3;first|(rw [e];rfl)|rfl
  ·(show _=lY A' B' k);unfold lY;first|(rw [e];rfl)|rfl
 ·have hz:(aP u B' k ⟨#[]⟩).2.2=true:=(show true=(aP u B' k ⟨#[]⟩).2.2 from dB).symm
  have hc:(cX (aP u B' k ⟨#[]⟩).1 (aP u B' k ⟨#[]⟩).2.1 (nS A' B' k)).2.2=false:=(show false=(cX (aP u B' k ⟨#[]⟩).1 (aP u B' k ⟨#[]⟩).2.1 (nS A' B' k)).2.2 from iL).symm
  have e:cG A' B' k=(cX (aP u B' k ⟨#[]⟩).1 (aP u B' k ⟨#[]⟩).2.1 (nS A' B' k)):=by rw [tg,hU,hz];rfl
  refine⟨[1000470000,1000470001],[],_,_,_,ζ,aC,(),0,aa,?_,?_,ζ⟩
  ·(show _=j3 A' B' k);unfold j3;first|(rw [e,hc];rfl)|(rw [e];rfl)|rfl
  ·(show _=lY A' B' k);unfold lY;first|(rw [e,hc];rfl)|(rw [e];rfl)|rfl
 ·have hz:(aP u B' k ⟨#[]⟩).2.2=true:=(show true=(aP u B' k ⟨#[]⟩).2.2 from dB).symm
  have hc:(cX (aP u B' k ⟨#[]⟩).1 (aP u B' k ⟨#[]⟩).2.1 (nS A' B' k)).2.2=true:=(show true=(cX (aP u B' k ⟨#[]⟩).1 (aP u B' k ⟨#[]⟩).2.1 (nS A' B' k)).2.2 from gY).symm
  have e:cG A' B' k=(cX (aP u B' k ⟨#[]⟩).1 (aP u B' k ⟨#[]⟩).2.1 (nS A' B' k)):=by rw [tg,hU,hz];rfl
  refine⟨[1000580000,1000580001],[],_,_,_,ζ,aC,(),0,aa,?_,?_,ζ⟩
  ·(show _=j3 A' B' k);unfold j3;first|(rw [e,hc];rfl)|(rw [e];rfl)|rfl
  ·(show _=lY A' B' k);unfold lY;first|(rw [e,hc];rfl)|(rw [e];rfl)|rfl
end GL
namespace GL
def nQ (size k:Int):Int:=min 12 (size-k*12)
def sR (size:Int) (k:Int):Prop:= -1000000<=size/\size<=1000000/\0<=k/\k<=1000000
def xH (size:Int) (k:Int):AV:=.s (.int (nQ size k))
def acb (size:Int) (k:Int):List AV:=[]
def uT:cu where
 A:=[.s .int,.s .int]
 B:=[]
 pre:=λx b=>sR (x.1) (x.2)
 r:=λx b _=>xH (x.1) (x.2)
 o:=λx b _=>acb (x.1) (x.2)
def SJ:Has Tryz.prog 185 uT:=by
 refine Has.fP zT zF zF (l:=[]) trivial Tryz.func185 ?_
 rintro⟨(size:Int),(k:Int)⟩ _ (hp:sR size k)
 show vc _ _ _ _ (entry [.int size,.int k] []) _
 obtain⟨h1,h2,h3,h4⟩:=hp
 refine⟨⟨?_,?_⟩,⟨⟨?_,?_⟩,?_⟩⟩
 all_goals first|refine aw ?_|refine ax ?_|exact bb|exact ba|skip
 refine⟨[],[],_,_,_,ζ,aC,(),aa,?_,?_,ζ⟩
 ·(show _=xH size k);unfold xH;first|rfl
 ·rfl
def txF (size:Int):List ByteArray->Nat->ByteArray->ByteArray
 |[],_,out=>out
 |s::l,k,out=>txF size l (k+1) (out++s++lT (nQ size k-s.size))
def jZ (s:ay) (n:dN):ByteArray:=txF n.2.2.1 (aE s (cK n)) 0 ⟨#[]⟩
def mh (n:Int):(lT n).size=(max 0 n).toNat:=by
 unfold lT;rw [gp,pc];simp
structure dN.fok (n:dN):Prop where
 ok:(cK n).ok
 s0: -1000000<=n.2.2.1
 s1:n.2.2.1<=1000000
def sQ (S:ay) (n:dN):Prop:=S.rd/\n.fok
def xG (S:ay) (n:dN):AV:=.s (.str (jZ S n))
def aca (S:ay) (n:dN):List AV:=[]
def uS:cu where
 A:=[.a vj,.a [.int,.int,.int,.int,.int,.int,.int,.int,.int,.int]]
 B:=[]
 pre:=λx b=>sQ (x.1) (x.2)
 r:=λx b _=>xG (x.1) (x.2)
 o:=λx b _=>aca (x.1) (x.2)
def SH:Has Tryz.prog 163 uS:=by
 refine Has.fP zT zF zF (l:=[(33,cD),(185,uT),(164,jz)]) ⟨gb,SJ,wh,aa⟩ Tryz.func163 ?_
 rintro⟨⟨(aj:List ByteArray),(ak:List Int),(an:List Int),(ao:Int),(ah:List Pt),(aq:Int),(ai:List Pt),(ar:Bool)⟩,⟨(n1:Int),(n2:Int),(n3:Int),(n4:Int),(n5:Int),(n6:Int),(n7:Int),(n8:Int),(n9:Int),(cg:Int)⟩⟩ _ (hp:sQ (aj,ak,an,ao,ah,aq,ai,ar) (n1,n2,n3,n4,n5,n6,n7,n8,n9,cg))
 show vc _ _ _ _ (entry [.a [.vz ab aj,.vz ag ak,.vz ag an,.int ao,.vz ae ah,.int aq,.vz ae ai,.q ar],.a [.int n1,.int n2,.int n3,.int n4,.int n5,.int n6,.int n7,.int n8,.int n9,.int cg]] []) _
 let A':=(n1,n2,n3,n4,n5,n6,n7,n8,n9,cg)
 let B':=(aj,ak,an,ao,ah,aq,ai,ar)
 obtain⟨dM,hf⟩:=hp
 have dM:ay.rd B':=dM
 have hf:dN.fok A':=hf
 have cn:=hf.ok
 have h0:0<=cg:=cn.m0
 have h1:cg<=16:=cn.m1
 have hs0: -1000000<=n3:=hf.s0
 have hs1:n3<=1000000:=hf.s1
 have hl:(aE B' (cK A')).length=cg.toNat:=eV cn
 refine⟨⟨⟨tv9,tv8,aa⟩,?_,?_,?_,?_⟩,λx1 w2=>?_⟩
 all_goals first|refine aw ?_|refine ax ?_|exact bb|(dsimp only [cD,dL,uT,sR,jz,kH];omega)|exact ba|exact dM|exact cn.rd|exact h0|exact h1|skip
 refine df (l:=[(33,cD),(185,uT),(164,jz)]) (ex:=zT) (wr:=zF) (pt:=zF) ⟨gb,SJ,wh,aa⟩ [.s 2,.s 3,.b 1002,.b 1003,.s 6,.b 130000] (λy:Nat×ByteArray=>[(.s 5,.str y.2),(.s 7,.int y.1)]) (λy=>(y.1:Int)<=cg/\y.2.size<=3000000*y.1/\txF n3 ((aE B' (cK A')).drop y.1) y.1 y.2=jZ B' A') (λy=>cg.toNat-y.1) (0,⟨#[]⟩) [] ⟨h0,ZA7 _,rfl⟩ dP ?_
 rintro⟨i,out⟩ ⟨(hi:(i:Int)<=cg),(ho:out.size<=3000000*i),(hr:txF n3 ((aE B' (cK A')).drop i) i out=jZ B' A')⟩
 have bR:decide ((i:Int)<cg)=true->i<(aE B' (cK A')).length:=λh=>by have:=aF h;omega
 have db:=HI (nX (s:=B') (t:=cK A') dM) i
 have hlg:nQ n3 i<=12:=by unfold nQ;omega
 have asi: -1000200<=nQ n3 i:=by unfold nQ;omega
 have hzs:(lT (nQ n3 i-(nth ab (aE B' (cK A')) i).size)).size<=12:=by rw [mh];omega
 refine⟨λw1=>⟨⟨?_,?_⟩,?_,?_,⟨tv3,?_,?_,?_,?_⟩,λx2 w3=>⟨⟨?_,?_⟩,⟨tv2,?_⟩,λx4 w5=>⟨?_,⟨?_,?_⟩,?_⟩⟩⟩,λw6=>?_⟩
 all_goals first|refine aw ?_|refine ax ?_|exact bb|(dsimp only [cD,dL,uT,sR,jz,kH];omega)|exact ba|exact bR w1|exact hs0|exact hs1|(show (i:Int)<((aE B' (cK A')).length:Int);have:=bR w1;omega)|(show (out.size+(nth ab (aE B' (cK A')) i).size:Int)<=imax;unfold imax;omega)|(show gz<=nQ n3 i-((nth ab (aE B' (cK A')) i).size:Int);unfold gz;omega)|(show (((out++(nth ab (aE B' (cK A')) i)).size:Nat):Int)+((lT (nQ n3 i-(nth ab (aE B' (cK A')) i).size)).size:Int)<=imax;rw [ZB4];unfold imax;omega)|skip
 ·have lQ:=bR w1
  have ajk:=aF (p:=(i:Int)<cg) w1
  refine⟨(i+1,out++(nth ab (aE B' (cK A')) i)++lT (nQ n3 i-(nth ab (aE B' (cK A')) i).size)),[],?_,?_,?_⟩
  rotate_right
  ·exact bY
  ·refine⟨by show ((i+1:Nat):Int)<=cg;omega,?_,by rw [<-hr,bJ (ek:=ab) lQ];rfl⟩
   show (out++(nth ab (aE B' (cK A')) i)++lT (nQ n3 i-(nth ab (aE B' (cK A')) i).size)).size<=3000000*(i+1)
   rw [ZB4,ZB4];omega
  ·show cg.toNat-(i+1)<cg.toNat-i;omega
 ·have e:jZ B' A'=out:=by rw [<-hr,ZB3 (by have:=aD (p:=(i:Int)<cg) w6;omega)];rfl
  refine⟨[],[],_,_,_,ζ,aC,(),aa,?_,?_,ζ⟩
  ·(show _=xG B' A');unfold xG;first|(rw [e];rfl)|rfl
  ·rfl
def XM {size:Int}:∀{l:List ByteArray}{k:Nat}{out:ByteArray},(∀x∈l,x.size<=1000000)->(txF size l k out).size<=out.size+1000012*l.length
 |[],k,out,_=>ZB0 _
 |x::l,k,out,h=>by
  have h1:=XM (size:=size) (l:=l) (k:=k+1) (out:=out++x++lT (nQ size k-x.size)) λy hy=>h y (by simp [hy])
  have h2:=h x (by simp)
  rw [ZB4,ZB4,mh] at h1
  have h3:nQ size k<=12:=by unfold nQ;omega
  rw [txF,ZA1];omega
def LN {s:ay}{n:dN}(hs:s.rd) (hn:n.fok):(jZ s n).size<=16000200:=by
 have h:=XM (size:=n.2.2.1) (k:=0) (out:=⟨#[]⟩) (nX (s:=s) (t:=cK n) hs)
 rw [eV hn.ok] at h
 have:=hn.ok.m1
 show (txF _ _ _ _).size<=_
 rw [show (⟨#[]⟩:ByteArray).size=0 from rfl] at h
 omega
def ahc:∀{f:Nat}{s:ByteArray},(zrF f s).size<=s.size
 |0,s=>ZB0 _
 |f+1,s=>by
  cases h:zrB s with
  |true=>
   rw [amb h]
   have:=ahc (f:=f) (s:=s.extract 0 ((s.size:Int)-1).toNat)
   rw [ZC2] at this;omega
  |false=>rw [ahd h];exact ZB0 _
abbrev fp (text:ByteArray) (k:Int):ByteArray:=zrM (text.extract (k*12).toNat (min (text.size:Int) ((k+1)*12)).toNat)
def sE:Nat->Int->ay->bf->ByteArray->ay×bf×Bool
 |0,_,s,t,_=>(s,t,true)
 |f+1,k,s,t,text=>bif !(aP s t k (fp text k)).2.2 then ((aP s t k (fp text k)).1,t,false) else sE f (k+1) (aP s t k (fp text k)).1 (aP s t k (fp text k)).2.1 text
def ab1 {f:Nat}{k:Int}{s:ay}{t:bf}{text:ByteArray}(h:(aP s t k (fp text k)).2.2=false):sE (f+1) k s t text=((aP s t k (fp text k)).1,t,false):=by rw [sE,h];rfl
def ab0 {f:Nat}{k:Int}{s:ay}{t:bf}{text:ByteArray}(h:(aP s t k (fp text k)).2.2=true):sE (f+1) k s t text=sE f (k+1) (aP s t k (fp text k)).1 (aP s t k (fp text k)).2.1 text:=by rw [sE,h];rfl
def DX (s:ay) (n:dN) (text:ByteArray) (fr to:Int):ay×dN×Bool:=
 ((sE (to+1-fr).toNat fr s (cK n) text).1,lq n text.size (sE (to+1-fr).toNat fr s (cK n) text).2.1,(sE (to+1-fr).toNat fr s (cK n) text).2.2)
def aeg {s u:ay}{n:dN}{t:bf}{text:ByteArray}{fr to:Int}{b:Bool}(h:sE (to+1-fr).toNat fr s (cK n) text=(u,t,b)):DX s n text fr to=(u,lq n text.size t,b):=by unfold DX;rw [h]
def vK (S:ay) (n:dN) (text:ByteArray) (fr:Int) (to:Int):Prop:=S.wg 1045000/\(cK n).ok/\0<=fr/\to<=15/\fr<=to+1/\to*12<=text.size/\text.size<=100000000
def rh (S:ay) (n:dN) (text:ByteArray) (fr:Int) (to:Int):AV:=.t [.a (nH 0 1 2 5 6 (DX S n text fr to).1),ndA (DX S n text fr to).2.1,.s (.q (DX S n text fr to).2.2)]
def ux (S:ay) (n:dN) (text:ByteArray) (fr:Int) (to:Int):List AV:=[.rs ab (DX S n text fr to).1.rows,.rs ag (DX S n text fr to).1.refs,.rs ag (DX S n text fr to).1.last,.zz,.zz,.rs ae (DX S n text fr to).1.gone,.rs ae (DX S n text fr to).1.dead]
def yO:cu where
 A:=[.a (stB 0 1 2 3 4),.a [.int,.int,.int,.int,.int,.int,.int,.int,.int,.int],.s .str,.s .int,.s .int]
 B:=[.r ab,.r ag,.r ag,.r ae,.r ae]
 pre:=λx b=>stW x.1 b/\vK (iE x.1 b) (x.2.1) (x.2.2.1) (x.2.2.2.1) (x.2.2.2.2)
 r:=λx b _=>rh (iE x.1 b) (x.2.1) (x.2.2.1) (x.2.2.2.1) (x.2.2.2.2)
 o:=λx b _=>ux (iE x.1 b) (x.2.1) (x.2.2.1) (x.2.2.2.1) (x.2.2.2.2)
 nf:=2
 mv:=true
def aat:Has Tryz.prog 165 yO:=by
 refine Has.ofZ zT zF zF (l:=[(186,yQ),(24,fM)]) ⟨aav,oZ,aa⟩ Tryz.func165 ?_
 rintro⟨⟨(C7:Nat),(C6:Nat),(C5:Nat),(ao:Int),(C4:Nat),(aq:Int),(C3:Nat),(ar:Bool)⟩,⟨(n1:Int),(n2:Int),(n3:Int),(n4:Int),(n5:Int),(n6:Int),(n7:Int),(n8:Int),(n9:Int),(cg:Int)⟩,(text:ByteArray),(fr:Int),(to:Int)⟩ ⟨(aj:List ByteArray),(ak:List Int),(an:List Int),(ah:List Pt),(ai:List Pt)⟩ ⟨⟨(gR:C7=List.length aj),(gQ:C6=List.length ak),(gP:C5=List.length an),(gO:C4=List.length ah),(gN:C3=List.length ai)⟩,(hp:vK (aj,ak,an,ao,ah,aq,ai,ar) (n1,n2,n3,n4,n5,n6,n7,n8,n9,cg) text fr to)⟩
 subst gR gQ gP gO gN
 show vc _ _ _ _ (entry [.a [.xs 0 1 0 aj.length,.xs 1 1 0 ak.length,.xs 2 1 0 an.length,.int ao,.xs 3 5 0 ah.length,.int aq,.xs 4 5 0 ai.length,.q ar],.a [.int n1,.int n2,.int n3,.int n4,.int n5,.int n6,.int n7,.int n8,.int n9,.int cg],.str text,.int fr,.int to] [.rs ab aj,.rs ag ak,.rs ag an,.rs ae ah,.rs ae ai]) _
 let A':=(n1,n2,n3,n4,n5,n6,n7,n8,n9,cg)
 let B':=(aj,ak,an,ao,ah,aq,ai,ar)
 obtain⟨lf,cn,hf0,asa,hft,htt,hts⟩:=hp
 have lf:ay.wg B' 1045000:=lf
 have cn:bf.ok (cK A'):=cn
 refine ?_
 all_goals first|refine aw ?_|refine ax ?_|exact bb|(dsimp only [yQ,rG,fM,ij,iE];omega)|exact ba|skip
 refine df (l:=[(186,yQ),(24,fM)]) (ex:=zT) (wr:=zF) (pt:=zF) ⟨aav,oZ,aa⟩ [.s 2,.s 4,.s 5,.s 6,.s 10,.s 11,.b 1010,.b 1011] (λy:Int×ay×bf=>[(.s 13,.int y.1),(.b 1005,.a (nH 0 1 2 1000000001 1000000002 y.2.1)),(.b 0,.rs ab y.2.1.rows),(.b 1,.rs ag y.2.1.refs),(.b 2,.rs ag y.2.1.last),(.b 1000000001,.rs ae y.2.1.gone),(.b 1000000002,.rs ae y.2.1.dead),(.b 1006,.a [.int n1,.int n2,.int text.size,.int y.2.2.1,.int y.2.2.2.1,.int y.2.2.2.2.1,.int y.2.2.2.2.2.1,.int y.2.2.2.2.2.2.1,.int y.2.2.2.2.2.2.2.1,.int y.2.2.2.2.2.2.2.2])]) (λy=>(0<=y.1/\y.1<=to+1)/\y.2.1.wg (1045000+6*y.1.toNat)/\y.2.2.ok/\sE (to+1-y.1).toNat y.1 y.2.1 y.2.2 text=sE (to+1-fr).toNat fr B' (cK A') text) (λy=>(to+1-y.1).toNat) (fr,B',cK A') [(1000000001,3),(1000000002,4)] ⟨⟨hf0,hft⟩,lf.mono (ZD9 _ _),cn,rfl⟩ dP ?_
 rintro⟨k,u,tt⟩ ⟨⟨(hk0:0<=k),(hk1:k<=to+1)⟩,(hu:u.wg (1045000+6*k.toNat)),(ht:tt.ok),(hr:sE (to+1-k).toNat k u tt text=sE (to+1-fr).toNat fr B' (cK A') text)⟩
 have hle:decide (k<=to)=true->k<=to:=λh=>aF h
 have hpo:=λh:k<=15=>lL (k:=k) (text:=fp text k) hu ht hk0 h
 have hg:=hu.g
 have hd:=hu.d
 have hx:(text.extract (k*12).toNat (min (text.size:Int) ((k+1)*12)).toNat).size<=1000000:=by rw [ZC2];omega
 refine⟨λw1=>⟨⟨?_,?_⟩,⟨?_,?_⟩,[.s 5,.b 1005],Sq34,ζ,Sq6,Sq35,ζ,[.s 35,.b 1006],Sq36,ζ,Sq13,Sq37,ζ,Sq2,Sq38,ζ,Sq13,Sq39,ζ,Sq39,Sq40,ζ,⟨?_,?_⟩,Sq14,Sq41,ζ,[.s 38,.s 40,.s 41],Sq42,ζ,⟨?_,?_,?_⟩,Sq42,Sq43,ζ,⟨tv2,?_⟩,?_,λx2 w3=>⟨[.s 34,.s 36,.s 37,.s 43,.b 0,.b 1,.b 2,.b 1000000001,.b 1000000002,.b 1000450001,.b 1000450000],[.s 44,.b 0,.b 1,.b 2,.b 1000000001,.b 1000000002,.b 1000450000,.b 1000450001],ζ,⟨⟨tv9,tv8,tv3⟩,⟨?_,?_,?_,?_,?_⟩,?_,?_,?_,?_,?_,?_,?_,?_⟩,?_,λ|false=>λw4=>⟨Sq44,Sq33,ζ,Sq33,Sq45,ζ,Sq33,Sq46,ζ,Sq33,Sq47,ζ,[.b 1015],[.s 15,.b 1015],ζ,[.b 1016],[.s 16,.b 1016],ζ,[.s 15,.s 45,.b 1015],[.b 1015],ζ,[.s 16,.s 46,.b 1016],[.b 1016],ζ,Sq47,Sq17,ζ,λw5=>⟨[.s 5,.b 1005],Sq50,ζ,[.s 6,.b 1006],Sq51,ζ,[.s 10,.s 50,.b 1010],[.b 1010],ζ,[.s 11,.s 51,.b 1011],[.b 1011],ζ,[],Sq12,ζ,?_⟩,λw6=>⟨⟨?_,?_⟩,?_⟩⟩ |true=>λw7=>⟨Sq44,Sq33,ζ,Sq33,Sq45,ζ,Sq33,Sq46,ζ,Sq33,Sq47,ζ,[.b 1015],[.s 15,.b 1015],ζ,[.b 1016],[.s 16,.b 1016],ζ,[.s 15,.s 45,.b 1015],[.b 1015],ζ,[.s 16,.s 46,.b 1016],[.b 1016],ζ,Sq47,Sq17,ζ,λw8=>⟨[.s 5,.b 1005],Sq50,ζ,[.s 6,.b 1006],Sq51,ζ,[.s 10,.s 50,.b 1010],[.b 1010],ζ,[.s 11,.s 51,.b 1011],[.b 1011],ζ,[],Sq12,ζ,?_⟩,λw9=>⟨⟨?_,?_⟩,?_⟩⟩⟩⟩,λdB=>⟨[.s 5,.b 1005],Sq55,ζ,[.s 6,.b 1006],Sq56,ζ,[.s 10,.s 55,.b 1010],[.b 1010],ζ,[.s 11,.s 56,.b 1011],[.b 1011],ζ,[],Sq12,ζ,?_⟩⟩
 all_goals first|refine aw ?_|refine ax ?_|exact bb|(dsimp only [yQ,rG,fM,ij,iE];omega)|exact ba|exact hu.wf|exact ht.rd|exact ht.m1|exact ZA9 hg (by have:=hle w1;omega)|exact ZA9 hd (by have:=hle w1;omega)|exact⟨_,rfl⟩|(have:=hle w1;omega)|skip
 ·exact hx
 ·exact ZA9 ahc hx
 ·have hk:=hle w1
  have hz:(aP u tt k (fp text k)).2.2=false:=(show false=(aP u tt k (fp text k)).2.2 from w4).symm
  have J5:=(hpo (by omega)).2.2 hz
  have e0:sE (to+1-fr).toNat fr B' (cK A') text=((aP u tt k (fp text k)).1,tt,false):=by rw [<-hr,show (to+1-k).toNat=(to-k).toNat+1 by omega,ab1 hz]
  have e:=aeg e0
  refine⟨[1000000001,1000000002],[],_,_,_,ζ,aC,(),0,aa,?_,?_,ζ⟩
  ·(show _=rh B' A' text fr to);unfold rh;first|(rw [e];rfl)|(rw [e];exact congrArg (λx=>AV.t [A0.a x,ndA (lq A' text.size tt),A0.s (SV.q false)]) (mM (b0:=0) (b1:=1) (b2:=2) (b3:=5) (b4:=6) J5 hu.wf))|(rw [e];have h3:=J5.gone;have h4:=J5.dead;exact congr (congrArg (λ(a b:List Pt)=>[AV.rs ab (aP u tt k (fp text k)).1.rows,AV.rs ag (aP u tt k (fp text k)).1.refs,AV.rs ag (aP u tt k (fp text k)).1.last,AV.zz,AV.zz,AV.rs ae a,AV.rs ae b]) h3.symm) h4.symm)|rfl
  ·(show _=ux B' A' text fr to);unfold ux;first|(rw [e];rfl)|(rw [e];exact congrArg (λx=>AV.t [A0.a x,ndA (lq A' text.size tt),A0.s (SV.q false)]) (mM (b0:=0) (b1:=1) (b2:=2) (b3:=5) (b4:=6) J5 hu.wf))|(rw [e];have h3:=J5.gone;have h4:=J5.dead;exact congr (congrArg (λ(a b:List Pt)=>[AV.rs ab (aP u tt k (fp text k)).1.rows,AV.rs ag (aP u tt k (fp text k)).1.refs,AV.rs ag (aP u tt k (fp text k)).1.last,AV.zz,AV.zz,AV.rs ae a,AV.rs ae b]) h3.symm) h4.symm)|rfl
 ·exact absurd (show true=false from w6) Bool.noConfusion
 ·exact absurd (show false=true from w8) Bool.noConfusion
 ·have hk:=hle w1
  have hz:(aP u tt k (fp text k)).2.2=true:=(show true=(aP u tt k (fp text k)).2.2 from w7).symm
  have h2:=hpo (by omega)
  refine⟨(k+1,(aP u tt k (fp text k)).1,(aP u tt k (fp text k)).2.1),[(1000000001,1000450000),(1000000002,1000450001)],?_,?_,?_⟩
  rotate_right
  ·exact bY
  ·refine⟨⟨by show 0<=k+1;omega,by show k+1<=to+1;omega⟩,h2.1.mono (by show 1045000+6*k.toNat+6<=1045000+6*(k+1).toNat;omega),h2.2.1,?_⟩
   show sE (to+1-(k+1)).toNat (k+1) (aP u tt k (fp text k)).1 (aP u tt k (fp text k)).2.1 text=_
   rw [<-hr,show (to+1-k).toNat=(to+1-(k+1)).toNat+1 by omega,ab0 hz]
  ·show (to+1-(k+1)).toNat<(to+1-k).toNat;omega
 ·have wZ:¬k<=to:=aD (p:=k<=to) dB
  have e0:sE (to+1-fr).toNat fr B' (cK A') text=(u,tt,true):=by rw [<-hr,show (to+1-k).toNat=0 by omega];rfl
  have e:=aeg e0
  refine⟨[1000000001,1000000002],[],_,_,_,ζ,aC,(),0,aa,?_,?_,ζ⟩
  ·(show _=rh B' A' text fr to);unfold rh;first|(rw [e];rfl)|rfl
  ·(show _=ux B' A' text fr to);unfold ux;first|(rw [e];rfl)|rfl
end GL
namespace GL
def X6 {α:Type}(l:List α):(l.drop 0).take l.length=l:=by simp
def bU (s:ay) (n:dN):List fO×Bool:=
 bif !(cx n)||(decide (n.1≠2)|| !(iX s (cK n))) then ([],false) else
 bif !(dI s (cK n)).2||decide (((dI s (cK n)).1.size:Int)≠n.2.2.1) then ([],false) else dj (dI s (cK n)).1
def aj3 {s:ay}{n:dN}(h:(!(cx n))=true):bU s n=([],false):=by unfold bU;rw [h];rfl
def aj2 {s:ay}{n:dN}(h:decide (n.1≠2)=true):bU s n=([],false):=by unfold bU;rw [h,Bool.true_or,ZC7];rfl
def aj1 {s:ay}{n:dN}(h:(!(iX s (cK n)))=true):bU s n=([],false):=by unfold bU;rw [h,ZC7,ZC7];rfl
theorem aj0 {s:ay}{n:dN}(h:(!(dI s (cK n)).2)=true):bU s n=([],false):=by
 unfold bU
 cases !(cx n)||(decide (n.1≠2)|| !(iX s (cK n))) with
 |true=>rfl
 |false=>rw [h];rfl
theorem ajZ {s:ay}{n:dN}(h:decide (((dI s (cK n)).1.size:Int)≠n.2.2.1)=true):bU s n=([],false):=by
 unfold bU
 cases !(cx n)||(decide (n.1≠2)|| !(iX s (cK n))) with
 |true=>rfl
 |false=>rw [h,ZC7];rfl
def ajY {s:ay}{n:dN}(h1:(!(cx n))=false) (h2:decide (n.1≠2)=false) (h3:(!(iX s (cK n)))=false) (h4:(!(dI s (cK n)).2)=false) (h5:decide (((dI s (cK n)).1.size:Int)≠n.2.2.1)=false):bU s n=dj (dI s (cK n)).1:=by
 unfold bU;rw [h1,h2,h3,h4,h5];rfl
def j7 (S:ay) (n:dN):Prop:=S.rd
def du (S:ay) (n:dN):AV:=.t [.s (.vw aO (bU S n).1),.s (.q (bU S n).2)]
def QT (S:ay) (n:dN):List AV:=[]
def jy:cu where
 A:=[.a vj,.a [.int,.int,.int,.int,.int,.int,.int,.int,.int,.int]]
 B:=[]
 pre:=λx b=>j7 (x.1) (x.2)
 r:=λx b _=>du (x.1) (x.2)
 o:=λx b _=>QT (x.1) (x.2)
def we:Has Tryz.prog 154 jy:=by
 refine Has.fP zT zF zF (l:=[(68,ss),(63,CQ),(181,WY),(182,wM)]) ⟨OP,acL,alp,WD,aa⟩ Tryz.func154 ?_
 rintro⟨⟨(aj:List ByteArray),(ak:List Int),(an:List Int),(ao:Int),(ah:List Pt),(aq:Int),(ai:List Pt),(ar:Bool)⟩,⟨(n1:Int),(n2:Int),(n3:Int),(n4:Int),(n5:Int),(n6:Int),(n7:Int),(n8:Int),(n9:Int),(cg:Int)⟩⟩ _ (hp:j7 (aj,ak,an,ao,ah,aq,ai,ar) (n1,n2,n3,n4,n5,n6,n7,n8,n9,cg))
 show vc _ _ _ _ (entry [.a [.vz ab aj,.vz ag ak,.vz ag an,.int ao,.vz ae ah,.int aq,.vz ae ai,.q ar],.a [.int n1,.int n2,.int n3,.int n4,.int n5,.int n6,.int n7,.int n8,.int n9,.int cg]] []) _
 let A':=(n1,n2,n3,n4,n5,n6,n7,n8,n9,cg)
 let B':=(aj,ak,an,ao,ah,aq,ai,ar)
 have dM:ay.rd B':=hp
 have qg:(!(cx A'))=false->bf.ok (cK A'):=λh=>pK (cr h)
 have db:(!(cx A'))=false->n3<=2048:=λh=>(il (cr h)).2.2.1.2
 refine⟨⟨⟨tv11,aa⟩,aa⟩,λx1 w2=>⟨aa,λw3=>⟨aa,?_⟩,λw4=>⟨aa,λw5=>⟨aa,?_⟩,λw6=>⟨⟨⟨tv9,tv8,aa⟩,?_⟩,λx7 w8=>⟨λw9=>⟨aa,?_⟩,λdB=>⟨⟨⟨tv9,tv8,aa⟩,?_,?_⟩,λlJ dW=>⟨aa,λiL=>⟨aa,?_⟩,λgY=>⟨λnG=>⟨aa,?_⟩,λkC=>⟨⟨tv2,?_⟩,λx17 qU=>?_⟩⟩⟩⟩⟩⟩⟩⟩⟩
 all_goals first|refine aw ?_|refine ax ?_|exact bb|(dsimp only [ss,rK,CQ,xS,WY,G2,wM,ni];omega)|exact ba|exact dM|exact qg w4|skip
 ·refine⟨[],[],_,_,_,ζ,bZ,(),aa,?_,?_,ζ⟩
  ·(show _=du B' A');unfold du;first|(rw [aj3 (s:=B') (n:=A') w3];rfl)|rfl
  ·rfl
 ·refine⟨[],[],_,_,_,ζ,bZ,(),aa,?_,?_,ζ⟩
  ·(show _=du B' A');unfold du;first|(rw [aj2 (s:=B') (n:=A') w5];rfl)|rfl
  ·rfl
 ·refine⟨[],[],_,_,_,ζ,bZ,(),aa,?_,?_,ζ⟩
  ·(show _=du B' A');unfold du;first|(rw [aj1 (s:=B') (n:=A') w9];rfl)|rfl
  ·rfl
 ·refine⟨[],[],_,_,_,ζ,bZ,(),aa,?_,?_,ζ⟩
  ·(show _=du B' A');unfold du;first|(rw [aj0 (s:=B') (n:=A') iL];rfl)|rfl
  ·rfl
 ·refine⟨[],[],_,_,_,ζ,bZ,(),aa,?_,?_,ζ⟩
  ·(show _=du B' A');unfold du;first|(rw [ajZ (s:=B') (n:=A') nG];rfl)|rfl
  ·rfl
 ·have h5:=aD (p:=((dI B' (cK A')).1.size:Int)≠n3) kC
  have:=db w4
  show (dI B' (cK A')).1.size<=1000000;omega
 ·have e:=ajY (s:=B') (n:=A') w4 w6 dB gY kC
  refine⟨[],[],_,_,_,ζ,bZ,(),aa,?_,?_,ζ⟩
  ·(show _=du B' A');unfold du;first|(rw [e];exact congrArg (λx=>AV.t [A0.s (SV.vw aO x),A0.s (SV.q (dj (dI B' (cK A')).1).2)]) (X6 (dj (dI B' (cK A')).1).1))|rfl
  ·rfl
def hZ (s:ay) (t:bf):List dN:=(aE s t).map λx=>(aG x).1
def vI (S:ay) (t:bf):Prop:=S.rd/\t.ok
def vn (S:ay) (t:bf):AV:=.s (.vw gf (hZ S t))
def ZE (S:ay) (t:bf):List AV:=[]
def CR:cu where
 A:=[.a vj,.a [.int,.int,.int,.int,.int,.int,.int]]
 B:=[]
 pre:=λx b=>vI (x.1) (x.2)
 r:=λx b _=>vn (x.1) (x.2)
 o:=λx b _=>ZE (x.1) (x.2)
def acM:Has Tryz.prog 26 CR:=by
 refine Has.fP zT zF zF (l:=[(33,cD),(34,fC)]) ⟨gb,oB,aa⟩ Tryz.func26 ?_
 rintro⟨⟨(aj:List ByteArray),(ak:List Int),(an:List Int),(ao:Int),(ah:List Pt),(aq:Int),(ai:List Pt),(ar:Bool)⟩,⟨(t1:Int),(t2:Int),(t3:Int),(t4:Int),(t5:Int),(t6:Int),(t7:Int)⟩⟩ _ (hp:vI (aj,ak,an,ao,ah,aq,ai,ar) (t1,t2,t3,t4,t5,t6,t7))
 show vc _ _ _ _ (entry [.a [.vz ab aj,.vz ag ak,.vz ag an,.int ao,.vz ae ah,.int aq,.vz ae ai,.q ar],.a [.int t1,.int t2,.int t3,.int t4,.int t5,.int t6,.int t7]] []) _
 let A':=(aj,ak,an,ao,ah,aq,ai,ar)
 let B':=(t1,t2,t3,t4,t5,t6,t7)
 obtain⟨dM,cn⟩:=hp
 have dM:ay.rd A':=dM
 have cn:bf.ok B':=cn
 have h1:t7<=16:=cn.m1
 have hl:(aE A' B').length=t7.toNat:=eV cn
 refine⟨aa,⟨⟨tv9,tv8,aa⟩,?_,?_,?_,?_⟩,λx1 w2=>?_⟩
 all_goals first|refine aw ?_|refine ax ?_|exact bb|(dsimp only [cD,dL,fC,gv];omega)|exact ba|exact dM|exact cn.rd|exact cn.m0|exact cn.m1|skip
 refine df (l:=[(33,cD),(34,fC)]) (ex:=zT) (wr:=zF) (pt:=zF) ⟨gb,oB,aa⟩ [.s 2,.s 3,.b 1002,.b 1003,.s 6,.b 140000] (λy:Nat×List dN=>[(.s 5,.s (.xs 1010 10 0 y.2.length)),(.s 7,.int y.1),(.b 1010,.rs gf y.2)]) (λy=>y.1<=(aE A' B').length/\y.2=((aE A' B').take y.1).map λx=>(aG x).1) (λy=>(aE A' B').length-y.1) (0,[]) [] ⟨ZA7 _,rfl⟩ dP ?_
 rintro⟨i,out⟩ ⟨(hi:i<=(aE A' B').length),(he:out=((aE A' B').take i).map λx=>(aG x).1)⟩
 have bR:decide ((i:Int)<((aE A' B').length:Int))=true->i<(aE A' B').length:=λh=>by have:=aF h;omega
 have db:=HI (nX (s:=A') (t:=B') dM) i
 have hlo:out.length=i:=by rw [he,ZH3,ZB6];omega
 refine⟨λw1=>⟨⟨?_,?_⟩,?_,⟨tv2,?_⟩,λx2 w3=>⟨aa,⟨⟨?_,?_⟩,?_,?_⟩,⟨?_,?_⟩,?_⟩⟩,λw4=>?_⟩
 all_goals first|refine aw ?_|refine ax ?_|exact bb|(dsimp only [cD,dL,fC,gv];omega)|exact ba|exact bR w1|exact db|(show (i:Int)<((aE A' B').length:Int);have:=bR w1;omega)|skip
 ·have lQ:=bR w1
  refine⟨(i+1,out++[(aG (nth ab (aE A' B') i)).1]),[(1010,1031)],?_,?_,?_⟩
  rotate_right
  ·exact bY
  ·refine⟨lQ,?_⟩
   show out++[_]=((aE A' B').take (i+1)).map λx=>(aG x).1
   rw [List.take_add_one,show (aE A' B')[i]?=some (nth ab (aE A' B') i) from qe (ek:=ab) lQ,he]
   simp
  ·show (aE A' B').length-(i+1)<(aE A' B').length-i;omega
 ·have e:hZ A' B'=out:=by rw [he,ZC4 (by have:=aD (p:=(i:Int)<((aE A' B').length:Int)) (by assumption);omega)];rfl
  refine⟨[],[],_,_,_,ζ,bZ,(),aa,?_,?_,ζ⟩
  ·(show _=vn A' B');unfold vn;first|(rw [e];exact congrArg (λx=>AV.s (SV.vw gf x)) (X6 out))|rfl
  ·rfl
def J7 (s:ay) (t:bf):List ByteArray->Int->Int
 |[],k=>k
 |x::l,k=>bif !(bU s (cW s t k).1).2||decide (mI (bU s (cW s t k).1).1 x<0) then -1 else J7 s t l (nth aO (bU s (cW s t k).1).1 (mI (bU s (cW s t k).1).1 x).toNat).2
def aeK {s:ay}{t:bf}{x:ByteArray}{l:List ByteArray}{k:Int}(h:(!(bU s (cW s t k).1).2)=true):J7 s t (x::l) k= -1:=by rw [J7,h];rfl
def aeJ {s:ay}{t:bf}{x:ByteArray}{l:List ByteArray}{k:Int}(h:decide (mI (bU s (cW s t k).1).1 x<0)=true):J7 s t (x::l) k= -1:=by rw [J7,h,ZC7];rfl
def S1 {s:ay}{t:bf}{x:ByteArray}{l:List ByteArray}{k:Int}(h:(!(bU s (cW s t k).1).2)=false) (h2:decide (mI (bU s (cW s t k).1).1 x<0)=false):J7 s t (x::l) k=J7 s t l (nth aO (bU s (cW s t k).1).1 (mI (bU s (cW s t k).1).1 x).toNat).2:=by rw [J7,h,h2];rfl
def xl (s:ay) (t:bf) (l:List ByteArray):Int:=J7 s t l 0
def akK:∀{f:Nat}{l:List fO}{i:Nat}{name:ByteArray},i+f=l.length->0<=atF f l i name->(i:Int)<=atF f l i name/\atF f l i name<l.length/\(nth aO l (atF f l i name).toNat).1=name
 |0,l,i,name,_,h=>absurd (show (0:Int)<=-1 from h) (by decide)
 |f+1,l,i,name,hf,h=>by
  cases hd:decide ((nth aO l i).1=name) with
  |true=>rw [amL hd];exact⟨ZC1 _,by omega,by rw [ZA5];exact aF hd⟩
  |false=>
   rw [amM hd] at h ⊢
   have:=akK (f:=f) (i:=i+1) (by omega) h
   exact⟨by omega,this.2⟩
def C1 {l:List fO}{name:ByteArray}(h:0<=mI l name):mI l name<l.length/\(nth aO l (mI l name).toNat).1=name:=(akK (ZA6 _) h).2
def K0 (s:ay) (n:dN):(bU s n).1.length<=12/\∀e∈(bU s n).1,gr e.1=true/\1<=e.2/\e.2<=15:=by
 have h0:([]:List fO).length<=12/\∀e∈([]:List fO),gr e.1=true/\1<=e.2/\e.2<=15:=⟨ZA7 _,λe h=>absurd h ZF6⟩
 unfold bU
 cases !(cx n)||(decide (n.1≠2)|| !(iX s (cK n))) with
 |true=>exact h0
 |false=>cases !(dI s (cK n)).2||decide (((dI s (cK n)).1.size:Int)≠n.2.2.1) with
  |true=>exact h0
  |false=>
   show (dj _).1.length<=12/\∀e∈(dj _).1,_
   generalize (dI s (cK n)).1=x
   cases he:egF ((bz x 59).length) (bz x 59) 0 [] with
   |none=>rw [AL he];exact h0
   |some o=>
    rw [o6 he]
    cases h1: !(fh o) with
    |true=>rw [ae1 h1];exact h0
    |false=>cases h2:decide (eS o≠x) with
     |true=>rw [ae0 h2];exact h0
     |false=>rw [ae2 h1 h2];exact AK (cr h1)
def sP (S:ay) (t:bf) (l:List ByteArray):Prop:=S.rd/\t.ok/\l.length<=1000000
def j0 (S:ay) (t:bf) (l:List ByteArray):AV:=.s (.int (xl S t l))
def ab9 (S:ay) (t:bf) (l:List ByteArray):List AV:=[]
def uR:cu where
 A:=[.a vj,.a [.int,.int,.int,.int,.int,.int,.int],.s (.vz ab)]
 B:=[]
 pre:=λx b=>sP (x.1) (x.2.1) (x.2.2)
 r:=λx b _=>j0 (x.1) (x.2.1) (x.2.2)
 o:=λx b _=>ab9 (x.1) (x.2.1) (x.2.2)
def SG:Has Tryz.prog 157 uR:=by
 refine Has.fP zT zF zF (l:=[(158,kr),(154,jy),(126,qA)]) ⟨yq,we,KP,aa⟩ Tryz.func157 ?_
 rintro⟨⟨(aj:List ByteArray),(ak:List Int),(an:List Int),(ao:Int),(ah:List Pt),(aq:Int),(ai:List Pt),(ar:Bool)⟩,⟨(t1:Int),(t2:Int),(t3:Int),(t4:Int),(t5:Int),(t6:Int),(t7:Int)⟩,(l:List ByteArray)⟩ _ (hp:sP (aj,ak,an,ao,ah,aq,ai,ar) (t1,t2,t3,t4,t5,t6,t7) l)
 show vc _ _ _ _ (entry [.a [.vz ab aj,.vz ag ak,.vz ag an,.int ao,.vz ae ah,.int aq,.vz ae ai,.q ar],.a [.int t1,.int t2,.int t3,.int t4,.int t5,.int t6,.int t7],.s (.vz ab l)] []) _
 let A':=(aj,ak,an,ao,ah,aq,ai,ar)
 let B':=(t1,t2,t3,t4,t5,t6,t7)
 obtain⟨dM,cn,hlen⟩:=hp
 have dM:ay.rd A':=dM
 have cn:bf.ok B':=cn
 refine ?_
 all_goals first|refine aw ?_|refine ax ?_|exact bb|(dsimp only [kr,lW,jy,j7,qA,qF];omega)|exact ba|skip
 refine df (l:=[(158,kr),(154,jy),(126,qA)]) (ex:=zT) (wr:=zF) (pt:=zF) ⟨yq,we,KP,aa⟩ [.s 2,.s 3,.s 4,.b 1003,.b 1004] (λy:Nat×Int=>[(.s 7,.int y.2),(.s 8,.int y.1)]) (λy=>y.1<=l.length/\J7 A' B' (l.drop y.1) y.2=xl A' B' l) (λy=>l.length-y.1) (0,0) [] ⟨ZA7 _,rfl⟩ dP ?_
 rintro⟨i,k⟩ ⟨(hi:i<=l.length),(hr:J7 A' B' (l.drop i) k=xl A' B' l)⟩
 have bR:decide ((i:Int)<(l.length:Int))=true->i<l.length:=λh=>by have:=aF h;omega
 have heb:=K0 A' (cW A' B' k).1
 refine⟨λw1=>⟨⟨⟨tv9,tv8,tv2⟩,?_,?_⟩,λx2 w3=>⟨⟨⟨tv9,tv11,aa⟩,?_⟩,λx4 w5=>⟨⟨?_,?_⟩,⟨tv3,?_⟩,λx6 w7=>⟨aa,λw8=>?_,λw9=>⟨λdB=>?_,λiP=>⟨⟨?_,?_⟩,⟨?_,?_⟩,?_⟩⟩⟩⟩⟩⟩,λdW=>?_⟩
 all_goals first|refine aw ?_|refine ax ?_|exact bb|(dsimp only [kr,lW,jy,j7,qA,qF];omega)|exact ba|exact bR w1|exact dM|exact cn|exact ZA9 heb.1 (by decide)|skip
 ·have lQ:=bR w1
  have e:xl A' B' l= -1:=by rw [<-hr,bJ (ek:=ab) lQ,aeK (show (!(bU A' (cW A' B' k).1).2)=true from w8)]
  refine⟨[],[],_,_,_,ζ,aC,(),aa,?_,?_,ζ⟩
  ·(show _=j0 A' B' l);unfold j0;first|(rw [e];rfl)|rfl
  ·rfl
 ·have lQ:=bR w1
  have e:xl A' B' l= -1:=by rw [<-hr,bJ (ek:=ab) lQ,aeJ (show decide (mI (bU A' (cW A' B' k).1).1 (nth ab l i)<0)=true from dB)]
  refine⟨[],[],_,_,_,ζ,aC,(),aa,?_,?_,ζ⟩
  ·(show _=j0 A' B' l);unfold j0;first|(rw [e];rfl)|rfl
  ·rfl
 ·have h0:=aD (show decide (mI (bU A' (cW A' B' k).1).1 (nth ab l i)<0)=false from iP)
  show 0<=mI (bU A' (cW A' B' k).1).1 (nth ab l i);omega
 ·have h0:=aD (show decide (mI (bU A' (cW A' B' k).1).1 (nth ab l i)<0)=false from iP)
  exact (C1 (l:=(bU A' (cW A' B' k).1).1) (name:=nth ab l i) (by omega)).1
 ·have lQ:=bR w1
  refine⟨(i+1,(nth aO (bU A' (cW A' B' k).1).1 (mI (bU A' (cW A' B' k).1).1 (nth ab l i)).toNat).2),[],?_,?_,?_⟩
  rotate_right
  ·exact bY
  ·refine⟨lQ,?_⟩
   rw [<-hr,bJ (ek:=ab) lQ,S1 (show (!(bU A' (cW A' B' k).1).2)=false from w9) (show decide (mI (bU A' (cW A' B' k).1).1 (nth ab l i)<0)=false from iP)]
  ·show l.length-(i+1)<l.length-i;omega
 ·have e:xl A' B' l=k:=by rw [<-hr,ZB3 (by have:=aD (p:=(i:Int)<(l.length:Int)) dW;omega)];rfl
  refine⟨[],[],_,_,_,ζ,aC,(),aa,?_,?_,ζ⟩
  ·(show _=j0 A' B' l);unfold j0;first|(rw [e];rfl)|rfl
  ·rfl
end GL
namespace GL
abbrev ua (s:ay) (n:dN) (a:Int):ByteArray:=jZ s n++lT (a-(jZ s n).size)
abbrev abk (s:ay) (n:dN) (a:Int) (text:ByteArray):ByteArray:=(ua s n a).extract 0 a.toNat++text++(ua s n a).extract (min ((ua s n a).size:Int) (a+text.size)).toNat (ua s n a).size
def RC {s:ay}{n:dN}{a:Int}:(ua s n a).size=(jZ s n).size+(max 0 (a-(jZ s n).size)).toNat:=by rw [ZB4,mh]
def afk {s:ay}{n:dN}{a:Int}{text:ByteArray}(h:0<=a):a.toNat+text.size<=(abk s n a text).size/\(abk s n a text).size<=(ua s n a).size+text.size:=by
 have h1:=RC (s:=s) (n:=n) (a:=a)
 show _<=((ua s n a).extract 0 a.toNat++text++(ua s n a).extract (min ((ua s n a).size:Int) (a+text.size)).toNat (ua s n a).size).size/\((ua s n a).extract 0 a.toNat++text++(ua s n a).extract (min ((ua s n a).size:Int) (a+text.size)).toNat (ua s n a).size).size<=_
 rw [ZB4,ZB4,ZC2,ZC2]
 omega
def pb (s:ay) (n:dN) (a:Int) (text:ByteArray):ay×dN×Bool:=bif decide (text=⟨#[]⟩) then (s,n,true) else DX s n (abk s n a text) (a / 12) ((a+text.size-1) / 12)
def T8 {s:ay}{n:dN}{a:Int}{text:ByteArray}(h:decide (text=⟨#[]⟩)=true):pb s n a text=(s,n,true):=by unfold pb;rw [h];rfl
def T7 {s:ay}{n:dN}{a:Int}{text:ByteArray}(h:decide (text=⟨#[]⟩)=false):pb s n a text=DX s n (abk s n a text) (a / 12) ((a+text.size-1) / 12):=by unfold pb;rw [h];rfl
def vJ (S:ay) (n:dN) (at':Int) (text:ByteArray):Prop:=S.wg 1045000/\n.fok/\0<=at'/\at'+text.size<=192
def mS (S:ay) (n:dN) (at':Int) (text:ByteArray):AV:=.t [.a (nH 0 1 2 5 6 (pb S n at' text).1),ndA (pb S n at' text).2.1,.s (.q (pb S n at' text).2.2)]
def pH (S:ay) (n:dN) (at':Int) (text:ByteArray):List AV:=[.rs ab (pb S n at' text).1.rows,.rs ag (pb S n at' text).1.refs,.rs ag (pb S n at' text).1.last,.zz,.zz,.rs ae (pb S n at' text).1.gone,.rs ae (pb S n at' text).1.dead]
def CS:cu where
 A:=[.a (stB 0 1 2 3 4),.a [.int,.int,.int,.int,.int,.int,.int,.int,.int,.int],.s .int,.s .str]
 B:=[.r ab,.r ag,.r ag,.r ae,.r ae]
 pre:=λx b=>stW x.1 b/\vJ (iE x.1 b) (x.2.1) (x.2.2.1) (x.2.2.2)
 r:=λx b _=>mS (iE x.1 b) (x.2.1) (x.2.2.1) (x.2.2.2)
 o:=λx b _=>pH (iE x.1 b) (x.2.1) (x.2.2.1) (x.2.2.2)
 nf:=2
 mv:=true
def acN:Has Tryz.prog 129 CS:=by
 refine Has.ofZ zT zF zF (l:=[(163,uS),(164,jz),(165,yO)]) ⟨SH,wh,aat,aa⟩ Tryz.func129 ?_
 rintro⟨⟨(C7:Nat),(C6:Nat),(C5:Nat),(ao:Int),(C4:Nat),(aq:Int),(C3:Nat),(ar:Bool)⟩,⟨(n1:Int),(n2:Int),(n3:Int),(n4:Int),(n5:Int),(n6:Int),(n7:Int),(n8:Int),(n9:Int),(cg:Int)⟩,(at':Int),(text:ByteArray)⟩ ⟨(aj:List ByteArray),(ak:List Int),(an:List Int),(ah:List Pt),(ai:List Pt)⟩ ⟨⟨(gR:C7=List.length aj),(gQ:C6=List.length ak),(gP:C5=List.length an),(gO:C4=List.length ah),(gN:C3=List.length ai)⟩,(hp:vJ (aj,ak,an,ao,ah,aq,ai,ar) (n1,n2,n3,n4,n5,n6,n7,n8,n9,cg) at' text)⟩
 subst gR gQ gP gO gN
 show vc _ _ _ _ (entry [.a [.xs 0 1 0 aj.length,.xs 1 1 0 ak.length,.xs 2 1 0 an.length,.int ao,.xs 3 5 0 ah.length,.int aq,.xs 4 5 0 ai.length,.q ar],.a [.int n1,.int n2,.int n3,.int n4,.int n5,.int n6,.int n7,.int n8,.int n9,.int cg],.int at',.str text] [.rs ab aj,.rs ag ak,.rs ag an,.rs ae ah,.rs ae ai]) _
 obtain⟨lf,hf,ha0,ha1⟩:=hp
 have lf:ay.wg (aj,ak,an,ao,ah,aq,ai,ar) 1045000:=lf
 have hf:dN.fok (n1,n2,n3,n4,n5,n6,n7,n8,n9,cg):=hf
 have hts:=LN lf.wf.rd hf
 have h1:=RC (s:=(aj,ak,an,ao,ah,aq,ai,ar)) (n:=(n1,n2,n3,n4,n5,n6,n7,n8,n9,cg)) (a:=at')
 have h2:=afk (s:=(aj,ak,an,ao,ah,aq,ai,ar)) (n:=(n1,n2,n3,n4,n5,n6,n7,n8,n9,cg)) (a:=at') (text:=text) ha0
 have oC:decide (text=⟨#[]⟩)=false->1<=text.size:=λh=>size_pos (aD h)
 refine⟨λw1=>⟨[.s 4,.b 1004],Sq15,ζ,[.s 5,.b 1005],Sq16,ζ,[.s 8,.s 15,.b 1008],[.b 1008],ζ,[.s 9,.s 16,.b 1009],[.b 1009],ζ,[],Sq10,ζ,?_⟩,λw2=>⟨⟨⟨⟨⟨?_,?_⟩,⟨?_,?_⟩,⟨?_,?_⟩,aa,⟨?_,?_⟩,aa,⟨?_,?_⟩,tv2⟩,tv11,aa⟩,?_,?_⟩,λx3 w4=>⟨⟨?_,?_⟩,⟨tv2,?_⟩,λx5 w6=>⟨?_,⟨?_,?_⟩,Sq11,Sq34,ζ,Sq2,Sq35,ζ,[.s 34,.s 35],Sq36,ζ,⟨?_,?_,?_⟩,Sq3,Sq37,ζ,[.s 36,.s 37],Sq38,ζ,?_,Sq11,Sq39,ζ,Sq12,Sq40,ζ,[.s 39,.s 40],Sq41,ζ,⟨?_,?_,?_⟩,[.s 38,.s 41],Sq42,ζ,?_,Sq42,Sq11,ζ,⟨?_,?_,?_⟩,⟨?_,?_⟩,⟨?_,?_⟩,⟨?_,?_,?_⟩,⟨⟨tv9,tv11,tv4⟩,⟨?_,?_,?_,?_,?_⟩,?_,?_,?_,?_,?_,?_,?_⟩,λx7 w8=>?_⟩⟩⟩⟩
 all_goals first|refine aw ?_|refine ax ?_|exact bb|(dsimp only [uS,sQ,jz,kH,yO,vK,iE];omega)|exact ba|exact lf.wf.rd|exact hf|exact lf|exact hf.ok|(have:=oC w2;omega)|skip
 ·refine⟨[3,4],[],_,_,_,ζ,aC,(),0,aa,?_,?_,ζ⟩
  ·(show _=mS (aj,ak,an,ao,ah,aq,ai,ar) (n1,n2,n3,n4,n5,n6,n7,n8,n9,cg) at' text);unfold mS;first|(rw [T8 (s:=(aj,ak,an,ao,ah,aq,ai,ar)) (n:=(n1,n2,n3,n4,n5,n6,n7,n8,n9,cg)) (a:=at') w1];rfl)|rfl
  ·(show _=pH (aj,ak,an,ao,ah,aq,ai,ar) (n1,n2,n3,n4,n5,n6,n7,n8,n9,cg) at' text);unfold pH;first|(rw [T8 (s:=(aj,ak,an,ao,ah,aq,ai,ar)) (n:=(n1,n2,n3,n4,n5,n6,n7,n8,n9,cg)) (a:=at') w1];rfl)|rfl
 ·show (((jZ (aj,ak,an,ao,ah,aq,ai,ar) (n1,n2,n3,n4,n5,n6,n7,n8,n9,cg)).size+(lT (at'-(jZ (aj,ak,an,ao,ah,aq,ai,ar) (n1,n2,n3,n4,n5,n6,n7,n8,n9,cg)).size)).size:Nat):Int)<=imax
  rw [mh];unfold imax;omega
 ·show at'<=((ua (aj,ak,an,ao,ah,aq,ai,ar) (n1,n2,n3,n4,n5,n6,n7,n8,n9,cg) at').size:Int);omega
 ·show ((((ua (aj,ak,an,ao,ah,aq,ai,ar) (n1,n2,n3,n4,n5,n6,n7,n8,n9,cg) at').extract 0 at'.toNat).size+text.size:Nat):Int)<=imax
  rw [ZC2];unfold imax;omega
 ·show ((((ua (aj,ak,an,ao,ah,aq,ai,ar) (n1,n2,n3,n4,n5,n6,n7,n8,n9,cg) at').extract 0 at'.toNat++text).size+((ua (aj,ak,an,ao,ah,aq,ai,ar) (n1,n2,n3,n4,n5,n6,n7,n8,n9,cg) at').extract (min ((ua (aj,ak,an,ao,ah,aq,ai,ar) (n1,n2,n3,n4,n5,n6,n7,n8,n9,cg) at').size:Int) (at'+text.size)).toNat (ua (aj,ak,an,ao,ah,aq,ai,ar) (n1,n2,n3,n4,n5,n6,n7,n8,n9,cg) at').size).size:Nat):Int)<=imax
  rw [ZB4,ZC2,ZC2];unfold imax;omega
 ·have:=oC w2
  show (at'+text.size-1) / 12*12<=((abk (aj,ak,an,ao,ah,aq,ai,ar) (n1,n2,n3,n4,n5,n6,n7,n8,n9,cg) at' text).size:Int);omega
 ·show (abk (aj,ak,an,ao,ah,aq,ai,ar) (n1,n2,n3,n4,n5,n6,n7,n8,n9,cg) at' text).size<=100000000;omega
 ·refine⟨[1000550000,1000550001],[],_,_,_,ζ,aC,(),0,aa,?_,?_,ζ⟩
  ·(show _=mS (aj,ak,an,ao,ah,aq,ai,ar) (n1,n2,n3,n4,n5,n6,n7,n8,n9,cg) at' text);unfold mS;first|(rw [T7 (s:=(aj,ak,an,ao,ah,aq,ai,ar)) (n:=(n1,n2,n3,n4,n5,n6,n7,n8,n9,cg)) (a:=at') w2];rfl)|rfl
  ·(show _=pH (aj,ak,an,ao,ah,aq,ai,ar) (n1,n2,n3,n4,n5,n6,n7,n8,n9,cg) at' text);unfold pH;first|(rw [T7 (s:=(aj,ak,an,ao,ah,aq,ai,ar)) (n:=(n1,n2,n3,n4,n5,n6,n7,n8,n9,cg)) (a:=at') w2];rfl)|rfl
def XN {size:Int}:∀{l:List ByteArray}{k:Nat}{out:ByteArray},out.size<=(txF size l k out).size
 |[],k,out=>ZB0 _
 |x::l,k,out=>by
  have h:=XN (size:=size) (l:=l) (k:=k+1) (out:=out++x++lT (nQ size k-x.size))
  rw [ZB4,ZB4] at h
  rw [txF];omega
def ahl {size:Int}:∀{l:List ByteArray}{k:Nat}{out:ByteArray},size<=12*((k+l.length:Nat):Int)->(out.size:Int)+(size-12*k)<=((txF size l k out).size:Int)
 |[],k,out,h=>by rw [ZA4] at h;show _<=(out.size:Int);omega
 |x::l,k,out,h=>by
  rw [ZA1] at h
  have h1:=ahl (size:=size) (l:=l) (k:=k+1) (out:=out++x++lT (nQ size k-x.size)) (by omega)
  have h2:=XN (size:=size) (l:=l) (k:=k+1) (out:=out++x++lT (nQ size k-x.size))
  have h3:nQ size k=min 12 (size-(k:Int)*12):=rfl
  rw [ZB4,ZB4,mh] at h1 h2
  rw [txF];omega
def node1 {n:dN}(h:cx n=true) (h1:n.1=1):(cK n).many=bn n.2.2.1 12/\0<=n.2.2.1/\n.2.2.1<=192:=by
 obtain⟨b1,b2,b3,b4,b5,b6,b7,b8,b9⟩:=il h
 have e:lg n.1=12:=by rw [h1];rfl
 unfold bq at b7
 rw [e] at b7
 cases hi:gC n.2.2.1 0 (16*12) with
 |true=>
  rw [hi] at b7
  exact⟨b7,(cy.1 hi).1,(cy.1 hi).2⟩
 |false=>
  rw [hi] at b7
  have b7:n.2.2.2.2.2.2.2.2.2= -1:=b7
  omega
def ahp {s:ay}{n:dN}(h:cx n=true) (h1:n.1=1):n.2.2.1<=((jZ s n).size:Int):=by
 obtain⟨e,e0,e1⟩:=node1 h h1
 have cn:=pK h
 have hl:=eV (s:=s) cn
 have h2:=ahl (size:=n.2.2.1) (l:=aE s (cK n)) (k:=0) (out:=⟨#[]⟩) (by
  rw [hl,e];unfold bn;omega)
 have h3:(((⟨#[]⟩:ByteArray).size:Nat):Int)=0:=rfl
 rw [h3] at h2
 show _<=((txF _ _ _ _).size:Int);omega
def NJ {n:dN}(h:cx n=true):n.fok:=by
 have:=(il h).2.2.1
 exact⟨pK h,by omega,by omega⟩
def P6 (c:ay×bf×Bool) (n:dN) (all:ByteArray) (size many:Int):ay×dN×Bool:=
 bif !c.2.2 then (c.1,n,false) else bif decide (many=0) then (c.1,lq n size c.2.1,true) else DX c.1 (lq n size c.2.1) (all.extract 0 size.toNat) (many-1) (many-1)
def jW (s:ay) (n:dN) (size:Int):ay×dN×Bool:=
 bif decide (size>=n.2.2.1) then
  (bif decide (bn size 12=(cK n).many) then (s,lq n size (cK n),true) else
   ((aP s (cK n) (bn size 12-1) ⟨#[]⟩).1,lq n size (aP s (cK n) (bn size 12-1) ⟨#[]⟩).2.1,(aP s (cK n) (bn size 12-1) ⟨#[]⟩).2.2))
 else P6 (cX s (cK n) (bn size 12)) n (jZ s n) size (bn size 12)
def BP (S:ay) (n:dN) (size:Int):Prop:=S.wg 1044000/\cx n=true/\n.1=1/\0<=size/\size<=192
def fu (S:ay) (n:dN) (size:Int):AV:=.t [.a (nH 0 1 2 5 6 (jW S n size).1),ndA (jW S n size).2.1,.s (.q (jW S n size).2.2)]
def gy (S:ay) (n:dN) (size:Int):List AV:=[.rs ab (jW S n size).1.rows,.rs ag (jW S n size).1.refs,.rs ag (jW S n size).1.last,.zz,.zz,.rs ae (jW S n size).1.gone,.rs ae (jW S n size).1.dead]
def PZ:cu where
 A:=[.a (stB 0 1 2 3 4),.a [.int,.int,.int,.int,.int,.int,.int,.int,.int,.int],.s .int]
 B:=[.r ab,.r ag,.r ag,.r ae,.r ae]
 pre:=λx b=>stW x.1 b/\BP (iE x.1 b) (x.2.1) (x.2.2)
 r:=λx b _=>fu (iE x.1 b) (x.2.1) (x.2.2)
 o:=λx b _=>gy (iE x.1 b) (x.2.1) (x.2.2)
 nf:=2
 mv:=true
def ai6:Has Tryz.prog 130 PZ:=by
 refine Has.ofZ zT zF zF (l:=[(163,uS),(150,mE),(164,jz),(24,fM),(160,nC),(165,yO)]) ⟨SH,I9,wh,oZ,EA,aat,aa⟩ Tryz.func130 ?_
 rintro⟨⟨(C7:Nat),(C6:Nat),(C5:Nat),(ao:Int),(C4:Nat),(aq:Int),(C3:Nat),(ar:Bool)⟩,⟨(n1:Int),(n2:Int),(n3:Int),(n4:Int),(n5:Int),(n6:Int),(n7:Int),(n8:Int),(n9:Int),(cg:Int)⟩,(size:Int)⟩ ⟨(aj:List ByteArray),(ak:List Int),(an:List Int),(ah:List Pt),(ai:List Pt)⟩ ⟨⟨(gR:C7=List.length aj),(gQ:C6=List.length ak),(gP:C5=List.length an),(gO:C4=List.length ah),(gN:C3=List.length ai)⟩,(hp:BP (aj,ak,an,ao,ah,aq,ai,ar) (n1,n2,n3,n4,n5,n6,n7,n8,n9,cg) size)⟩
 subst gR gQ gP gO gN
 show vc _ _ _ _ (entry [.a [.xs 0 1 0 aj.length,.xs 1 1 0 ak.length,.xs 2 1 0 an.length,.int ao,.xs 3 5 0 ah.length,.int aq,.xs 4 5 0 ai.length,.q ar],.a [.int n1,.int n2,.int n3,.int n4,.int n5,.int n6,.int n7,.int n8,.int n9,.int cg],.int size] [.rs ab aj,.rs ag ak,.rs ag an,.rs ae ah,.rs ae ai]) _
 obtain⟨lf,tV,(hn1:n1=1),hs0,hs1⟩:=hp
 have lf:ay.wg (aj,ak,an,ao,ah,aq,ai,ar) 1044000:=lf
 have tV:cx (n1,n2,n3,n4,n5,n6,n7,n8,n9,cg)=true:=tV
 have hf:=NJ tV
 have cn:=hf.ok
 have hts:=LN lf.wf.rd hf
 have wZ:n3<=((jZ (aj,ak,an,ao,ah,aq,ai,ar) (n1,n2,n3,n4,n5,n6,n7,n8,n9,cg)).size:Int):=ahp (s:=(aj,ak,an,ao,ah,aq,ai,ar)) tV hn1
 obtain⟨(hm:cg=bn n3 12),(wW:0<=n3),(CB:n3<=192)⟩:=node1 tV hn1
 have hpm:bn size 12=(size+12-1) / 12:=rfl
 have hpn:bn n3 12=(n3+12-1) / 12:=rfl
 have hcu:=K3 (many:=bn size 12) lf cn (by omega) (by omega)
 refine⟨⟨⟨⟨⟨?_,?_⟩,⟨?_,?_⟩,⟨?_,?_⟩,aa,⟨?_,?_⟩,aa,⟨?_,?_⟩,tv2⟩,tv11,aa⟩,?_,?_⟩,λx1 w2=>⟨⟨tv3,?_,?_,?_,?_⟩,λx3 w4=>⟨λw5=>⟨⟨?_,?_⟩,⟨tv2,?_⟩,λx6 w7=>⟨?_,λw8=>⟨[.s 3,.b 1003],Sq40,ζ,[.s 4,.b 1004],Sq41,ζ,[.s 6,.s 40,.b 1006],[.b 1006],ζ,[.s 7,.s 41,.b 1007],[.b 1007],ζ,[],Sq8,ζ,?_⟩,λw9=>⟨⟨?_,?_⟩,⟨⟨tv9,tv8,tv3⟩,⟨?_,?_,?_,?_,?_⟩,?_,?_,?_,?_,?_,?_,?_,?_⟩,λ|false=>λdB=>⟨[.s 11,.b 1011],Sq54,ζ,[.s 4,.b 1004],Sq55,ζ,Sq13,Sq56,ζ,[.s 6,.s 54,.b 1006],[.b 1006],ζ,[.s 7,.s 55,.b 1007],[.b 1007],ζ,Sq56,Sq8,ζ,?_⟩ |true=>λiP=>⟨[.s 11,.b 1011],Sq54,ζ,[.s 4,.b 1004],Sq55,ζ,Sq13,Sq56,ζ,[.s 6,.s 54,.b 1006],[.b 1006],ζ,[.s 7,.s 55,.b 1007],[.b 1007],ζ,Sq56,Sq8,ζ,?_⟩⟩⟩⟩,λdW=>⟨⟨⟨tv9,tv8,tv2⟩,⟨?_,?_,?_,?_,?_⟩,?_,?_,?_,?_,?_,?_⟩,λ|false=>λiL=>⟨λgY=>⟨[.s 3,.b 1003],Sq68,ζ,[.s 4,.b 1004],Sq69,ζ,[.s 6,.s 68,.b 1006],[.b 1006],ζ,[.s 7,.s 69,.b 1007],[.b 1007],ζ,[],Sq8,ζ,?_⟩,λnG=>⟨λkC=>⟨[.s 14,.b 1014],Sq76,ζ,[.s 4,.b 1004],Sq77,ζ,[.s 6,.s 76,.b 1006],[.b 1006],ζ,[.s 7,.s 77,.b 1007],[.b 1007],ζ,[],Sq8,ζ,?_⟩,λxh=>⟨[.s 14,.b 1014],Sq78,ζ,[.s 4,.b 1004],Sq79,ζ,Sq9,Sq80,ζ,Sq2,Sq81,ζ,[.s 80,.s 81],Sq82,ζ,⟨?_,?_,?_⟩,Sq10,Sq83,ζ,Sq83,Sq84,ζ,⟨?_,?_⟩,Sq10,Sq85,ζ,Sq85,Sq86,ζ,⟨?_,?_⟩,[.s 78,.s 79,.s 82,.s 84,.s 86,.b 0,.b 1,.b 2,.b 3,.b 4,.b 1000880001,.b 1000880000],[.s 87,.b 0,.b 1,.b 2,.b 3,.b 4,.b 1000880000,.b 1000880001],ζ,⟨⟨tv9,tv11,tv4⟩,⟨?_,?_,?_,?_,?_⟩,?_,?_,?_,?_,?_,?_,?_⟩,?_,λsA o9=>⟨Sq87,Sq88,ζ,Sq87,Sq89,ζ,Sq87,Sq90,ζ,[.s 6,.s 88,.b 1006],[.b 1006],ζ,[.s 7,.s 89,.b 1007],[.b 1007],ζ,Sq90,Sq8,ζ,?_⟩⟩⟩⟩ |true=>λtl=>⟨λFW=>⟨[.s 3,.b 1003],Sq68,ζ,[.s 4,.b 1004],Sq69,ζ,[.s 6,.s 68,.b 1006],[.b 1006],ζ,[.s 7,.s 69,.b 1007],[.b 1007],ζ,[],Sq8,ζ,?_⟩,λDB=>⟨λzi=>⟨[.s 14,.b 1014],Sq76,ζ,[.s 4,.b 1004],Sq77,ζ,[.s 6,.s 76,.b 1006],[.b 1006],ζ,[.s 7,.s 77,.b 1007],[.b 1007],ζ,[],Sq8,ζ,?_⟩,λtZ=>⟨[.s 14,.b 1014],Sq78,ζ,[.s 4,.b 1004],Sq79,ζ,Sq9,Sq80,ζ,Sq2,Sq81,ζ,[.s 80,.s 81],Sq82,ζ,⟨?_,?_,?_⟩,Sq10,Sq83,ζ,Sq83,Sq84,ζ,⟨?_,?_⟩,Sq10,Sq85,ζ,Sq85,Sq86,ζ,⟨?_,?_⟩,[.s 78,.s 79,.s 82,.s 84,.s 86,.b 0,.b 1,.b 2,.b 1000630000,.b 1000630001,.b 1000880001,.b 1000880000],[.s 87,.b 0,.b 1,.b 2,.b 1000630000,.b 1000630001,.b 1000880000,.b 1000880001],ζ,⟨⟨tv9,tv11,tv4⟩,⟨?_,?_,?_,?_,?_⟩,?_,?_,?_,?_,?_,?_,?_⟩,?_,λx25 w26=>⟨Sq87,Sq88,ζ,Sq87,Sq89,ζ,Sq87,Sq90,ζ,[.s 6,.s 88,.b 1006],[.b 1006],ζ,[.s 7,.s 89,.b 1007],[.b 1007],ζ,Sq90,Sq8,ζ,?_⟩⟩⟩⟩⟩⟩⟩⟩
 all_goals first|refine aw ?_|refine ax ?_|exact bb|(dsimp only [uS,sQ,mE,lz,jz,kH,fM,ij,nC,oh,yO,vK,iE];omega)|exact ba|exact lf.wf.rd|exact hf|exact lf.wf|exact cn.rd|exact cn.m1|exact⟨_,rfl⟩|exact ZA9 lf.g (by decide)|exact ZA9 lf.d (by decide)|exact hcu.1.mono (by decide)|exact hcu.2.1|exact ZA7 _|skip
 all_goals first|exact absurd (show true=false from nG) Bool.noConfusion|exact absurd (show false=true from FW) Bool.noConfusion|skip
 ·show (((jZ (aj,ak,an,ao,ah,aq,ai,ar) (n1,n2,n3,n4,n5,n6,n7,n8,n9,cg)).size+(lT (size-(jZ (aj,ak,an,ao,ah,aq,ai,ar) (n1,n2,n3,n4,n5,n6,n7,n8,n9,cg)).size)).size:Nat):Int)<=imax
  rw [mh];unfold imax;omega
 ·have e:jW (aj,ak,an,ao,ah,aq,ai,ar) (n1,n2,n3,n4,n5,n6,n7,n8,n9,cg) size=((aj,ak,an,ao,ah,aq,ai,ar),lq (n1,n2,n3,n4,n5,n6,n7,n8,n9,cg) size (cK (n1,n2,n3,n4,n5,n6,n7,n8,n9,cg)),true):=by unfold jW;rw [show decide (size>=n3)=true from w5,show decide (bn size 12=cg)=true from w8];rfl
  refine⟨[3,4],[],_,_,_,ζ,aC,(),0,aa,?_,?_,ζ⟩
  ·(show _=fu (aj,ak,an,ao,ah,aq,ai,ar) (n1,n2,n3,n4,n5,n6,n7,n8,n9,cg) size);unfold fu;first|(rw [e];rfl)|rfl
  ·(show _=gy (aj,ak,an,ao,ah,aq,ai,ar) (n1,n2,n3,n4,n5,n6,n7,n8,n9,cg) size);unfold gy;first|(rw [e];rfl)|rfl
 ·have hz:(aP (aj,ak,an,ao,ah,aq,ai,ar) (cK (n1,n2,n3,n4,n5,n6,n7,n8,n9,cg)) (bn size 12-1) ⟨#[]⟩).2.2=false:=(show false=(aP (aj,ak,an,ao,ah,aq,ai,ar) (cK (n1,n2,n3,n4,n5,n6,n7,n8,n9,cg)) (bn size 12-1) ⟨#[]⟩).2.2 from dB).symm
  have e:jW (aj,ak,an,ao,ah,aq,ai,ar) (n1,n2,n3,n4,n5,n6,n7,n8,n9,cg) size=((aP (aj,ak,an,ao,ah,aq,ai,ar) (cK (n1,n2,n3,n4,n5,n6,n7,n8,n9,cg)) (bn size 12-1) ⟨#[]⟩).1,lq (n1,n2,n3,n4,n5,n6,n7,n8,n9,cg) size (aP (aj,ak,an,ao,ah,aq,ai,ar) (cK (n1,n2,n3,n4,n5,n6,n7,n8,n9,cg)) (bn size 12-1) ⟨#[]⟩).2.1,(aP (aj,ak,an,ao,ah,aq,ai,ar) (cK (n1,n2,n3,n4,n5,n6,n7,n8,n9,cg)) (bn size 12-1) ⟨#[]⟩).2.2):=by unfold jW;rw [show decide (size>=n3)=true from w5,show decide (bn size 12=cg)=false from w9];rfl
  refine⟨[3,4],[],_,_,_,ζ,aC,(),0,aa,?_,?_,ζ⟩
  ·(show _=fu (aj,ak,an,ao,ah,aq,ai,ar) (n1,n2,n3,n4,n5,n6,n7,n8,n9,cg) size);unfold fu;first|(rw [e,hz];rfl)|(rw [e];rfl)|rfl
  ·(show _=gy (aj,ak,an,ao,ah,aq,ai,ar) (n1,n2,n3,n4,n5,n6,n7,n8,n9,cg) size);unfold gy;first|(rw [e,hz];rfl)|(rw [e];rfl)|rfl
 ·have hz:(aP (aj,ak,an,ao,ah,aq,ai,ar) (cK (n1,n2,n3,n4,n5,n6,n7,n8,n9,cg)) (bn size 12-1) ⟨#[]⟩).2.2=true:=(show true=(aP (aj,ak,an,ao,ah,aq,ai,ar) (cK (n1,n2,n3,n4,n5,n6,n7,n8,n9,cg)) (bn size 12-1) ⟨#[]⟩).2.2 from iP).symm
  have e:jW (aj,ak,an,ao,ah,aq,ai,ar) (n1,n2,n3,n4,n5,n6,n7,n8,n9,cg) size=((aP (aj,ak,an,ao,ah,aq,ai,ar) (cK (n1,n2,n3,n4,n5,n6,n7,n8,n9,cg)) (bn size 12-1) ⟨#[]⟩).1,lq (n1,n2,n3,n4,n5,n6,n7,n8,n9,cg) size (aP (aj,ak,an,ao,ah,aq,ai,ar) (cK (n1,n2,n3,n4,n5,n6,n7,n8,n9,cg)) (bn size 12-1) ⟨#[]⟩).2.1,(aP (aj,ak,an,ao,ah,aq,ai,ar) (cK (n1,n2,n3,n4,n5,n6,n7,n8,n9,cg)) (bn size 12-1) ⟨#[]⟩).2.2):=by unfold jW;rw [show decide (size>=n3)=true from w5,show decide (bn size 12=cg)=false from w9];rfl
  refine⟨[1000490000,1000490001],[],_,_,_,ζ,aC,(),0,aa,?_,?_,ζ⟩
  ·(show _=fu (aj,ak,an,ao,ah,aq,ai,ar) (n1,n2,n3,n4,n5,n6,n7,n8,n9,cg) size);unfold fu;first|(rw [e,hz];rfl)|(rw [e];rfl)|rfl
  ·(show _=gy (aj,ak,an,ao,ah,aq,ai,ar) (n1,n2,n3,n4,n5,n6,n7,n8,n9,cg) size);unfold gy;first|(rw [e,hz];rfl)|(rw [e];rfl)|rfl
 ·have hz:(cX (aj,ak,an,ao,ah,aq,ai,ar) (cK (n1,n2,n3,n4,n5,n6,n7,n8,n9,cg)) (bn size 12)).2.2=false:=(show false=(cX (aj,ak,an,ao,ah,aq,ai,ar) (cK (n1,n2,n3,n4,n5,n6,n7,n8,n9,cg)) (bn size 12)).2.2 from iL).symm
  have J5:=hcu.2.2 hz
  have e:jW (aj,ak,an,ao,ah,aq,ai,ar) (n1,n2,n3,n4,n5,n6,n7,n8,n9,cg) size=((cX (aj,ak,an,ao,ah,aq,ai,ar) (cK (n1,n2,n3,n4,n5,n6,n7,n8,n9,cg)) (bn size 12)).1,(n1,n2,n3,n4,n5,n6,n7,n8,n9,cg),false):=by unfold jW P6;rw [show decide (size>=n3)=false from dW,hz];rfl
  refine⟨[3,4],[],_,_,_,ζ,aC,(),0,aa,?_,?_,ζ⟩
  ·(show _=fu (aj,ak,an,ao,ah,aq,ai,ar) (n1,n2,n3,n4,n5,n6,n7,n8,n9,cg) size);unfold fu;first|(rw [e];rfl)|(rw [e];exact congrArg (λx=>AV.t [A0.a x,ndA (n1,n2,n3,n4,n5,n6,n7,n8,n9,cg),A0.s (SV.q false)]) (mM (b0:=0) (b1:=1) (b2:=2) (b3:=5) (b4:=6) J5 lf.wf))|(rw [e];have h3:=J5.gone;have h4:=J5.dead;exact congr (congrArg (λ(a b:List Pt)=>[AV.rs ab (cX (aj,ak,an,ao,ah,aq,ai,ar) (cK (n1,n2,n3,n4,n5,n6,n7,n8,n9,cg)) (bn size 12)).1.rows,AV.rs ag (cX (aj,ak,an,ao,ah,aq,ai,ar) (cK (n1,n2,n3,n4,n5,n6,n7,n8,n9,cg)) (bn size 12)).1.refs,AV.rs ag (cX (aj,ak,an,ao,ah,aq,ai,ar) (cK (n1,n2,n3,n4,n5,n6,n7,n8,n9,cg)) (bn size 12)).1.last,AV.zz,AV.zz,AV.rs ae a,AV.rs ae b]) h3.symm) h4.symm)|rfl
  ·(show _=gy (aj,ak,an,ao,ah,aq,ai,ar) (n1,n2,n3,n4,n5,n6,n7,n8,n9,cg) size);unfold gy;first|(rw [e];rfl)|(rw [e];exact congrArg (λx=>AV.t [A0.a x,ndA (n1,n2,n3,n4,n5,n6,n7,n8,n9,cg),A0.s (SV.q false)]) (mM (b0:=0) (b1:=1) (b2:=2) (b3:=5) (b4:=6) J5 lf.wf))|(rw [e];have h3:=J5.gone;have h4:=J5.dead;exact congr (congrArg (λ(a b:List Pt)=>[AV.rs ab (cX (aj,ak,an,ao,ah,aq,ai,ar) (cK (n1,n2,n3,n4,n5,n6,n7,n8,n9,cg)) (bn size 12)).1.rows,AV.rs ag (cX (aj,ak,an,ao,ah,aq,ai,ar) (cK (n1,n2,n3,n4,n5,n6,n7,n8,n9,cg)) (bn size 12)).1.refs,AV.rs ag (cX (aj,ak,an,ao,ah,aq,ai,ar) (cK (n1,n2,n3,n4,n5,n6,n7,n8,n9,cg)) (bn size 12)).1.last,AV.zz,AV.zz,AV.rs ae a,AV.rs ae b]) h3.symm) h4.symm)|rfl
 ·have hz:(cX (aj,ak,an,ao,ah,aq,ai,ar) (cK (n1,n2,n3,n4,n5,n6,n7,n8,n9,cg)) (bn size 12)).2.2=true:=(show true=(cX (aj,ak,an,ao,ah,aq,ai,ar) (cK (n1,n2,n3,n4,n5,n6,n7,n8,n9,cg)) (bn size 12)).2.2 from tl).symm
  have e:jW (aj,ak,an,ao,ah,aq,ai,ar) (n1,n2,n3,n4,n5,n6,n7,n8,n9,cg) size=((cX (aj,ak,an,ao,ah,aq,ai,ar) (cK (n1,n2,n3,n4,n5,n6,n7,n8,n9,cg)) (bn size 12)).1,lq (n1,n2,n3,n4,n5,n6,n7,n8,n9,cg) size (cX (aj,ak,an,ao,ah,aq,ai,ar) (cK (n1,n2,n3,n4,n5,n6,n7,n8,n9,cg)) (bn size 12)).2.1,true):=by unfold jW P6;rw [show decide (size>=n3)=false from dW,hz,show decide (bn size 12=0)=true from zi];rfl
  refine⟨[1000630000,1000630001],[],_,_,_,ζ,aC,(),0,aa,?_,?_,ζ⟩
  ·(show _=fu (aj,ak,an,ao,ah,aq,ai,ar) (n1,n2,n3,n4,n5,n6,n7,n8,n9,cg) size);unfold fu;first|(rw [e];rfl)|rfl
  ·(show _=gy (aj,ak,an,ao,ah,aq,ai,ar) (n1,n2,n3,n4,n5,n6,n7,n8,n9,cg) size);unfold gy;first|(rw [e];rfl)|rfl
 ·have h1:=aD (p:=size>=n3) dW
  have h2:=aD (p:=bn size 12=0) tZ
  show (bn size 12-1)*12<=(((jZ (aj,ak,an,ao,ah,aq,ai,ar) (n1,n2,n3,n4,n5,n6,n7,n8,n9,cg)).extract 0 size.toNat).size:Int)
  rw [ZC2];omega
 ·show ((jZ (aj,ak,an,ao,ah,aq,ai,ar) (n1,n2,n3,n4,n5,n6,n7,n8,n9,cg)).extract 0 size.toNat).size<=100000000
  rw [ZC2];omega
 ·have hz:(cX (aj,ak,an,ao,ah,aq,ai,ar) (cK (n1,n2,n3,n4,n5,n6,n7,n8,n9,cg)) (bn size 12)).2.2=true:=(show true=(cX (aj,ak,an,ao,ah,aq,ai,ar) (cK (n1,n2,n3,n4,n5,n6,n7,n8,n9,cg)) (bn size 12)).2.2 from tl).symm
  have e:jW (aj,ak,an,ao,ah,aq,ai,ar) (n1,n2,n3,n4,n5,n6,n7,n8,n9,cg) size=DX (cX (aj,ak,an,ao,ah,aq,ai,ar) (cK (n1,n2,n3,n4,n5,n6,n7,n8,n9,cg)) (bn size 12)).1 (lq (n1,n2,n3,n4,n5,n6,n7,n8,n9,cg) size (cX (aj,ak,an,ao,ah,aq,ai,ar) (cK (n1,n2,n3,n4,n5,n6,n7,n8,n9,cg)) (bn size 12)).2.1) ((jZ (aj,ak,an,ao,ah,aq,ai,ar) (n1,n2,n3,n4,n5,n6,n7,n8,n9,cg)).extract 0 size.toNat) (bn size 12-1) (bn size 12-1):=by unfold jW P6;rw [show decide (size>=n3)=false from dW,hz,show decide (bn size 12=0)=false from tZ];rfl
  refine⟨[1000880000,1000880001],[],_,_,_,ζ,aC,(),0,aa,?_,?_,ζ⟩
  ·(show _=fu (aj,ak,an,ao,ah,aq,ai,ar) (n1,n2,n3,n4,n5,n6,n7,n8,n9,cg) size);unfold fu;first|(rw [e];rfl)|rfl
  ·(show _=gy (aj,ak,an,ao,ah,aq,ai,ar) (n1,n2,n3,n4,n5,n6,n7,n8,n9,cg) size);unfold gy;first|(rw [e];rfl)|rfl
end GL
namespace GL
structure Rdr (r:List Int×Int) (n:Int):Prop where
 len:r.1.length<=2000
 jX:∀b∈r.1,0<=b/\b<=255
 p0:0<=r.2
 p1:r.2<=n
abbrev byteOf (l:List Int) (k:Nat):Int:=nth nJ l k
def dv (r:List Int×Int) (n:Int):Prop:=Rdr r 1000000/\n<=1000000
def ey (r:List Int×Int) (n:Int) (z:Int×Int):Prop:=(z.1=0\/(0<=z.1/\z.1<n))/\z.2=r.2+1
def QO (r:List Int×Int) (n:Int) (z:Int×Int):AV:=.s (.int z.1)
def U5 (r:List Int×Int) (n:Int) (z:Int×Int):List AV:=[.a [.vw nJ r.1,.int z.2]]
def bE:cu where
 A:=[.b 0,.s .int]
 B:=[.a [.vw nJ,.int]]
 pre:=λx b=>dv b (x.2)
 α:=λ_ _=>Int×Int
 φ:=λx b z=>ey b (x.2) z
 r:=λx b z=>QO b (x.2) z
 o:=λx b z=>U5 b (x.2) z
def fk:Has Tryz.prog 22 bE:=by
 refine Has.fP zT zF zF (l:=[]) trivial Tryz.func22 ?_
 rintro⟨_,(n:Int)⟩ ⟨(rb:List Int),(rp:Int)⟩ (hp:dv (rb,rp) n)
 show vc _ _ _ _ (entry [.s (.bp 0 0),.int n] [.a [.vw nJ rb,.int rp]]) _
 obtain⟨hr,(hn:n<=1000000)⟩:=hp
 have hp0:0<=rp:=hr.p0
 have hp1:rp<=1000000:=hr.p1
 have hnb:∀k,0<=byteOf rb k/\byteOf rb k<=255:=λk=>by
  by_cases hk:k<rb.length
  ·exact hr.jX _ (bS (ek:=nJ) hk)
  ·show 0<=nth nJ rb k/\nth nJ rb k<=255;unfold nth;rw [ZE1 (by omega)];exact⟨ZC1 _,by decide⟩
 have hlp:decide ((rb.length:Int)=0)=false->0<(rb.length:Int):=λh=>by have:=aD h;omega
 have hnp:decide (n<1)=false->0<n:=λh=>by have:=aD h;omega
 have hnc:∀k,(0:Int)<=nth nJ rb k/\(nth nJ rb k:Int)<=(255:Int):=hnb
 have c1:=hnc (rp+1-1).toNat
 have c2:=hnc ((rp+1-1) % (rb.length:Int)).toNat
 have c3:=hnc (((rp+1-1)*7+3) % (rb.length:Int)).toNat
 have a1:=hnb (rp+1-1).toNat
 have a2:=hnb ((rp+1-1) % (rb.length:Int)).toNat
 have a3:=hnb (((rp+1-1)*7+3) % (rb.length:Int)).toNat
 have hl2:rb.length<=2000:=hr.len
 have a4:decide ((rb.length:Int)=0)=false->0<=(rp+1-1) / (rb.length:Int)/\(rp+1-1) / (rb.length:Int)<=rp+1-1:=λh=>⟨Int.ediv_nonneg (by omega) (Int.le_of_lt (hlp h)),Int.ediv_le_self _ (by omega)⟩
 refine⟨⟨?_,?_⟩,aa,λw1=>?_,λw2=>⟨λw3=>?_,λw4=>⟨⟨?_,?_⟩,λw5=>⟨⟨?_,?_⟩,⟨?_,?_⟩,⟨?_,?_⟩,?_⟩,λw6=>⟨Sq0,Sq47,ζ,Sq47,Sq48,ζ,Sq48,Sq49,ζ,[.s 49,.b 0],Sq50,ζ,Sq5,Sq51,ζ,Sq0,Sq52,ζ,Sq52,Sq53,ζ,Sq53,Sq54,ζ,[.s 54,.b 0],Sq55,ζ,Sq55,Sq56,ζ,[.s 51,.s 56],Sq57,ζ,⟨?_,?_⟩,[.s 50,.s 57],Sq58,ζ,⟨?_,?_⟩,Sq58,Sq59,ζ,Sq59,Sq60,ζ,⟨?_,?_⟩,Sq60,Sq61,ζ,⟨?_,?_⟩,Sq0,Sq62,ζ,Sq62,Sq63,ζ,Sq63,Sq64,ζ,[.s 64,.b 0],Sq65,ζ,Sq5,Sq66,ζ,Sq66,Sq67,ζ,⟨?_,?_⟩,Sq67,Sq68,ζ,⟨?_,?_⟩,Sq0,Sq69,ζ,Sq69,Sq70,ζ,Sq70,Sq71,ζ,[.s 71,.b 0],Sq72,ζ,Sq72,Sq73,ζ,[.s 68,.s 73],Sq74,ζ,⟨?_,?_⟩,[.s 65,.s 74],Sq75,ζ,⟨?_,?_⟩,Sq75,Sq76,ζ,Sq76,Sq77,ζ,⟨?_,?_⟩,Sq77,Sq78,ζ,⟨?_,?_⟩,[.s 61,.s 78],Sq79,ζ,⟨?_,?_⟩,Sq5,Sq80,ζ,Sq80,Sq81,ζ,⟨?_,?_⟩,[.s 79,.s 81],Sq82,ζ,⟨?_,?_⟩,Sq5,Sq83,ζ,Sq0,Sq84,ζ,Sq84,Sq85,ζ,Sq85,Sq86,ζ,[.s 86,.b 0],Sq87,ζ,Sq87,Sq88,ζ,[.s 83,.s 88],Sq89,ζ,⟨?_,?_,?_⟩,Sq89,Sq90,ζ,⟨?_,?_⟩,[.s 82,.s 90],Sq91,ζ,⟨?_,?_⟩,Sq91,Sq6,ζ,⟨?_,?_,?_⟩,⟨?_,?_,?_,?_⟩,⟨?_,?_⟩,?_⟩⟩⟩⟩
 all_goals first|refine aw ?_|refine ax ?_|exact bb|exact ba|exact Int.emod_nonneg _ (Int.ne_of_gt (hlp w4))|exact Int.emod_lt_of_pos _ (hlp w4)|(simp only [gz,imax];omega)|(simp only [gz,imax];have:=a4 w4;omega)|exact a1.1|exact aF w5|exact ZE9 a1.2 (by decide)|exact ZE9 a2.2 (by decide)|exact ZE9 a3.2 (by decide)|(show byteOf rb ((rp+1-1) % (rb.length:Int)).toNat*131<=imax;unfold imax;omega)|(show byteOf rb (((rp+1-1)*7+3) % (rb.length:Int)).toNat*1117<=imax;unfold imax;omega)|(show byteOf rb ((rp+1-1) % (rb.length:Int)).toNat*131+byteOf rb (((rp+1-1)*7+3) % (rb.length:Int)).toNat*1117<=imax;unfold imax;omega)|(have:=a4 w4;show (byteOf rb ((rp+1-1) % (rb.length:Int)).toNat*131+byteOf rb (((rp+1-1)*7+3) % (rb.length:Int)).toNat*1117+(rp+1-1)*29+(rp+1-1) / (rb.length:Int)*53) / 64<=imax;unfold imax;omega)|skip
 ·refine⟨[],[],_,_,_,ζ,bZ,(0,rp+1),⟨.inl rfl,ζ⟩,ζ,ζ,ζ⟩
 ·refine⟨[],[],_,_,_,ζ,bZ,(0,rp+1),⟨.inl rfl,ζ⟩,ζ,ζ,ζ⟩
 ·refine⟨[],[],_,_,_,ζ,bZ,(byteOf rb (rp+1-1).toNat % n,rp+1),⟨.inr ⟨Int.emod_nonneg _ (Int.ne_of_gt (hnp w2)),Int.emod_lt_of_pos _ (hnp w2)⟩,ζ⟩,ζ,ζ,ζ⟩
 all_goals first
  |(have:=a4 w4;have h:(byteOf rb ((rp+1-1) % (rb.length:Int)).toNat*131+byteOf rb (((rp+1-1)*7+3) % (rb.length:Int)).toNat*1117+(rp+1-1)*29+(rp+1-1) / (rb.length:Int)*53)<=imax:=by unfold imax;omega
    exact h)
  |(have:=a4 w4;have h:(byteOf rb ((rp+1-1) % (rb.length:Int)).toNat*131+byteOf rb (((rp+1-1)*7+3) % (rb.length:Int)).toNat*1117+(rp+1-1)*29+(rp+1-1) / (rb.length:Int)*53) / 64<=imax:=by unfold imax;omega
    exact h)
  |(have h:byteOf rb ((rp+1-1) % (rb.length:Int)).toNat*131+byteOf rb (((rp+1-1)*7+3) % (rb.length:Int)).toNat*1117+(rp+1-1)*29<=imax:=by unfold imax;omega
    exact h)
  |skip
 ·have hx:=hnp w2
  refine⟨[],[],_,_,_,ζ,aC,(_,rp+1),⟨.inr ⟨?_,?_⟩,ζ⟩,ζ,ζ,ζ⟩
  ·exact Int.emod_nonneg _ (Int.ne_of_gt hx)
  ·exact Int.emod_lt_of_pos _ hx
def mo (r:List Int×Int) (n:Int):Prop:=Rdr r 990000/\0<=n/\n<=100
def fV (r:List Int×Int) (n:Int) (z:ByteArray×Int):Prop:=(z.1.size:Int)<=n/\r.2<=z.2/\z.2<=r.2+1000
def YD (r:List Int×Int) (n:Int) (z:ByteArray×Int):AV:=.s (.str z.1)
def ab4 (r:List Int×Int) (n:Int) (z:ByteArray×Int):List AV:=[.a [.vw nJ r.1,.int z.2]]
def dZ:cu where
 A:=[.b 0,.s .int]
 B:=[.a [.vw nJ,.int]]
 pre:=λx b=>mo b (x.2)
 α:=λ_ _=>ByteArray×Int
 φ:=λx b z=>fV b (x.2) z
 r:=λx b z=>YD b (x.2) z
 o:=λx b z=>ab4 b (x.2) z
def zE:Has Tryz.prog 25 dZ:=by
 refine Has.fP (λd=> !(Nat.beq d 40)) zF zF (l:=[(22,bE)]) ⟨fk,aa⟩ Tryz.func25 ?_
 rintro⟨_,(n:Int)⟩ ⟨(rb:List Int),(rp:Int)⟩ (hp:mo (rb,rp) n)
 show vc _ _ _ _ (entry [.s (.bp 0 0),.int n] [.a [.vw nJ rb,.int rp]]) _
 obtain⟨hr,(hn0:0<=n),(hn1:n<=100)⟩:=hp
 have hp0:0<=rp:=hr.p0
 have hp1:rp<=990000:=hr.p1
 have dM:∀p:Int,0<=p->p<=1000000->Rdr (rb,p) 1000000:=λp h0 h1=>⟨hr.len,hr.jX,h0,h1⟩
 refine⟨aa,⟨?_,?_⟩,⟨tv3,?_,?_⟩,λx1 w2=>⟨⟨tv3,?_,?_⟩,λx3 w4=>?_⟩⟩
 all_goals first|refine aw ?_|refine ax ?_|exact bb|(dsimp only [bE,dv];omega)|exact ba|skip
 ·exact dM rp hp0 (by omega)
 ·have e1:x1.2=rp+1:=w2.2
  exact dM x1.2 (by omega) (by omega)
 ·obtain⟨mv,p1⟩:=x1
  obtain⟨kv,p2⟩:=x3
  have e1:p1=rp+1:=w2.2
  have e2:p2=p1+1:=w4.2
  have hm:mv=0\/(0<=mv/\mv<n+1):=w2.1
  refine df (l:=[(22,bE)]) (ex:=λd=> !(Nat.beq d 40)) (wr:=zF) (pt:=zF) ⟨fk,trivial⟩ [.s 0,.s 1,.s 6,.s 7] (λy:List Int×Int=>[(.s 5,.s (.xs 1010 1 0 y.1.length)),(.b 1010,.rs nJ y.1),(.b 0,.a [.vw nJ rb,.int y.2])]) (λy=>y.1.length<=mv.toNat/\rp<=y.2/\y.2<=rp+2+3*(y.1.length:Int)) (λy=>mv.toNat-y.1.length) ([],p2) [] ⟨ZA7 _,by show rp<=p2;omega,by show p2<=rp+2+3*((0:Nat):Int);omega⟩ dP ?_
  rintro⟨out,p⟩ ⟨(ho:out.length<=mv.toNat),(hq0:rp<=p),(hq1:p<=rp+2+3*(out.length:Int))⟩
  refine⟨λw1=>⟨λw2=>⟨⟨tv3,?_,?_⟩,λx3 w4=>⟨⟨?_,?_⟩,aa,⟨⟨?_,?_⟩,?_,?_⟩,?_⟩⟩,λw5=>⟨λw6=>⟨⟨aa,⟨?_,?_⟩,⟨?_,?_⟩,⟨?_,?_⟩,⟨?_,?_⟩,⟨?_,?_⟩,⟨?_,?_⟩,⟨?_,?_⟩,aa⟩,?_,⟨tv3,?_,?_⟩,λx7 w8=>⟨⟨?_,?_⟩,aa,λx9 dB=>⟨aa,⟨⟨?_,?_⟩,?_,?_⟩,?_⟩⟩⟩,λiP=>⟨λdW=>⟨⟨tv3,?_,?_⟩,λtY gY=>⟨⟨?_,?_⟩,⟨?_,?_⟩,⟨tv3,?_,?_⟩,λnN kC=>?_⟩⟩,λxh=>⟨⟨tv3,?_,?_⟩,λsA o9=>⟨⟨?_,?_⟩,⟨?_,?_⟩,aa,⟨⟨?_,?_⟩,?_,?_⟩,?_⟩⟩⟩⟩⟩,λtl=>⟨⟨?_,?_⟩,?_⟩⟩
  all_goals first|refine aw ?_|refine ax ?_|exact bb|(dsimp only [bE,dv];omega)|exact ba|exact dM p (by omega) (by omega)|decide|skip
  ·have h:x3.1=0\/(0<=x3.1/\x3.1<256):=w4.1
   show 0<=x3.1;omega
  ·have h:x3.1=0\/(0<=x3.1/\x3.1<256):=w4.1
   show x3.1<=255;omega
  ·have hl:=aF (p:=(out.length:Int)<mv) w1
   have e3:x3.2=p+1:=w4.2
   have hlen:(out++[x3.1]).length=out.length+1:=by rw [ZA0];rfl
   refine⟨(out++[x3.1],x3.2),[(1010,1036)],?_,?_,?_⟩
   rotate_right
   ·exact bY
   ·exact⟨by show (out++[x3.1]).length<=mv.toNat;omega,by show rp<=x3.2;omega,by show x3.2<=rp+2+3*((out++[x3.1]).length:Int);omega⟩
   ·show mv.toNat-(out++[x3.1]).length<mv.toNat-out.length;omega
  ·have h:x7.1=0\/(0<=x7.1/\x7.1<7):=w8.1
   show 0<=x7.1;omega
  ·have h:x7.1=0\/(0<=x7.1/\x7.1<7):=w8.1
   show x7.1<7;omega
  ·have hl:=aF (p:=(out.length:Int)<mv) w1
   have e3:x7.2=p+1:=w8.2
   have hlen:(out++[x9]).length=out.length+1:=by rw [ZA0];rfl
   refine⟨(out++[x9],x7.2),[(1010,1047)],?_,?_,?_⟩
   rotate_right
   ·exact bY
   ·exact⟨by show (out++[x9]).length<=mv.toNat;omega,by show rp<=x7.2;omega,by show x7.2<=rp+2+3*((out++[x9]).length:Int);omega⟩
   ·show mv.toNat-(out++[x9]).length<mv.toNat-out.length;omega
  ·have h:tY.1=0\/(0<=tY.1/\tY.1<3):=gY.1
   show gz<=97+tY.1;unfold gz;omega
  ·have h:tY.1=0\/(0<=tY.1/\tY.1<3):=gY.1
   show 97+tY.1<=imax;unfold imax;omega
  ·have h:tY.1=0\/(0<=tY.1/\tY.1<3):=gY.1
   show 0<=97+tY.1;omega
  ·have h:tY.1=0\/(0<=tY.1/\tY.1<3):=gY.1
   show 97+tY.1<=255;omega
  ·have e3:tY.2=p+1:=gY.2
   exact dM tY.2 (by omega) (by omega)
  ·have hl:=aF (p:=(out.length:Int)<mv) w1
   have e3:tY.2=p+1:=gY.2
   have e4:nN.2=tY.2+1:=kC.2
   have h5:nN.1=0\/(0<=nN.1/\nN.1<6):=kC.1
   refine df (l:=[(22,bE)]) (ex:=λd=> !(Nat.beq d 40)) (wr:=zF) (pt:=zF) ⟨fk,trivial⟩ [.s 0,.s 1,.s 6,.s 7,.s 8,.b 0] (λy:List Int×Int=>[(.s 5,.s (.xs 1010 1 0 y.1.length)),(.s 9,.int y.2),(.b 1010,.rs nJ y.1)]) (λy=>y.1.length<=mv.toNat/\(out.length+1<=y.1.length\/(y.1.length=out.length/\0<=y.2))/\-1<=y.2/\y.2<=6) (λy=>(y.2+1).toNat) (out,nN.1) [] ⟨ho,.inr ⟨rfl,by show 0<=nN.1;omega⟩,by show -1<=nN.1;omega,by show nN.1<=6;omega⟩ dP ?_
   rintro⟨o2,k⟩ ⟨(g1:o2.length<=mv.toNat),(g2:out.length+1<=o2.length\/(o2.length=out.length/\0<=k)),(g3: -1<=k),(g4:k<=6)⟩
   have hlen:∀z:Int,(o2++[z]).length=o2.length+1:=λz=>by rw [ZA0];rfl
   refine⟨aa,λw1=>⟨λw2=>⟨aa,⟨⟨?_,?_⟩,?_,?_⟩,⟨?_,?_⟩,?_⟩,λw3=>?_⟩,λw4=>?_⟩
   all_goals first|refine aw ?_|refine ax ?_|exact bb|(dsimp only [bE,dv];omega)|exact ba|skip
   ·have hm2:=aF (p:=(o2.length:Int)<mv) w2
    have hk2:=aF (p:=k>=0) w1
    have hle:=hlen (97+tY.1)
    refine⟨(o2++[97+tY.1],k-1),[(1010,1069)],?_,?_,?_⟩
    rotate_right
    ·exact bY
    ·exact⟨by show (o2++[97+tY.1]).length<=mv.toNat;omega,.inl (by show out.length+1<=(o2++[97+tY.1]).length;omega),by show -1<=k-1;omega,by show k-1<=6;omega⟩
    ·show (k-1+1).toNat<(k+1).toNat;omega
   ·have hm2:=aD (p:=(o2.length:Int)<mv) w3
    have hg:out.length+1<=o2.length:=by omega
    refine⟨(o2,nN.2),[],?_,?_,?_⟩
    rotate_right
    ·exact bY
    ·exact⟨by show (o2).length<=mv.toNat;omega,by show rp<=nN.2;omega,by show nN.2<=rp+2+3*((o2).length:Int);omega⟩
    ·show mv.toNat-(o2).length<mv.toNat-out.length;omega
   ·have hk2:=aD (p:=k>=0) w4
    have hg:out.length+1<=o2.length:=by omega
    refine⟨(o2,nN.2),[],?_,?_,?_⟩
    rotate_right
    ·exact bY
    ·exact⟨by show (o2).length<=mv.toNat;omega,by show rp<=nN.2;omega,by show nN.2<=rp+2+3*((o2).length:Int);omega⟩
    ·show mv.toNat-(o2).length<mv.toNat-out.length;omega
  ·have h:sA.1=0\/(0<=sA.1/\sA.1<2):=o9.1
   show gz<=sA.1*97;unfold gz;omega
  ·have h:sA.1=0\/(0<=sA.1/\sA.1<2):=o9.1
   show sA.1*97<=imax;unfold imax;omega
  ·have h:sA.1=0\/(0<=sA.1/\sA.1<2):=o9.1
   show 0<=sA.1*97;omega
  ·have h:sA.1=0\/(0<=sA.1/\sA.1<2):=o9.1
   show sA.1*97<=255;omega
  ·have hl:=aF (p:=(out.length:Int)<mv) w1
   have e3:sA.2=p+1:=o9.2
   have hlen:(out++[sA.1*97]).length=out.length+1:=by rw [ZA0];rfl
   refine⟨(out++[sA.1*97],sA.2),[(1010,1028)],?_,?_,?_⟩
   rotate_right
   ·exact bY
   ·exact⟨by show (out++[sA.1*97]).length<=mv.toNat;omega,by show rp<=sA.2;omega,by show sA.2<=rp+2+3*((out++[sA.1*97]).length:Int);omega⟩
   ·show mv.toNat-(out++[sA.1*97]).length<mv.toNat-out.length;omega
  ·have hl:=aD (p:=(out.length:Int)<mv) (by assumption)
   have hs:(gp out).size=out.length:=by rw [gp,pc];simp
   refine⟨[],[],_,_,_,ζ,bZ,(gp out,p),⟨by show ((gp out).size:Int)<=n;omega,hq0,by show p<=rp+1000;omega⟩,ζ,ζ,ζ⟩
end GL
namespace GL
def Rdr.at {r:List Int×Int}{n m p:Int}(h:Rdr r n) (h0:0<=p) (h1:p<=m):Rdr (r.1,p) m:=⟨h.len,h.jX,h0,h1⟩
def pk {z:Int×Int}{n p:Int}(hn:0<n) (h:(z.1=0\/(0<=z.1/\z.1<n))/\z.2=p+1):0<=z.1/\z.1<n:=by
 rcases h.1 with h |h
 ·rw [h];exact⟨ZC1 _,hn⟩
 ·exact h
def VF {ek:EK}{l:List (EK.Ty ek)}{P:EK.Ty ek->Prop}(h0:P (EK.zero ek)) (h:∀x∈l,P x) (k:Nat):P (nth ek l k):=by
 by_cases hk:k<l.length
 ·exact h _ (bS hk)
 ·unfold nth;rw [ZE1 (by omega)];exact h0
def BG (r:List Int×Int):Prop:=Rdr r 990000
def abW (r:List Int×Int) (z:Int×Int):Prop:=(-1<=z.1/\z.1<=64)/\r.2<=z.2/\z.2<=r.2+2
def abF (r:List Int×Int) (z:Int×Int):AV:=.s (.int z.1)
def afR (r:List Int×Int) (z:Int×Int):List AV:=[.a [.vw nJ r.1,.int z.2]]
def PS:cu where
 A:=[.b 0]
 B:=[.a [.vw nJ,.int]]
 pre:=λx b=>BG b
 α:=λ_ _=>Int×Int
 φ:=λx b z=>abW b z
 r:=λx b z=>abF b z
 o:=λx b z=>afR b z
def aiW:Has Tryz.prog 87 PS:=by
 refine Has.fP zT zF zF (l:=[(22,bE)]) ⟨fk,aa⟩ Tryz.func87 ?_
 rintro _ ⟨(rb:List Int),(rp:Int)⟩ (hp:BG (rb,rp))
 show vc _ _ _ _ (entry [.s (.bp 0 0)] [.a [.vw nJ rb,.int rp]]) _
 have hr:Rdr (rb,rp) 990000:=hp
 have hp0:0<=rp:=hr.p0
 have hp1:rp<=990000:=hr.p1
 refine⟨⟨tv3,?_,?_⟩,λx1 w2=>⟨λw3=>⟨aa,⟨tv3,?_,?_⟩,λx4 w5=>⟨⟨?_,?_⟩,?_,?_⟩⟩,λw6=>⟨⟨tv3,?_,?_⟩,λx7 w8=>⟨⟨?_,?_⟩,?_⟩⟩⟩⟩
 all_goals first|refine aw ?_|refine ax ?_|exact bb|(dsimp only [bE,dv];omega)|exact ba|(have e:x1.2=rp+1:=w2.2;exact hr.at (by omega) (by omega))|exact hr.at hp0 (by omega)|exact (pk (by decide) w5).1|exact (pk (by decide) w5).2|(show x4.1.toNat<6;have h:=pk (n:=6) (by decide) w5;omega)|(show (-9223372036854775808:Int)<=8+x7.1;have h:=pk (n:=12) (by decide) w8;omega)|(show 8+x7.1<=(9223372036854775807:Int);have h:=pk (n:=12) (by decide) w8;omega)|skip
 ·have e1:x1.2=rp+1:=w2.2
  have e2:x4.2=x1.2+1:=w5.2
  refine⟨[],[],_,_,_,ζ,bZ,(nth ag [-1,0,3,7,64,63] x4.1.toNat,x4.2),⟨VF (ek:=ag) (P:=λx:Int=> -1<=x/\x<=64) (by decide) (by decide) _,by show rp<=x4.2;omega,by show x4.2<=rp+2;omega⟩,ζ,ζ,ζ⟩
 ·have e1:x1.2=rp+1:=w2.2
  have e2:x7.2=x1.2+1:=w8.2
  have h:=pk (n:=12) (by decide) w8
  refine⟨[],[],_,_,_,ζ,bZ,(8+x7.1,x7.2),⟨⟨by show -1<=8+x7.1;omega,by show 8+x7.1<=64;omega⟩,by show rp<=x7.2;omega,by show x7.2<=rp+2;omega⟩,ζ,ζ,ζ⟩
def am7:List ByteArray:=[⟨#[]⟩,⟨#[97]⟩,⟨#[47,47]⟩,⟨#[47,97,47]⟩,⟨#[47,65]⟩,⟨#[47,97,47,98,47,99,47,97,47,98]⟩,⟨#[47,97,98,99,100,101]⟩,⟨#[47,97,47,47,98]⟩]
def am6:List ByteArray:=[⟨#[47,97]⟩,⟨#[47,98]⟩,⟨#[47,97,47,98]⟩,⟨#[47,97,47,99]⟩,⟨#[47,98,47,97]⟩,⟨#[47,99]⟩,⟨#[47,97,47,98,47,99]⟩,⟨#[47,99,47,97]⟩,⟨#[47,97,98]⟩,⟨#[47]⟩]
def xQ (r:List Int×Int):Prop:=Rdr r 990000
def kb (r:List Int×Int) (z:ByteArray×Int):Prop:=z.1.size<=12/\r.2<=z.2/\z.2<=r.2+2
def YC (r:List Int×Int) (z:ByteArray×Int):AV:=.s (.str z.1)
def ab2 (r:List Int×Int) (z:ByteArray×Int):List AV:=[.a [.vw nJ r.1,.int z.2]]
def kS:cu where
 A:=[.b 0]
 B:=[.a [.vw nJ,.int]]
 pre:=λx b=>xQ b
 α:=λ_ _=>ByteArray×Int
 φ:=λx b z=>kb b z
 r:=λx b z=>YC b z
 o:=λx b z=>ab2 b z
def agu:Has Tryz.prog 81 kS:=by
 refine Has.fP zT zF zF (l:=[(22,bE)]) ⟨fk,aa⟩ Tryz.func81 ?_
 rintro _ ⟨(rb:List Int),(rp:Int)⟩ (hp:xQ (rb,rp))
 show vc _ _ _ _ (entry [.s (.bp 0 0)] [.a [.vw nJ rb,.int rp]]) _
 have hr:Rdr (rb,rp) 990000:=hp
 have hp0:0<=rp:=hr.p0
 have hp1:rp<=990000:=hr.p1
 refine⟨⟨tv3,?_,?_⟩,λx1 w2=>⟨λw3=>⟨aa,⟨tv3,?_,?_⟩,λx4 w5=>⟨⟨?_,?_⟩,?_,?_⟩⟩,λw6=>⟨aa,⟨tv3,?_,?_⟩,λx7 w8=>⟨⟨?_,?_⟩,?_,?_⟩⟩⟩⟩
 all_goals first|refine aw ?_|refine ax ?_|exact bb|(dsimp only [bE,dv];omega)|exact ba|(have e:x1.2=rp+1:=w2.2;exact hr.at (by omega) (by omega))|exact hr.at hp0 (by omega)|exact (pk (by decide) w5).1|exact (pk (by decide) w5).2|exact (pk (by decide) w8).1|exact (pk (by decide) w8).2|(show x4.1.toNat<8;have h:=pk (n:=8) (by decide) w5;omega)|(show x7.1.toNat<10;have h:=pk (n:=10) (by decide) w8;omega)|skip
 ·have e1:x1.2=rp+1:=w2.2
  have e2:x4.2=x1.2+1:=w5.2
  refine⟨[],[],_,_,_,ζ,bZ,(nth ab am7 x4.1.toNat,x4.2),⟨VF (ek:=ab) (P:=λx:ByteArray=>x.size<=12) (by decide) (by decide) _,by show rp<=x4.2;omega,by show x4.2<=rp+2;omega⟩,ζ,ζ,ζ⟩
 ·have e1:x1.2=rp+1:=w2.2
  have e2:x7.2=x1.2+1:=w8.2
  refine⟨[],[],_,_,_,ζ,bZ,(nth ab am6 x7.1.toNat,x7.2),⟨VF (ek:=ab) (P:=λx:ByteArray=>x.size<=12) (by decide) (by decide) _,by show rp<=x7.2;omega,by show x7.2<=rp+2;omega⟩,ζ,ζ,ζ⟩
def BL (s:ByteArray) (n:Int):Prop:=s.size<=1000/\0<=n/\n<=1000
def lX (s:ByteArray) (n:Int) (z:ByteArray):Prop:=z.size=s.size*n.toNat
def abN (s:ByteArray) (n:Int) (z:ByteArray):AV:=.s (.str z)
def afZ (s:ByteArray) (n:Int) (z:ByteArray):List AV:=[]
def nD:cu where
 A:=[.s .str,.s .int]
 B:=[]
 pre:=λx b=>BL (x.1) (x.2)
 α:=λ_ _=>ByteArray
 φ:=λx b z=>lX (x.1) (x.2) z
 r:=λx b z=>abN (x.1) (x.2) z
 o:=λx b z=>afZ (x.1) (x.2) z
def ai1:Has Tryz.prog 82 nD:=by
 refine Has.fP zT zF zF (l:=[]) trivial Tryz.func82 ?_
 rintro⟨(s:ByteArray),(n:Int)⟩ _ (hp:BL s n)
 show vc _ _ _ _ (entry [.str s,.int n] []) _
 obtain⟨hs,(h0:0<=n),(h1:n<=1000)⟩:=hp
 have hb:s.size*n.toNat<=1000000:=ZA9 (Nat.mul_le_mul hs (show n.toNat<=1000 by omega)) (by decide)
 refine ?_
 all_goals first|refine aw ?_|refine ax ?_|exact bb|exact ba|skip
 refine df (l:=[]) (ex:=zT) (wr:=zF) (pt:=zF) trivial [] (λy:ByteArray×Int×ByteArray=>[(.s 0,.str y.1),(.s 1,.int y.2.1),(.s 5,.str y.2.2)]) (λy=>0<=y.2.1/\y.2.1<=1000/\y.2.2.size+y.1.size*y.2.1.toNat=s.size*n.toNat) (λy=>y.2.1.toNat) (s,n,⟨#[]⟩) [] ⟨h0,h1,by show 0+s.size*n.toNat=s.size*n.toNat;omega⟩ dP ?_
 rintro⟨t,m,out⟩ ⟨(g0:0<=m),(g1:m<=1000),(g2:out.size+t.size*m.toNat=s.size*n.toNat)⟩
 have hm:decide (m>0)=true->t.size<=1000000:=λh=>by
  have h3:=aF h
  have:t.size*1<=t.size*m.toNat:=Nat.mul_le_mul_left _ (by omega)
  omega
 have ho:out.size<=1000000:=by omega
 have e2:∀q:Nat,t.size*(2*q)=(t.size+t.size)*q:=λq=>by rw [Nat.mul_comm 2 q,<-Nat.mul_assoc,ZF0];omega
 refine⟨λw1=>⟨⟨?_,?_⟩,⟨λw2=>⟨?_,⟨?_,⟨⟨?_,⟨?_,?_⟩⟩,?_⟩⟩⟩,λw3=>⟨?_,⟨⟨?_,⟨?_,?_⟩⟩,?_⟩⟩⟩⟩,λw4=>?_⟩
 all_goals first|refine aw ?_|refine ax ?_|exact bb|exact ba|(show ((out.size+t.size:Nat):Int)<=9223372036854775807;have:=hm w1;omega)|(show ((t.size+t.size:Nat):Int)<=9223372036854775807;have:=hm w1;omega)|skip
 ·have h1:=aF (p:=m>0) w1
  have h2:=aF (p:=m % 2=1) w2
  have e:m.tdiv 2=m / 2:=Int.tdiv_eq_ediv_of_nonneg g0
  refine⟨(t++t,m / 2,out++t),[],?_,?_,?_⟩
  rotate_right
  ·exact bY
  ·refine⟨by show 0<=m / 2;omega,by show m / 2<=1000;omega,?_⟩
   show (out++t).size+(t++t).size*(m / 2).toNat=_
   rw [ZB4,ZB4,<-g2,<-e2,show m.toNat=2*(m / 2).toNat+1 by omega,Nat.mul_add];omega
  ·show (m / 2).toNat<m.toNat;omega
 ·have h1:=aF (p:=m>0) w1
  have h2:=aD (p:=m % 2=1) w3
  refine⟨(t++t,m / 2,out),[],?_,?_,?_⟩
  rotate_right
  ·exact bY
  ·refine⟨by show 0<=m / 2;omega,by show m / 2<=1000;omega,?_⟩
   show out.size+(t++t).size*(m / 2).toNat=_
   rw [ZB4,<-g2,<-e2,show m.toNat=2*(m / 2).toNat by omega]
  ·show (m / 2).toNat<m.toNat;omega
 ·have h1:=aD (p:=m>0) w4
  refine⟨[],[],_,_,_,ζ,bZ,out,show out.size=s.size*n.toNat by rw [<-g2,show m.toNat=0 by omega];omega,ζ,ζ,ζ⟩
end GL
namespace GL
def BH (r:List Int×Int):Prop:=Rdr r 980000
def rM (r:List Int×Int) (z:Pt×Int):Prop:=r.2<=z.2/\z.2<=r.2+1010
def abG (r:List Int×Int) (z:Pt×Int):AV:=.o (ptA z.1)
def afS (r:List Int×Int) (z:Pt×Int):List AV:=[.a [.vw nJ r.1,.int z.2]]
def sb:cu where
 A:=[.b 0]
 B:=[.a [.vw nJ,.int]]
 pre:=λx b=>BH b
 α:=λ_ _=>Pt×Int
 φ:=λx b z=>rM b z
 r:=λx b z=>abG b z
 o:=λx b z=>afS b z
def aiX:Has Tryz.prog 48 sb:=by
 refine Has.fP zT zF zF (l:=[(22,bE),(25,dZ),(86,E9),(87,PS)]) ⟨fk,zE,aeC,aiW,aa⟩ Tryz.func48 ?_
 rintro _ ⟨(rb:List Int),(rp:Int)⟩ (hp:BH (rb,rp))
 show vc _ _ _ _ (entry [.s (.bp 0 0)] [.a [.vw nJ rb,.int rp]]) _
 have hr:Rdr (rb,rp) 980000:=hp
 have hp0:0<=rp:=hr.p0
 have hp1:rp<=980000:=hr.p1
 refine⟨⟨tv3,?_,?_⟩,λx1 w2=>⟨λw3=>?_,λw4=>⟨⟨tv3,?_,?_⟩,λx5 w6=>⟨⟨?_,?_⟩,⟨tv3,?_,?_⟩,λx7 w8=>⟨⟨?_,?_⟩,⟨tv3,?_,?_⟩,λx9 dB=>⟨⟨tv3,?_,?_,?_⟩,λlJ dW=>⟨?_,⟨tv5,?_⟩,λtY gY=>⟨⟨tv3,?_,?_⟩,λnN kC=>⟨λxh=>⟨⟨tv2,?_⟩,λsA o9=>?_⟩,λtl=>⟨λFW=>⟨aa,⟨tv3,?_,?_⟩,λx22 zi=>⟨⟨?_,?_⟩,?_,?_⟩⟩,λtZ=>⟨λFV=>⟨aa,⟨tv3,?_,?_⟩,λtk w27=>⟨⟨?_,?_⟩,?_,?_⟩⟩,λw28=>⟨λw29=>⟨aa,⟨tv3,?_,?_⟩,λx30 w31=>⟨⟨?_,?_⟩,?_,?_⟩⟩,λw32=>⟨λw33=>⟨aa,⟨tv3,?_,?_⟩,λx34 w35=>⟨⟨?_,?_⟩,?_,?_⟩⟩,λw36=>?_⟩⟩⟩⟩⟩⟩⟩⟩⟩⟩⟩⟩⟩
 all_goals first|refine aw ?_|refine ax ?_|exact bb|(dsimp only [bE,dv,dZ,mo,E9,uw,PS,BG];omega)|exact ba|(simp only [gz];have h:=pk (n:=12) (by decide) w6;omega)|(simp only [imax];have h:=pk (n:=12) (by decide) w6;omega)|(simp only [gz];have h:=pk (n:=9) (by decide) w8;omega)|(simp only [imax];have h:=pk (n:=9) (by decide) w8;omega)|(unfold imax;have h:(lJ.1.size:Int)<=9:=dW.1;have h2:(⟨#[116]⟩:ByteArray).size=1:=rfl;omega)|(have e1:x1.2=rp+1:=w2.2;have e5:x5.2=x1.2+1:=w6.2;have e7:x7.2=x5.2+1:=w8.2;have e9:x9.2=x7.2+1:=dB.2;have e11:x9.2<=lJ.2/\lJ.2<=x9.2+1000:=dW.2;have e15:nN.2=lJ.2+1:=kC.2;exact hr.at (by omega) (by omega))|(have e1:x1.2=rp+1:=w2.2;have e5:x5.2=x1.2+1:=w6.2;have e7:x7.2=x5.2+1:=w8.2;have e9:x9.2=x7.2+1:=dB.2;have e11:x9.2<=lJ.2/\lJ.2<=x9.2+1000:=dW.2;exact hr.at (by omega) (by omega))|(have e1:x1.2=rp+1:=w2.2;have e5:x5.2=x1.2+1:=w6.2;have e7:x7.2=x5.2+1:=w8.2;have e9:x9.2=x7.2+1:=dB.2;exact hr.at (by omega) (by omega))|(have e1:x1.2=rp+1:=w2.2;have e5:x5.2=x1.2+1:=w6.2;have e7:x7.2=x5.2+1:=w8.2;exact hr.at (by omega) (by omega))|(have e1:x1.2=rp+1:=w2.2;have e5:x5.2=x1.2+1:=w6.2;exact hr.at (by omega) (by omega))|(have e1:x1.2=rp+1:=w2.2;exact hr.at (by omega) (by omega))|(exact hr.at (by omega) (by omega))|exact (pk (by decide) zi).1|exact (pk (by decide) zi).2|(show x22.1.toNat<4;have h:=pk (n:=4) (by decide) zi;omega)|exact (pk (by decide) w27).1|exact (pk (by decide) w27).2|(show tk.1.toNat<4;have h:=pk (n:=4) (by decide) w27;omega)|exact (pk (by decide) w31).1|exact (pk (by decide) w31).2|(show x30.1.toNat<4;have h:=pk (n:=4) (by decide) w31;omega)|exact (pk (by decide) w35).1|exact (pk (by decide) w35).2|(show x34.1.toNat<3;have h:=pk (n:=3) (by decide) w35;omega)|skip
 ·refine⟨[],[],_,_,_,ζ,bZ,((_,_,_,_,_),x1.2),⟨(by have e1:x1.2=rp+1:=w2.2;show rp<=x1.2;omega),(by have e1:x1.2=rp+1:=w2.2;show x1.2<=rp+1010;omega)⟩,ζ,ζ,ζ⟩
 ·have h:(lJ.1.size:Int)<=9:=dW.1
  have h3:((⟨#[116]⟩++lJ.1:ByteArray).size:Int)<=1000000000000:=by
   rw [ZB4]
   have h2:(⟨#[116]⟩:ByteArray).size=1:=rfl
   omega
  exact h3
 ·refine⟨[],[],_,_,_,ζ,bZ,((_,_,_,_,_),sA.2),⟨(by have e1:x1.2=rp+1:=w2.2;have e5:x5.2=x1.2+1:=w6.2;have e7:x7.2=x5.2+1:=w8.2;have e9:x9.2=x7.2+1:=dB.2;have e11:x9.2<=lJ.2/\lJ.2<=x9.2+1000:=dW.2;have e15:nN.2=lJ.2+1:=kC.2;have e18:nN.2<=sA.2/\sA.2<=nN.2+2:=o9.2;show rp<=sA.2;omega),(by have e1:x1.2=rp+1:=w2.2;have e5:x5.2=x1.2+1:=w6.2;have e7:x7.2=x5.2+1:=w8.2;have e9:x9.2=x7.2+1:=dB.2;have e11:x9.2<=lJ.2/\lJ.2<=x9.2+1000:=dW.2;have e15:nN.2=lJ.2+1:=kC.2;have e18:nN.2<=sA.2/\sA.2<=nN.2+2:=o9.2;show sA.2<=rp+1010;omega)⟩,ζ,ζ,ζ⟩
 ·refine⟨[],[],_,_,_,ζ,bZ,((_,(nth ag [0,-1,900,901] x22.1.toNat:Int),_,_,_),x22.2),⟨(by have e1:x1.2=rp+1:=w2.2;have e5:x5.2=x1.2+1:=w6.2;have e7:x7.2=x5.2+1:=w8.2;have e9:x9.2=x7.2+1:=dB.2;have e11:x9.2<=lJ.2/\lJ.2<=x9.2+1000:=dW.2;have e15:nN.2=lJ.2+1:=kC.2;have e22:x22.2=nN.2+1:=zi.2;show rp<=x22.2;omega),(by have e1:x1.2=rp+1:=w2.2;have e5:x5.2=x1.2+1:=w6.2;have e7:x7.2=x5.2+1:=w8.2;have e9:x9.2=x7.2+1:=dB.2;have e11:x9.2<=lJ.2/\lJ.2<=x9.2+1000:=dW.2;have e15:nN.2=lJ.2+1:=kC.2;have e22:x22.2=nN.2+1:=zi.2;show x22.2<=rp+1010;omega)⟩,ζ,ζ,ζ⟩
 ·refine⟨[],[],_,_,_,ζ,bZ,((_,_,(nth ag [0,-1,128,129] tk.1.toNat:Int),_,_),tk.2),⟨(by have e1:x1.2=rp+1:=w2.2;have e5:x5.2=x1.2+1:=w6.2;have e7:x7.2=x5.2+1:=w8.2;have e9:x9.2=x7.2+1:=dB.2;have e11:x9.2<=lJ.2/\lJ.2<=x9.2+1000:=dW.2;have e15:nN.2=lJ.2+1:=kC.2;have e26:tk.2=nN.2+1:=w27.2;show rp<=tk.2;omega),(by have e1:x1.2=rp+1:=w2.2;have e5:x5.2=x1.2+1:=w6.2;have e7:x7.2=x5.2+1:=w8.2;have e9:x9.2=x7.2+1:=dB.2;have e11:x9.2<=lJ.2/\lJ.2<=x9.2+1000:=dW.2;have e15:nN.2=lJ.2+1:=kC.2;have e26:tk.2=nN.2+1:=w27.2;show tk.2<=rp+1010;omega)⟩,ζ,ζ,ζ⟩
 ·refine⟨[],[],_,_,_,ζ,bZ,((_,_,_,(nth ag [-1,99460728,99460729,0] x30.1.toNat:Int),_),x30.2),⟨(by have e1:x1.2=rp+1:=w2.2;have e5:x5.2=x1.2+1:=w6.2;have e7:x7.2=x5.2+1:=w8.2;have e9:x9.2=x7.2+1:=dB.2;have e11:x9.2<=lJ.2/\lJ.2<=x9.2+1000:=dW.2;have e15:nN.2=lJ.2+1:=kC.2;have e30:x30.2=nN.2+1:=w31.2;show rp<=x30.2;omega),(by have e1:x1.2=rp+1:=w2.2;have e5:x5.2=x1.2+1:=w6.2;have e7:x7.2=x5.2+1:=w8.2;have e9:x9.2=x7.2+1:=dB.2;have e11:x9.2<=lJ.2/\lJ.2<=x9.2+1000:=dW.2;have e15:nN.2=lJ.2+1:=kC.2;have e30:x30.2=nN.2+1:=w31.2;show x30.2<=rp+1010;omega)⟩,ζ,ζ,ζ⟩
 ·refine⟨[],[],_,_,_,ζ,bZ,((_,_,_,_,(nth ag [-1,3,2] x34.1.toNat:Int)),x34.2),⟨(by have e1:x1.2=rp+1:=w2.2;have e5:x5.2=x1.2+1:=w6.2;have e7:x7.2=x5.2+1:=w8.2;have e9:x9.2=x7.2+1:=dB.2;have e11:x9.2<=lJ.2/\lJ.2<=x9.2+1000:=dW.2;have e15:nN.2=lJ.2+1:=kC.2;have e34:x34.2=nN.2+1:=w35.2;show rp<=x34.2;omega),(by have e1:x1.2=rp+1:=w2.2;have e5:x5.2=x1.2+1:=w6.2;have e7:x7.2=x5.2+1:=w8.2;have e9:x9.2=x7.2+1:=dB.2;have e11:x9.2<=lJ.2/\lJ.2<=x9.2+1000:=dW.2;have e15:nN.2=lJ.2+1:=kC.2;have e34:x34.2=nN.2+1:=w35.2;show x34.2<=rp+1010;omega)⟩,ζ,ζ,ζ⟩
 ·refine⟨[],[],_,_,_,ζ,bZ,((_,_,_,_,_),nN.2),⟨(by have e1:x1.2=rp+1:=w2.2;have e5:x5.2=x1.2+1:=w6.2;have e7:x7.2=x5.2+1:=w8.2;have e9:x9.2=x7.2+1:=dB.2;have e11:x9.2<=lJ.2/\lJ.2<=x9.2+1000:=dW.2;have e15:nN.2=lJ.2+1:=kC.2;show rp<=nN.2;omega),(by have e1:x1.2=rp+1:=w2.2;have e5:x5.2=x1.2+1:=w6.2;have e7:x7.2=x5.2+1:=w8.2;have e9:x9.2=x7.2+1:=dB.2;have e11:x9.2<=lJ.2/\lJ.2<=x9.2+1000:=dW.2;have e15:nN.2=lJ.2+1:=kC.2;show nN.2<=rp+1010;omega)⟩,ζ,ζ,ζ⟩
end GL
namespace GL
def uq (r:List Int×Int):Prop:=Rdr r 980000
def afD (r:List Int×Int) (z:Opr×Int):Prop:=(z.1.2.1.size<=30/\z.1.2.2.1.size<=30/\z.1.2.2.2.2.size<=30)/\r.2<=z.2/\z.2<=r.2+1020
def afv (r:List Int×Int) (z:Opr×Int):AV:=.o (.a [.int z.1.1,.str z.1.2.1,.str z.1.2.2.1,.int z.1.2.2.2.1,.str z.1.2.2.2.2])
def ah6 (r:List Int×Int) (z:Opr×Int):List AV:=[.a [.vw nJ r.1,.int z.2]]
def wB:cu where
 A:=[.b 0]
 B:=[.a [.vw nJ,.int]]
 pre:=λx b=>uq b
 α:=λ_ _=>Opr×Int
 φ:=λx b z=>afD b z
 r:=λx b z=>afv b z
 o:=λx b z=>ah6 b z
def VZ:Has Tryz.prog 44 wB:=by
 refine Has.fP zT zF zF (l:=[(22,bE),(81,kS),(25,dZ),(82,nD)]) ⟨fk,agu,zE,ai1,aa⟩ Tryz.func44 ?_
 rintro _ ⟨(rb:List Int),(rp:Int)⟩ (hp:uq (rb,rp))
 show vc _ _ _ _ (entry [.s (.bp 0 0)] [.a [.vw nJ rb,.int rp]]) _
 have hr:Rdr (rb,rp) 980000:=hp
 have hp0:0<=rp:=hr.p0
 have hp1:rp<=980000:=hr.p1
 refine⟨[.b 1004],[.s 4,.b 1004],ζ,aa,Sq0,Sq5,ζ,[.s 5,.b 0],[.s 6,.b 0],ζ,⟨tv3,?_,?_⟩,?_,λx1 w2=>⟨[.s 4,.s 6],Sq7,ζ,⟨?_,?_⟩,[.s 7,.b 1004],Sq8,ζ,?_,Sq0,Sq9,ζ,[.s 9,.b 0],[.s 10,.b 0],ζ,⟨tv2,?_⟩,?_,λx3 w4=>⟨[.s 8,.s 10],Sq11,ζ,[.b 1003],[.s 3,.b 1003],ζ,[.s 3,.s 11,.b 1003],[.b 1003],ζ,λw5=>⟨aa,⟨tv3,?_,?_⟩,λx6 w7=>⟨⟨?_,?_⟩,?_,⟨tv3,?_,?_,?_⟩,λx8 w9=>⟨⟨tv3,?_,?_⟩,λzd iP=>⟨λdW=>⟨aa,⟨tv3,?_,?_⟩,λtY gY=>⟨⟨?_,?_⟩,?_,?_⟩⟩,λnG=>⟨λkC=>⟨aa,⟨tv3,?_,?_⟩,λx17 qU=>⟨⟨?_,?_⟩,?_,?_⟩⟩,λo9=>⟨λtl=>⟨⟨tv3,?_,?_⟩,λx21 DB=>⟨⟨?_,?_⟩,⟨tv3,?_,?_,?_⟩,λx23 tZ=>?_⟩⟩,λFV=>⟨λw26=>⟨⟨tv2,?_⟩,λx27 w28=>?_⟩,λw29=>?_⟩⟩⟩⟩⟩⟩⟩,λw30=>⟨λw31=>⟨aa,⟨tv3,?_,?_⟩,λx32 w33=>⟨⟨?_,?_⟩,?_,⟨tv3,?_,?_⟩,λx34 w35=>⟨λw36=>⟨aa,⟨tv3,?_,?_⟩,λx37 w38=>⟨⟨?_,?_⟩,?_,?_⟩⟩,λw39=>⟨λw40=>⟨aa,⟨tv3,?_,?_⟩,λx41 w42=>⟨⟨?_,?_⟩,?_,?_⟩⟩,λw43=>⟨λw44=>⟨⟨tv3,?_,?_⟩,λx45 w46=>⟨⟨?_,?_⟩,⟨tv3,?_,?_,?_⟩,λx47 w48=>?_⟩⟩,λw49=>⟨λw50=>⟨⟨tv2,?_⟩,λx51 w52=>?_⟩,λw53=>?_⟩⟩⟩⟩⟩⟩,λw54=>⟨λw55=>⟨λw56=>⟨⟨tv2,?_⟩,λx57 w58=>⟨⟨tv3,?_,?_⟩,λx59 w60=>⟨λw61=>⟨aa,⟨tv3,?_,?_⟩,λx62 w63=>⟨⟨?_,?_⟩,?_,?_⟩⟩,λw64=>⟨λw65=>⟨aa,⟨tv3,?_,?_⟩,λx66 w67=>⟨⟨?_,?_⟩,?_,?_⟩⟩,λw68=>⟨λw69=>⟨⟨tv3,?_,?_⟩,λx70 w71=>⟨⟨?_,?_⟩,⟨tv3,?_,?_,?_⟩,λx72 w73=>?_⟩⟩,λw74=>⟨λw75=>⟨⟨tv2,?_⟩,λx76 w77=>?_⟩,λw78=>?_⟩⟩⟩⟩⟩⟩,λw79=>⟨⟨tv3,?_,?_⟩,λx80 w81=>⟨λw82=>⟨aa,⟨tv3,?_,?_⟩,λx83 w84=>⟨⟨?_,?_⟩,?_,?_⟩⟩,λw85=>⟨λw86=>⟨aa,⟨tv3,?_,?_⟩,λx87 w88=>⟨⟨?_,?_⟩,?_,?_⟩⟩,λw89=>⟨λw90=>⟨⟨tv3,?_,?_⟩,λx91 w92=>⟨⟨?_,?_⟩,⟨tv3,?_,?_,?_⟩,λx93 w94=>?_⟩⟩,λw95=>⟨λw96=>⟨⟨tv2,?_⟩,λx97 w98=>?_⟩,λw99=>?_⟩⟩⟩⟩⟩⟩,λar5=>⟨λaqj=>⟨⟨tv2,?_⟩,λaqg ar3=>⟨⟨tv3,?_,?_⟩,λaqf ar2=>⟨λar1=>⟨aa,⟨tv3,?_,?_⟩,λaqe ar0=>⟨⟨?_,?_⟩,?_,?_⟩⟩,λarZ=>⟨λarY=>⟨aa,⟨tv3,?_,?_⟩,λaqd arX=>⟨⟨?_,?_⟩,?_,?_⟩⟩,λarW=>⟨λarV=>⟨⟨tv3,?_,?_⟩,λaqc arU=>⟨⟨?_,?_⟩,⟨tv3,?_,?_,?_⟩,λaqb arT=>?_⟩⟩,λarS=>⟨λarR=>⟨⟨tv2,?_⟩,λaqa arQ=>?_⟩,λarP=>?_⟩⟩⟩⟩⟩⟩,λarO=>⟨⟨tv3,?_,?_⟩,λap9 arN=>⟨λarM=>⟨aa,⟨tv3,?_,?_⟩,λap8 arL=>⟨⟨?_,?_⟩,?_,?_⟩⟩,λarK=>⟨λarJ=>⟨aa,⟨tv3,?_,?_⟩,λap7 arI=>⟨⟨?_,?_⟩,?_,?_⟩⟩,λarH=>⟨λarG=>⟨⟨tv3,?_,?_⟩,λap6 arF=>⟨⟨?_,?_⟩,⟨tv3,?_,?_,?_⟩,λap5 arE=>?_⟩⟩,λarD=>⟨λarC=>⟨⟨tv2,?_⟩,λap4 arB=>?_⟩,λarA=>?_⟩⟩⟩⟩⟩⟩⟩⟩⟩⟩⟩
 all_goals first|refine aw ?_|refine ax ?_|exact bb|(dsimp only [bE,dv,kS,xQ,dZ,mo,nD,BL];omega)|exact ba|exact hr.at hp0 (by omega)|(refine hr.at ?_ ?_<;>(dsimp only [bE,ey,kS,kb,dZ,fV,nD,lX,dO] at * <;>omega))|(show _<((List.length _:Nat):Int);dsimp only [bE,ey,kS,kb,dZ,fV,nD,lX,dO,List.length_cons,List.length_nil] at *;omega)|(show Int.toNat _<_;dsimp only [bE,ey,kS,kb,dZ,fV,nD,lX,dO,List.length_cons,List.length_nil] at *;omega)|(dsimp only [bE,ey,kS,kb,dZ,fV,nD,lX,dO] at *;omega)|exact⟨(0,rp+1),.inl rfl,rfl⟩|exact⟨(⟨#[]⟩,x1.2),ZA7 _,ZC1 _,(by show x1.2<=x1.2+2;omega)⟩|(simp only [gz,imax];dsimp only [bE,ey,kS,kb,dZ,fV,nD,lX,dO] at *;omega)|(show (1:Nat)<=1000;omega)|skip
 all_goals
  first
   |refine⟨[],[],_,_,_,rfl,aC,(((_:EK.Ty ag),_,_,(_:EK.Ty ag),_),_),⟨⟨?_,?_,?_⟩,?_,?_⟩,rfl,rfl,rfl⟩
   |refine⟨[],[],_,_,_,rfl,aC,(((_:EK.Ty ag),_,_,_,_),_),⟨⟨?_,?_,?_⟩,?_,?_⟩,rfl,rfl,rfl⟩
  all_goals
   try cases x1
   try cases x3
   try cases x6
   try cases x8
   try cases zd
   try cases tY
   try cases x17
   try cases x21
   try cases x23
   try cases x27
   try cases x32
   try cases x34
   try cases x37
   try cases x41
   try cases x45
   try cases x47
   try cases x51
   try cases x57
   try cases x59
   try cases x62
   try cases x66
   try cases x70
   try cases x72
   try cases x76
   try cases x80
   try cases x83
   try cases x87
   try cases x91
   try cases x93
   try cases x97
   try cases aqg
   try cases aqf
   try cases aqe
   try cases aqd
   try cases aqc
   try cases aqb
   try cases aqa
   try cases ap9
   try cases ap8
   try cases ap7
   try cases ap6
   try cases ap5
   try cases ap4
  all_goals (dsimp only [bE,ey,kS,kb,dZ,fV,nD,lX,dO] at *;first|omega|exact ZA7 _|(simp only [show (⟨#[117]⟩:ByteArray).size=1 from rfl,Nat.one_mul] at *;omega))
end GL
namespace GL
structure akU (l:List Int):Prop where
 len:l.length<=2000000
 jX:∀b∈l,0<=b/\b<=255
def BJ (c:List Int):Prop:=akU c
def abX (c:List Int) (z:List Int):Prop:=Rdr (z,0) 0
def abM (c:List Int) (z:List Int):AV:=.s (.bp 0 0)
def afY (c:List Int) (z:List Int):List AV:=[.a [.vw nJ z,.int 0]]
def PV:cu where
 A:=[.s (.vw nJ)]
 B:=[]
 pre:=λx b=>BJ x
 α:=λ_ _=>List Int
 φ:=λx b z=>abX x z
 r:=λx b z=>abM x z
 o:=λx b z=>afY x z
 nf:=1
def ai0:Has Tryz.prog 11 PV:=by
 refine Has.fP zT zF zF (l:=[]) trivial Tryz.func11 ?_
 rintro (c:List Int) _ (hp:BJ c)
 show vc _ _ _ _ (entry [.s (.vw nJ c)] []) _
 have hb:akU c:=hp
 refine⟨λw1=>⟨⟨?_,⟨?_,?_⟩⟩,?_⟩,λw2=>?_⟩
 all_goals first|refine aw ?_|refine ax ?_|exact bb|exact ba|skip
 ·refine⟨[1010],[],_,_,_,ζ,bZ,List.take 2000 (List.drop 0 c),⟨by rw [ZB6];omega,λb h=>hb.jX b (ZF5 (ZE5 h)),ZC1 _,ZC1 _⟩,ζ,ζ,ζ⟩
 ·refine⟨[1010],[],_,_,_,ζ,bZ,c,⟨by have:=aD (p:=(c.length:Int)>2000) w2;show c.length<=2000;omega,hb.jX,ZC1 _,ZC1 _⟩,ζ,ζ,ζ⟩
end GL
namespace GL
end GL
namespace GL
structure Hur (s:ay):Prop where
 wg:s.wg 20000
 cz:0<=s.cz
 rf:∀k,(0:Int)<=nth ag s.refs k/\nth ag s.refs k<=(1000000:Int)
def xR (r:List Int×Int) (S:ay):Prop:=Rdr r 970000/\Hur S
def Y4 (r:List Int×Int) (S:ay) (z:ay×Nat×Int):Prop:=(z.1.gone.length<=20001/\z.1.dead.length<=20001)/\(r.2<=z.2.2/\z.2.2<=r.2+1100)/\z.2.1<=z.1.rows.length
def eM (r:List Int×Int) (S:ay) (z:ay×Nat×Int):AV:=.a [.xs 1 1 z.2.1 (z.1.rows.length-z.2.1),.xs 2 1 0 z.1.refs.length,.xs 3 1 0 z.1.last.length,.int z.1.cz,.xs 4 5 0 z.1.gone.length,.int z.1.cm,.xs 5 5 0 z.1.dead.length,.q z.1.same]
def ab3 (r:List Int×Int) (S:ay) (z:ay×Nat×Int):List AV:=[.a [.vw nJ r.1,.int z.2.2],.rs ab z.1.rows,.rs ag z.1.refs,.rs ag z.1.last,.rs ae z.1.gone,.rs ae z.1.dead]
def IG:cu where
 A:=[.b 0,.a vj]
 B:=[.a [.vw nJ,.int]]
 pre:=λx b=>xR b (x.2)
 α:=λ_ _=>ay×Nat×Int
 φ:=λx b z=>Y4 b (x.2) z
 r:=λx b z=>eM b (x.2) z
 o:=λx b z=>ab3 b (x.2) z
 nf:=5
def agv:Has Tryz.prog 23 IG:=by
 refine Has.fP zT zF zF (l:=[(47,kq),(22,bE),(25,dZ),(48,sb)]) ⟨OC,fk,zE,aiX,aa⟩ Tryz.func23 ?_
 rintro⟨_,⟨(aj:List ByteArray),(ak:List Int),(an:List Int),(ao:Int),(ah:List Pt),(aq:Int),(ai:List Pt),(ar:Bool)⟩⟩ ⟨(rb:List Int),(rp:Int)⟩ (hp:xR (rb,rp) (aj,ak,an,ao,ah,aq,ai,ar))
 show vc _ _ _ _ (entry [.s (.bp 0 0),.a [.vz ab aj,.vz ag ak,.vz ag an,.int ao,.vz ae ah,.int aq,.vz ae ai,.q ar]] [.a [.vw nJ rb,.int rp]]) _
 let A':=(aj,ak,an,ao,ah,aq,ai,ar)
 obtain⟨hr,hH⟩:=hp
 have lf:=hH.wg
 have aqK:0<=ao:=hH.cz
 have hrf:=hH.rf
 have hr1:∀k,(-9223372036854775808:Int)<=nth ag ak k+1:=λk=>ZE9 (by decide) (Int.add_le_add_right (hrf k).1 1)
 have hr2:∀k,(nth ag ak k+1:Int)<=(9223372036854775807:Int):=λk=>ZE9 (Int.add_le_add_right (hrf k).2 1) (by decide)
 have hr:Rdr (rb,rp) 970000:=hr
 have lf:ay.wg A' 20000:=lf
 have hp0:0<=rp:=hr.p0
 have hp1:rp<=970000:=hr.p1
 have hl:aj.length=64/\ak.length=64/\an.length=64:=lf.wf.n
 have hg:ah.length<=20000:=lf.g
 have htx:ao<=21000:=lf.t
 have hd:ai.length<=20000:=lf.d
 refine⟨⟨⟨tv9,aa⟩,?_,?_,?_,?_,?_⟩,λx1 w2=>⟨⟨tv3,?_,?_⟩,λx3 w4=>⟨⟨?_,?_⟩,⟨tv3,?_,?_⟩,λx5 w6=>⟨λw7=>⟨aa,⟨tv3,?_,?_⟩,λx8 w9=>⟨⟨?_,?_⟩,?_,?_⟩⟩,λdB=>⟨λiP=>⟨Sq3,Sq26,ζ,[.s 26,.b 1003],Sq27,ζ,Sq3,Sq28,ζ,[.s 28,.b 1003],Sq29,ζ,Sq29,Sq30,ζ,⟨?_,?_⟩,[.s 27,.s 30,.b 1031],[.s 31,.b 1031],ζ,aa,Sq0,Sq32,ζ,[.s 32,.b 0],[.s 33,.b 0],ζ,⟨tv3,?_,?_⟩,?_,λve iL=>⟨[.s 31,.s 33],Sq34,ζ,⟨?_,?_⟩,[.s 34,.b 1031],Sq35,ζ,?_,Sq3,Sq36,ζ,[.s 36,.s 35,.b 1003],[.b 1003],ζ,?_⟩⟩,λgY=>⟨λnG=>⟨Sq3,Sq39,ζ,[.s 39,.b 1003],Sq40,ζ,Sq5,Sq41,ζ,Sq0,Sq42,ζ,[.s 42,.b 0],[.s 43,.b 0],ζ,⟨tv3,?_,?_,?_⟩,?_,λx16 xh=>⟨[.s 40,.s 41],Sq44,ζ,⟨?_,?_⟩,[.s 44,.s 43,.b 80000],[.b 80000],ζ,?_,?_⟩⟩,λqU=>⟨λo9=>⟨Sq3,Sq47,ζ,Sq47,Sq48,ζ,[.s 48,.b 1003],Sq49,ζ,Sq5,Sq50,ζ,Sq3,Sq51,ζ,Sq51,Sq52,ζ,[.s 52,.b 1003],Sq53,ζ,Sq5,Sq54,ζ,[.s 53,.s 54],Sq55,ζ,⟨?_,?_⟩,[.s 55,.b 80001],Sq56,ζ,?_,Sq56,Sq57,ζ,⟨?_,?_⟩,[.s 49,.s 50],Sq58,ζ,⟨?_,?_⟩,[.s 58,.s 57,.b 80001],[.b 80001],ζ,?_,?_⟩,λtl=>⟨λFW=>⟨Sq3,Sq61,ζ,[.s 61,.b 1003],Sq62,ζ,Sq0,Sq63,ζ,[.s 63,.b 0],[.s 64,.b 0],ζ,⟨tv2,?_⟩,?_,λx22 zi=>⟨[.s 64,.b 1065],[.s 65,.b 1065],ζ,aa,[.s 62,.s 65,.b 80003,.b 1065,.b 1066],[.s 66,.b 1066,.b 80003],ζ,⟨⟨?_,?_⟩,?_,?_⟩,Sq3,Sq67,ζ,[.s 67,.s 66,.b 1003],[.b 1003],ζ,?_⟩⟩,λtZ=>⟨λFV=>⟨Sq3,Sq70,ζ,[.s 70,.b 1003],Sq71,ζ,Sq0,Sq72,ζ,[.s 72,.b 0],[.s 73,.b 0],ζ,⟨tv2,?_⟩,?_,λtk w27=>⟨[.s 73,.b 1074],[.s 74,.b 1074],ζ,aa,[.s 71,.s 74,.b 80004,.b 1074,.b 1075],[.s 75,.b 1075,.b 80004],ζ,⟨⟨?_,?_⟩,?_,?_⟩,Sq3,Sq76,ζ,[.s 76,.s 75,.b 1003],[.b 1003],ζ,?_⟩⟩,λw28=>⟨λw29=>⟨⟨?_,?_,?_⟩,?_⟩,λw30=>⟨λw31=>⟨⟨?_,?_⟩,⟨?_,?_⟩,?_,?_⟩,λw32=>⟨⟨?_,?_⟩,?_,?_⟩⟩⟩⟩⟩⟩⟩⟩⟩⟩⟩⟩
 all_goals first|refine aw ?_|refine ax ?_|exact bb|(dsimp only [kq,rz,bE,dv,dZ,mo,sb,BH];omega)|exact ba|exact hr1 _|exact hr2 _|exact hr.at hp0 (by omega)|(refine hr.at ?_ ?_<;>(dsimp only [kq,bE,ey,dZ,fV,sb,rM,dO,ay.rows,ay.refs,ay.last,ay.gone,ay.dead,ay.cz] at * <;>omega))|(show aj.length<=1000000;omega)|(show ak.length<=1000000;omega)|(show an.length<=1000000;omega)|(show ah.length<=1000000;omega)|(show ai.length<=1000000;omega)|(show (8+x3.1).toNat<aj.length;have h:=pk (n:=6) (by decide) w4;omega)|(show (8+x3.1).toNat<ak.length;have h:=pk (n:=6) (by decide) w4;omega)|(show (8+x3.1).toNat<an.length;have h:=pk (n:=6) (by decide) w4;omega)|(show 8+x3.1<(aj.length:Int);have h:=pk (n:=6) (by decide) w4;omega)|(show 8+x3.1<(ak.length:Int);have h:=pk (n:=6) (by decide) w4;omega)|(show 8+x3.1<(an.length:Int);have h:=pk (n:=6) (by decide) w4;omega)|(show 0<=8+x3.1;have h:=pk (n:=6) (by decide) w4;omega)|(simp only [gz];have h:=pk (n:=6) (by decide) w4;omega)|(simp only [imax];have h:=pk (n:=6) (by decide) w4;omega)|(show gz<=ao-1;simp only [gz];omega)|(show ao-1<=imax;simp only [imax];omega)|(show gz<=ao+1;simp only [gz];omega)|(show ao+1<=imax;simp only [imax];omega)|(show 2<aj.length;omega)|(show (2:Int)<(aj.length:Int);omega)|(show (1:Int)<=(aj.length:Int);omega)|(show ah.length+1<=1048576;omega)|(show ai.length+1<=1048576;omega)|(show _<((List.length _:Nat):Int);dsimp only [kq,bE,ey,dZ,fV,sb,rM,dO,ay.rows,ay.refs,ay.last,ay.gone,ay.dead,ay.cz,List.length_cons,List.length_nil] at *;omega)|(show Int.toNat _<_;dsimp only [kq,bE,ey,dZ,fV,sb,rM,dO,ay.rows,ay.refs,ay.last,ay.gone,ay.dead,ay.cz,List.length_cons,List.length_nil] at *;omega)|(dsimp only [kq,bE,ey,dZ,fV,sb,rM,dO,ay.rows,ay.refs,ay.last,ay.gone,ay.dead,ay.cz] at *;omega)|exact⟨(0,_),.inl rfl,rfl⟩|exact⟨(⟨#[]⟩,x5.2),(by show ((0:Nat):Int)<=9;decide),ZC1 _,(by show x5.2<=x5.2+1000;omega)⟩|exact⟨((0,0,0,0,0),x5.2),ZC1 _,(by show x5.2<=x5.2+1010;omega)⟩|skip
 ·refine⟨[80000,80001,80002,80003,80004],[],_,_,_,ζ,bZ,((aj,ak,an,(nth ag [0,900,901] x8.1.toNat:Int),ah,aq,ai,ar),0,x8.2),⟨⟨(by show List.length ah<=20001;omega),(by show List.length ai<=20001;omega)⟩,⟨(by have e3:x3.2=rp+1:=w4.2;have e5:x5.2=x3.2+1:=w6.2;have e8:x8.2=x5.2+1:=w9.2;show rp<=x8.2;omega),(by have e3:x3.2=rp+1:=w4.2;have e5:x5.2=x3.2+1:=w6.2;have e8:x8.2=x5.2+1:=w9.2;show x8.2<=rp+1100;omega)⟩,ZA7 _⟩,ζ,ζ,ζ⟩
 ·refine⟨[80000,80001,80002,80003,80004],[],_,_,_,ζ,bZ,((aj,ak,an,ao,ah,(nth ag [-1,ao,ao-1] ve.1.toNat:Int),ai,ar),0,ve.2),⟨⟨(by show List.length ah<=20001;omega),(by show List.length ai<=20001;omega)⟩,⟨(by have e3:x3.2=rp+1:=w4.2;have e5:x5.2=x3.2+1:=w6.2;have e8:ve.2=x5.2+1:=iL.2;show rp<=ve.2;omega),(by have e3:x3.2=rp+1:=w4.2;have e5:x5.2=x3.2+1:=w6.2;have e8:ve.2=x5.2+1:=iL.2;show ve.2<=rp+1100;omega)⟩,ZA7 _⟩,ζ,ζ,ζ⟩
 ·refine⟨[80000,80001,80002,80003,80004],[],_,_,_,ζ,bZ,((aj.set (8+x3.1).toNat x16.1,ak,an,ao,ah,aq,ai,ar),0,x16.2),⟨⟨(by show List.length ah<=20001;omega),(by show List.length ai<=20001;omega)⟩,⟨(by have e3:x3.2=rp+1:=w4.2;have e5:x5.2=x3.2+1:=w6.2;have e8:x5.2<=x16.2/\x16.2<=x5.2+1000:=xh.2;show rp<=x16.2;omega),(by have e3:x3.2=rp+1:=w4.2;have e5:x5.2=x3.2+1:=w6.2;have e8:x5.2<=x16.2/\x16.2<=x5.2+1000:=xh.2;show x16.2<=rp+1100;omega)⟩,ZA7 _⟩,(by show _=eM (rb,rp) A' _;unfold eM;dsimp only [ay.rows,ay.refs,ay.last,ay.gone,ay.dead];simp only [ZC6,ZA0];rfl),ζ,ζ⟩
 ·refine⟨[80000,80001,80002,80003,80004],[],_,_,_,ζ,bZ,((aj,ak.set (8+x3.1).toNat (nth ag ak (8+x3.1).toNat+1:Int),an,ao,ah,aq,ai,ar),0,x5.2),⟨⟨(by show List.length ah<=20001;omega),(by show List.length ai<=20001;omega)⟩,⟨(by have e3:x3.2=rp+1:=w4.2;have e5:x5.2=x3.2+1:=w6.2;show rp<=x5.2;omega),(by have e3:x3.2=rp+1:=w4.2;have e5:x5.2=x3.2+1:=w6.2;show x5.2<=rp+1100;omega)⟩,ZA7 _⟩,(by show _=eM (rb,rp) A' _;unfold eM;dsimp only [ay.rows,ay.refs,ay.last,ay.gone,ay.dead];simp only [ZC6,ZA0];rfl),ζ,ζ⟩
 ·refine⟨[80000,80001,80002,1066,80004],[],_,_,_,ζ,bZ,((aj,ak,an,ao,ah++[x22.1],aq,ai,ar),0,x22.2),⟨⟨(by show List.length (ah++[x22.1])<=20001;rw [ZA0];show ah.length+1<=20001;omega),(by show List.length ai<=20001;omega)⟩,⟨(by have e3:x3.2=rp+1:=w4.2;have e5:x5.2=x3.2+1:=w6.2;have e8:x5.2<=x22.2/\x22.2<=x5.2+1010:=zi;show rp<=x22.2;omega),(by have e3:x3.2=rp+1:=w4.2;have e5:x5.2=x3.2+1:=w6.2;have e8:x5.2<=x22.2/\x22.2<=x5.2+1010:=zi;show x22.2<=rp+1100;omega)⟩,ZA7 _⟩,(by show _=eM (rb,rp) A' _;unfold eM;dsimp only [ay.rows,ay.refs,ay.last,ay.gone,ay.dead];simp only [ZC6,ZA0];rfl),ζ,ζ⟩
 ·refine⟨[80000,80001,80002,80003,1075],[],_,_,_,ζ,bZ,((aj,ak,an,ao,ah,aq,ai++[tk.1],ar),0,tk.2),⟨⟨(by show List.length ah<=20001;omega),(by show List.length (ai++[tk.1])<=20001;rw [ZA0];show ai.length+1<=20001;omega)⟩,⟨(by have e3:x3.2=rp+1:=w4.2;have e5:x5.2=x3.2+1:=w6.2;have e8:x5.2<=tk.2/\tk.2<=x5.2+1010:=w27;show rp<=tk.2;omega),(by have e3:x3.2=rp+1:=w4.2;have e5:x5.2=x3.2+1:=w6.2;have e8:x5.2<=tk.2/\tk.2<=x5.2+1010:=w27;show tk.2<=rp+1100;omega)⟩,ZA7 _⟩,(by show _=eM (rb,rp) A' _;unfold eM;dsimp only [ay.rows,ay.refs,ay.last,ay.gone,ay.dead];simp only [ZC6,ZA0];rfl),ζ,ζ⟩
 ·refine⟨[80000,80001,80002,80003,80004],[],_,_,_,ζ,bZ,(A',1,x5.2),⟨⟨(by show List.length ah<=20001;omega),(by show List.length ai<=20001;omega)⟩,⟨(by have e3:x3.2=rp+1:=w4.2;have e5:x5.2=x3.2+1:=w6.2;show rp<=x5.2;omega),(by have e3:x3.2=rp+1:=w4.2;have e5:x5.2=x3.2+1:=w6.2;show x5.2<=rp+1100;omega)⟩,(by show 1<=aj.length;omega)⟩,ζ,ζ,ζ⟩
 ·refine⟨[80000,80001,80002,80003,80004],[],_,_,_,ζ,bZ,((aj,ak,an.set (8+x3.1).toNat (ao+1),ao,ah,aq,ai,ar),0,x5.2),⟨⟨(by show List.length ah<=20001;omega),(by show List.length ai<=20001;omega)⟩,⟨(by have e3:x3.2=rp+1:=w4.2;have e5:x5.2=x3.2+1:=w6.2;show rp<=x5.2;omega),(by have e3:x3.2=rp+1:=w4.2;have e5:x5.2=x3.2+1:=w6.2;show x5.2<=rp+1100;omega)⟩,ZA7 _⟩,(by show _=eM (rb,rp) A' _;unfold eM;dsimp only [ay.rows,ay.refs,ay.last,ay.gone,ay.dead];simp only [ZC6,ZA0];rfl),ζ,ζ⟩
 ·refine⟨[80000,80001,80002,80003,80004],[],_,_,_,ζ,bZ,((aj.set 2 ⟨#[108,111,119]⟩,ak,an,ao,ah,aq,ai,ar),0,x5.2),⟨⟨(by show List.length ah<=20001;omega),(by show List.length ai<=20001;omega)⟩,⟨(by have e3:x3.2=rp+1:=w4.2;have e5:x5.2=x3.2+1:=w6.2;show rp<=x5.2;omega),(by have e3:x3.2=rp+1:=w4.2;have e5:x5.2=x3.2+1:=w6.2;show x5.2<=rp+1100;omega)⟩,ZA7 _⟩,(by show _=eM (rb,rp) A' _;unfold eM;dsimp only [ay.rows,ay.refs,ay.last,ay.gone,ay.dead];simp only [ZC6,ZA0];rfl),ζ,ζ⟩
