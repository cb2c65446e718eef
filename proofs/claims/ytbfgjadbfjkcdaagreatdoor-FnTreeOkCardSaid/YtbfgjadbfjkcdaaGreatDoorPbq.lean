/- FnTreeOk returns true for every code (its row lists package variables, tied by the card): part 43. -/
import Derived.Below
import Derived.Carry
import Derived.LaidMore
import Derived.Lay
import Derived.Lib.LaidTab
import Derived.Lib.LaidU8
import Derived.OpenShut
import Derived.ProofKit
import Derived.SevenTiedAt
import Derived.Stop.Joined
import Derived.Stop.LaidErr
import Derived.Test.YtbfgjadbfjkcdaaGreatDoorCards
import Derived.Test.YtbfgjadbfjkcdaaGreatDoorRows
import Derived.Test.YtbfgjadbfjkcdaaGreatDoorTie
import Derived.Test.YtbfgjadbfjkcdaaGreatDoorPak
import Derived.Test.YtbfgjadbfjkcdaaGreatDoorPbd
import Derived.Test.YtbfgjadbfjkcdaaGreatDoorPbe
import Derived.Test.YtbfgjadbfjkcdaaGreatDoorPbf
import Derived.Test.YtbfgjadbfjkcdaaGreatDoorPbk
import Derived.Test.YtbfgjadbfjkcdaaGreatDoorPbo
import Derived.Test.YtbfgjadbfjkcdaaGreatDoorPbp
set_option maxHeartbeats 20000000
set_option linter.all false
namespace Go.Proofs.YtbfgjadbfjkcdaaGreatDoor
namespace GL
theorem XB {s:ay}{t:bf}(h:t.ok):(oL s t).length=t.many.toNat:=by
 unfold oL;rw [ZG3,fq h]
abbrev af7 (u v:ay):ay:=(v.rows,v.refs,v.last,u.ck,v.gone,u.bY,v.dead,u.same)
theorem af6 {u v:ay}(h:uv u v):af7 u v=v:=by
 unfold af7
 rw [←h.ck,←h.bY,←h.same]
theorem TA.hur {s:ay}{t:bf}{n:Nat}(h:TA s t) (hw:s.wg n) (hn:n≤20000):Hur s:=by
 obtain⟨X,ha⟩:=h.acc
 exact⟨hw.mono hn,by have:=ha.ck;omega,fun k=>⟨ZE1 (Int.natCast_nonneg _) (ha.sl k),ha.up k⟩⟩
def vh (r:List Int×Int):Prop:=FD r 900000
def R5 (r:List Int×Int) (z:ay×bf×Nat×Int):Prop:=(z.1.gone.length≤20001∧z.1.dead.length≤20001)∧(r.2≤z.2.2.2∧z.2.2.2≤r.2+40000)∧z.2.2.1≤z.1.rows.length
def RC (r:List Int×Int) (z:ay×bf×Nat×Int):AV:=.t [.a [.xs 1 1 z.2.2.1 (z.1.rows.length-z.2.2.1),.xs 2 1 0 z.1.refs.length,.xs 3 1 0 z.1.last.length,.int z.1.ck,.xs 4 5 0 z.1.gone.length,.int z.1.bY,.xs 5 5 0 z.1.dead.length,.q z.1.same],trA z.2.1]
def WD (r:List Int×Int) (z:ay×bf×Nat×Int):List AV:=[.a [.vw kL r.1,.int z.2.2.2],.rs ab z.1.rows,.rs ag z.1.refs,.rs ag z.1.last,.rs ae z.1.gone,.rs ae z.1.dead]
def DI:Con where
 A:=[.b 0]
 B:=[.a [.vw kL,.int]]
 pre:=fun x b=>vh b
 α:=fun _ _=>ay×bf×Nat×Int
 φ:=fun x b z=>R5 b z
 r:=fun x b z=>RC b z
 o:=fun x b z=>WD b z
 nf:=5
set_option maxRecDepth 100000 in
theorem ab0:Has Tryz.prog 9 DI:=by
 refine Has.ofP 3 (fun _=>true) (fun _=>false) (fun _=>false) (l:=[(15,kV),(16,bb),(17,kX),(18,eB),(19,cT),(20,ib),(21,kT),(22,np)]) ⟨yN,dh,yP,mb,pn,sG,yL,CU,trivial⟩ (fn:=Tryz.f9) Tryz.func9 rfl (by decide) (aZ rfl) ?_
 rintro _ ⟨(rb:List Int),(rp:Int)⟩ (hp:vh (rb,rp))
 show vcP _ _ _ _ 3 _ (entry [.s (.bp 0 0)] [.a [.vw kL rb,.int rp]])
 have hr:FD (rb,rp) 900000:=hp
 have hp0:0≤rp:=hr.p0
 have hp1:rp≤900000:=hr.p1
 refine zn (l:=[(15,kV),(16,bb),(17,kX),(18,eB),(19,cT),(20,ib),(21,kT),(22,np)]) (ex:=fun _=>true) (wr:=fun _=>false) (pt:=fun _=>false) ⟨yN,dh,yP,mb,pn,sG,yL,CU,aa⟩ (fun y:ay×bf×Int=>[(.s 0,.s (.bp 0 0)),(.s 2,.s (.bp 1002 0)),(.s 3,.s (.bp 1003 0)),(.s 4,.s (.bp 1004 0)),(.s 5,.s (.bp 1005 0)),(.b 0,.a [.vw kL rb,.int y.2.2]),(.b 1002,.a (uM pF.zero)),(.b 1003,.a (uM s3.zero)),(.b 1004,.a (k9 1000000001 1000000002 1000000003 1000000004 1000000005 y.1)),(.b 1005,.a [.int y.2.1.1,.int y.2.1.2.1,.int y.2.1.2.2.1,.int y.2.1.2.2.2.1,.int y.2.1.2.2.2.2.1,.int y.2.1.2.2.2.2.2.1,.int y.2.1.2.2.2.2.2.2]),(.b 1000000001,.rs ab y.1.rows),(.b 1000000002,.rs ag y.1.refs),(.b 1000000003,.rs ag y.1.last),(.b 1000000004,.rs ae y.1.gone),(.b 1000000005,.rs ae y.1.dead)]) (fun y=>TA y.1 y.2.1∧y.1.wg 10000∧rp≤y.2.2∧y.2.2≤rp+20002) (xk 3 (KK Tryz.f9)) ?_ (fun tail=>?_)
 ·rintro⟨u0,t0,q0⟩ ⟨(hT0:TA u0 t0),(hW0:u0.wg 10000),(hq0:rp≤q0),(hq1:q0≤rp+20002)⟩
  show vc _ _ _ _ (D6.ap [(.s 0,.s (.bp 0 0)),(.s 2,.s (.bp 1002 0)),(.s 3,.s (.bp 1003 0)),(.s 4,.s (.bp 1004 0)),(.s 5,.s (.bp 1005 0)),(.b 0,.a [.vw kL rb,.int q0]),(.b 1002,.a (uM pF.zero)),(.b 1003,.a (uM s3.zero)),(.b 1004,.a (k9 1000000001 1000000002 1000000003 1000000004 1000000005 u0)),(.b 1005,.a [.int t0.1,.int t0.2.1,.int t0.2.2.1,.int t0.2.2.2.1,.int t0.2.2.2.2.1,.int t0.2.2.2.2.2.1,.int t0.2.2.2.2.2.2]),(.b 1000000001,.rs ab u0.rows),(.b 1000000002,.rs ag u0.refs),(.b 1000000003,.rs ag u0.last),(.b 1000000004,.rs ae u0.gone),(.b 1000000005,.rs ae u0.dead)]) _
  refine⟨⟨⟨aa,aa,aa⟩,?_,?_⟩,fun x1 w2=>?_⟩
  all_goals first|refine aw ?_|refine ax ?_|exact ba|(dsimp only [kV,lS];omega)|(dsimp only [bb,cn];omega)|(dsimp only [kX,lU];omega)|(dsimp only [eB,fL];omega)|(dsimp only [cT,ig];omega)|(dsimp only [ib,jm];omega)|(dsimp only [kT,lQ];omega)|(dsimp only [np,nS];omega)|exact a8|exact hr.at (show 0≤q0 by omega) (show q0≤_ by omega)|skip
  have hk:=pk (n:=4) (by decide) w2
  have ek:x1.2=q0+1:=w2.2
  refine cO (l:=[(15,kV),(16,bb),(17,kX),(18,eB),(19,cT),(20,ib),(21,kT),(22,np)]) (ex:=fun _=>true) (wr:=fun _=>false) (pt:=fun _=>false) ⟨yN,dh,yP,mb,pn,sG,yL,CU,trivial⟩ [.s 0,.s 2,.s 3,.b 1002,.b 1003,.s 4,.s 5] (fun y:ay×bf×Int×Int=>[(.s 8,.int y.2.2.1),(.b 0,.a [.vw kL rb,.int y.2.2.2]),(.b 1004,.a (k9 1000000001 1000000002 1000000003 1000000004 1000000005 y.1)),(.b 1005,.a [.int y.2.1.1,.int y.2.1.2.1,.int y.2.1.2.2.1,.int y.2.1.2.2.2.1,.int y.2.1.2.2.2.2.1,.int y.2.1.2.2.2.2.2.1,.int y.2.1.2.2.2.2.2.2]),(.b 1000000001,.rs ab y.1.rows),(.b 1000000002,.rs ag y.1.refs),(.b 1000000003,.rs ag y.1.last),(.b 1000000004,.rs ae y.1.gone),(.b 1000000005,.rs ae y.1.dead)]) (fun y=>TA y.1 y.2.1∧y.1.wg (10000+7*(3-y.2.2.1).toNat)∧(0≤y.2.2.1∧y.2.2.1≤3)∧rp≤y.2.2.2∧y.2.2.2≤rp+20003+1002*(3-y.2.2.1)) (fun y=>y.2.2.1.toNat) (u0,t0,x1.1,x1.2) [] ⟨hT0,hW0.mono (by omega),⟨hk.1,by have:=hk.2;show x1.1≤3;omega⟩,by show rp≤x1.2;omega,by have:=hk.2;show x1.2≤rp+20003+1002*(3-x1.1);omega⟩ dN ?_
  rintro⟨u,tt,k,q⟩ ⟨(hT:TA u tt),(hW:u.wg (10000+7*(3-k).toNat)),⟨(hk0:0≤k),(hk3:k≤3)⟩,(hq2:rp≤q),(hq3:q≤rp+20003+1002*(3-k))⟩
  have cA:tt.ok:=hT.tree.ok
  have hug:u.gone.length≤20001:=ZB1 hW.g (by omega)
  have hud:u.dead.length≤20001:=ZB1 hW.d (by omega)
  have JB:=fun (x:Int) (text:ByteArray) (h0:0≤x) (h1:x≤15)=>ny (text:=text) hW cA h0 h1
  have xw:=fun (x:Int) (text:ByteArray) (h:0≤x∧x<16) (hz:false=(aY u tt x text).2.2)=>(JB x text h.1 (by omega)).2.2 hz.symm
  have hwp:=fun (x:Int) (text:ByteArray) (h:0≤x∧x<16)=>(JB x text h.1 (by omega)).1
  have hl3:=fun (x:Int) (text:ByteArray) (h:0≤x∧x<16) (hz:false=(aY u tt x text).2.2)=>(⟨hW.wf.n.1.trans (xw x text h hz).wf.n.1.symm,hW.wf.n.2.1.trans (xw x text h hz).wf.n.2.1.symm,hW.wf.n.2.2.trans (xw x text h hz).wf.n.2.2.symm,congrArg List.length (xw x text h hz).gone.symm,congrArg List.length (xw x text h hz).dead.symm⟩:u.rows.length=(aY u tt x text).1.rows.length∧u.refs.length=(aY u tt x text).1.refs.length∧u.last.length=(aY u tt x text).1.last.length∧u.gone.length=(aY u tt x text).1.gone.length∧u.dead.length=(aY u tt x text).1.dead.length)
  have hmx:=fun (x:Int) (text:ByteArray) (h:0≤x∧x<16) (hz:false=(aY u tt x text).2.2)=>af6 (xw x text h hz)
  have hTf:=fun (x:Int) (text:ByteArray) (hz:false=(aY u tt x text).2.2)=>hT.akV hz.symm
  have hTt:=fun (x:Int) (text:ByteArray) (h:0≤x∧x<16) (hz:true=(aY u tt x text).2.2)=>hT.put h.1 (by omega) hz.symm
  have h16:∀{p:Int} {x:Int×Int},(x.1=0∨(0≤x.1∧x.1<16))∧x.2=p+1→0≤x.1∧x.1<16:=fun h=>pk (n:=16) (by decide) h
  have hgf:=fun (x:Int) (text:ByteArray) (h:0≤x∧x<16) (hz:false=(aY u tt x text).2.2)=>(show (af7 u (aY u tt x text).1).gk by rw [hmx x text h hz];exact (hTf x text hz).gk (hwp x text h) (by omega))
  have hgt:=fun (x:Int) (text:ByteArray) (h:0≤x∧x<16) (hz:true=(aY u tt x text).2.2)=>(hTt x text h hz).gk (hwp x text h) (by omega)
  refine⟨fun w1=>⟨[.s 4,.b 1004],[.s 39],rfl,[.s 5,.b 1005],[.s 40],rfl,[.s 0],[.s 41],rfl,[.s 41,.b 0],[.s 42,.b 0],rfl,⟨⟨aa,aa,aa⟩,?_,?_⟩,?_,fun x2 w3=>⟨[.s 0],[.s 43],rfl,[.s 43,.b 0],[.s 44,.b 0],rfl,⟨⟨aa,aa,aa⟩,?_,?_,?_⟩,?_,fun x4 w5=>⟨[.s 39,.s 40,.s 42,.s 44,.b 1000000001,.b 1000000002,.b 1000000003,.b 1000000004,.b 1000000005,.b 1000460001,.b 1000460000],[.s 45,.b 1000000001,.b 1000000002,.b 1000000003,.b 1000000004,.b 1000000005,.b 1000460000,.b 1000460001],rfl,⟨⟨⟨aa,aa,aa,aa,aa,aa,aa,aa,aa⟩,⟨aa,aa,aa,aa,aa,aa,aa,aa⟩,aa,aa,aa⟩,⟨?_,?_,?_,?_,?_⟩,?_,?_,?_,?_,?_,?_,?_,?_⟩,?_,fun |false=>fun w6=>⟨[.s 45],[.s 38],rfl,[.s 38],[.s 46],rfl,[.s 38],[.s 47],rfl,[.s 38],[.s 48],rfl,[.b 1009],[.s 9,.b 1009],rfl,[.b 1010],[.s 10,.b 1010],rfl,[.s 9,.s 46,.b 1009],[.b 1009],rfl,[.s 10,.s 47,.b 1010],[.b 1010],rfl,[.s 48],[.s 11],rfl,fun w7=>⟨⟨⟨aa,aa,aa⟩,?_,?_⟩,fun x8 w9=>⟨fun dq=>⟨⟨⟨⟨aa,aa,aa,aa,aa,aa,aa,aa,aa⟩,aa⟩,⟨?_,?_,?_,?_,?_⟩,?_⟩,fun kE dI=>⟨⟨?_,?_⟩,?_⟩⟩,fun iJ=>⟨⟨?_,?_⟩,?_⟩⟩⟩,fun gI=>⟨⟨⟨aa,aa,aa⟩,?_,?_⟩,fun kD kj=>⟨fun wC=>⟨⟨⟨⟨aa,aa,aa,aa,aa,aa,aa,aa,aa⟩,aa⟩,⟨?_,?_,?_,?_,?_⟩,?_⟩,fun qN oB=>⟨⟨?_,?_⟩,?_⟩⟩,fun uw=>⟨⟨?_,?_⟩,?_⟩⟩⟩⟩ |true=>fun zm=>⟨[.s 45],[.s 38],rfl,[.s 38],[.s 46],rfl,[.s 38],[.s 47],rfl,[.s 38],[.s 48],rfl,[.b 1009],[.s 9,.b 1009],rfl,[.b 1010],[.s 10,.b 1010],rfl,[.s 9,.s 46,.b 1009],[.b 1009],rfl,[.s 10,.s 47,.b 1010],[.b 1010],rfl,[.s 48],[.s 11],rfl,fun zl=>⟨⟨⟨aa,aa,aa⟩,?_,?_⟩,fun x23 rG=>⟨fun w25=>⟨⟨⟨⟨aa,aa,aa,aa,aa,aa,aa,aa,aa⟩,aa⟩,⟨?_,?_,?_,?_,?_⟩,?_⟩,fun x26 w27=>⟨⟨?_,?_⟩,?_⟩⟩,fun w28=>⟨⟨?_,?_⟩,?_⟩⟩⟩,fun w29=>⟨⟨⟨aa,aa,aa⟩,?_,?_⟩,fun x30 w31=>⟨fun w32=>?_,fun w33=>⟨⟨?_,?_⟩,?_⟩⟩⟩⟩⟩⟩⟩,fun w34=>⟨⟨⟨aa,aa,aa⟩,?_,?_⟩,fun xB w36=>⟨fun w37=>⟨⟨⟨aa,aa,aa⟩,?_,?_⟩,fun x38 w39=>⟨[.s 4,.b 1004],[.s 82],rfl,[.s 5,.b 1005],[.s 83],rfl,[.s 2,.s 82,.b 1002],[.b 1002],rfl,[.s 3,.s 83,.b 1003],[.b 1003],rfl,?_⟩⟩,fun w40=>⟨fun w41=>⟨⟨⟨aa,aa,aa⟩,?_,?_⟩,fun x42 w43=>⟨⟨?_,?_⟩,[.s 4,.b 1004],[.s 82],rfl,[.s 5,.b 1005],[.s 83],rfl,[.s 2,.s 82,.b 1002],[.b 1002],rfl,[.s 3,.s 83,.b 1003],[.b 1003],rfl,?_⟩⟩,fun w44=>⟨fun w45=>⟨⟨⟨aa,⟨⟨?_,?_⟩,⟨?_,?_⟩,⟨?_,?_⟩,aa,⟨?_,?_⟩,aa,⟨?_,?_⟩,aa,aa⟩,aa⟩,?_,?_⟩,fun x46 w47=>⟨[.s 4,.b 1004],[.s 82],rfl,[.s 5,.b 1005],[.s 83],rfl,[.s 2,.s 82,.b 1002],[.b 1002],rfl,[.s 3,.s 83,.b 1003],[.b 1003],rfl,?_⟩⟩,fun w48=>⟨fun w49=>⟨[.s 0],[.s 78],rfl,[.s 4,.b 1004],[.s 79],rfl,[.s 78,.s 79,.b 0,.b 1000000001,.b 1000000002,.b 1000000003,.b 1000000004,.b 1000000005,.b 810004,.b 810003,.b 810002,.b 810001,.b 810000],[.s 80,.b 0,.b 810000,.b 810001,.b 810002,.b 810003,.b 810004],rfl,⟨⟨aa,⟨⟨?_,?_⟩,⟨?_,?_⟩,⟨?_,?_⟩,aa,⟨?_,?_⟩,aa,⟨?_,?_⟩,aa,aa⟩,aa⟩,?_,?_⟩,?_,fun x50 w51=>⟨[.s 5,.b 1005],[.s 81],rfl,[.s 2,.s 80,.b 1002],[.b 1002],rfl,[.s 3,.s 81,.b 1003],[.b 1003],rfl,?_⟩⟩,fun w52=>⟨[.s 4,.b 1004],[.s 82],rfl,[.s 5,.b 1005],[.s 83],rfl,[.s 2,.s 82,.b 1002],[.b 1002],rfl,[.s 3,.s 83,.b 1003],[.b 1003],rfl,?_⟩⟩⟩⟩⟩⟩⟩
  all_goals first|refine aw ?_|refine ax ?_|exact ba|(dsimp only [kV,lS];omega)|(dsimp only [bb,cn];omega)|(dsimp only [kX,lU];omega)|(dsimp only [eB,fL];omega)|(dsimp only [cT,ig];omega)|(dsimp only [ib,jm];omega)|(dsimp only [kT,lQ];omega)|(dsimp only [np,nS];omega)|exact a8|exact hr.at (show 0≤q by omega) (show q≤_ by omega)|exact hW.wf|exact cA.rd|exact cA.m1|exact ZB1 hW.g (by omega)|exact ZB1 hW.d (by omega)|exact absurd (show false=true from w7) Bool.noConfusion|exact absurd (show true=false from w29) Bool.noConfusion|exact⟨(0,q+1),.inl rfl,rfl⟩|exact hr.at (show 0≤x2.2 by have e2:x2.2=q+1:=w3.2;omega) (show x2.2≤_ by have e2:x2.2=q+1:=w3.2;omega)|exact⟨(⟨#[]⟩,x2.2),(by show ((0:Nat):Int)≤8;decide),ZC1 _,(by show x2.2≤x2.2+1000;omega)⟩|exact (pk (n:=16) (by decide) w3).1|(show x2.1≤15;have h:=(pk (n:=16) (by decide) w3).2;omega)|(show x4.1.size≤1000000;have h:(x4.1.size:Int)≤8:=w5.1;omega)|exact⟨_,rfl⟩|exact hr.at (show 0≤x4.2 by have e2:x2.2=q+1:=w3.2;have e4:x2.2≤x4.2∧x4.2≤x2.2+1000:=w5.2;omega) (show x4.2≤_ by have e2:x2.2=q+1:=w3.2;have e4:x2.2≤x4.2∧x4.2≤x2.2+1000:=w5.2;omega)|exact hr.at (show 0≤xB.2 by have e:xB.2=q+1:=w36.2;omega) (show xB.2≤_ by have e:xB.2=q+1:=w36.2;omega)|exact hT.hur hW (by omega)|exact⟨(u,0,xB.2),⟨hug,hud⟩,⟨ZC1 _,(by show xB.2≤xB.2+1100;omega)⟩,ZA8 _⟩|(show x50.2.1+(x50.1.rows.length-x50.2.1)≤x50.1.rows.length;have h:x50.2.1≤x50.1.rows.length:=w51.2.2;omega)|(show gO≤x42.1-1;have h:=pk (n:=19) (by decide) w43;unfold gO;omega)|(show x42.1-1≤imax;have h:=pk (n:=19) (by decide) w43;unfold imax;omega)|exact (hl3 x2.1 x4.1 (h16 w3) w6).1|exact (hl3 x2.1 x4.1 (h16 w3) w6).2.1|exact (hl3 x2.1 x4.1 (h16 w3) w6).2.2.1|exact (hl3 x2.1 x4.1 (h16 w3) w6).2.2.2.1|exact (hl3 x2.1 x4.1 (h16 w3) w6).2.2.2.2|exact hgf x2.1 x4.1 (h16 w3) w6|exact hgt x2.1 x4.1 (h16 w3) zm|skip
  ·have E8:0<k:=aE (p:=k>0) w1
   have e2:x2.2=q+1:=w3.2
   have e4:x2.2≤x4.2∧x4.2≤x2.2+1000:=w5.2
   have e9:kD.2=x4.2+1:=kj.2
   have hV:=(hTf x2.1 x4.1 w6).S2 (hwp x2.1 x4.1 (h16 w3)) (by omega)
   rw [←hmx x2.1 x4.1 (h16 w3) w6] at hV
   refine⟨(ik (af7 u (aY u tt x2.1 x4.1).1),tt,k-1,kD.2),[(1000000004,570000)],?_,?_,?_⟩
   rotate_right
   ·exact bX
   ·exact⟨hV.1,ay.wg.mono hV.2 (by show 10000+7*(3-k).toNat+6+1≤10000+7*(3-(k-1)).toNat;omega),⟨by show 0≤k-1;omega,by show k-1≤3;omega⟩,by show rp≤kD.2;omega,by show kD.2≤rp+20003+1002*(3-(k-1));omega⟩
   ·show (k-1).toNat<k.toNat;omega
  ·have E8:0<k:=aE (p:=k>0) w1
   have e2:x2.2=q+1:=w3.2
   have e4:x2.2≤x4.2∧x4.2≤x2.2+1000:=w5.2
   have e9:kD.2=x4.2+1:=kj.2
   have hs:=nK (b0:=1000000001) (b1:=1000000002) (b2:=1000000003) (b3:=1000000004) (b4:=1000000005) (xw x2.1 x4.1 (h16 w3) w6) hW.wf
   refine⟨((aY u tt x2.1 x4.1).1,tt,k-1,kD.2),[],?_,?_,?_⟩
   rotate_right
   ·repeat' (first|exact trivial|rfl|exact rfl|exact fP ZA0.symm|exact oU|exact congrArg (fun z=>some (AV.a z)) hs|apply And.intro)
   ·exact⟨hTf x2.1 x4.1 w6,ay.wg.mono (hwp x2.1 x4.1 (h16 w3)) (by show 10000+7*(3-k).toNat+6≤10000+7*(3-(k-1)).toNat;omega),⟨by show 0≤k-1;omega,by show k-1≤3;omega⟩,by show rp≤kD.2;omega,by show kD.2≤rp+20003+1002*(3-(k-1));omega⟩
   ·show (k-1).toNat<k.toNat;omega
  ·have E8:0<k:=aE (p:=k>0) w1
   have e2:x2.2=q+1:=w3.2
   have e4:x2.2≤x4.2∧x4.2≤x2.2+1000:=w5.2
   have e9:x23.2=x4.2+1:=rG.2
   have hV:=(hTt x2.1 x4.1 (h16 w3) zm).S2 (hwp x2.1 x4.1 (h16 w3)) (by omega)
   refine⟨(ik (aY u tt x2.1 x4.1).1,(aY u tt x2.1 x4.1).2.1,k-1,x23.2),[(1000000004,570000),(1000000005,1000460001)],?_,?_,?_⟩
   rotate_right
   ·exact bX
   ·exact⟨hV.1,ay.wg.mono hV.2 (by show 10000+7*(3-k).toNat+6+1≤10000+7*(3-(k-1)).toNat;omega),⟨by show 0≤k-1;omega,by show k-1≤3;omega⟩,by show rp≤x23.2;omega,by show x23.2≤rp+20003+1002*(3-(k-1));omega⟩
   ·show (k-1).toNat<k.toNat;omega
  ·have E8:0<k:=aE (p:=k>0) w1
   have e2:x2.2=q+1:=w3.2
   have e4:x2.2≤x4.2∧x4.2≤x2.2+1000:=w5.2
   have e9:x23.2=x4.2+1:=rG.2
   refine⟨((aY u tt x2.1 x4.1).1,(aY u tt x2.1 x4.1).2.1,k-1,x23.2),[(1000000004,1000460000),(1000000005,1000460001)],?_,?_,?_⟩
   rotate_right
   ·exact bX
   ·exact⟨hTt x2.1 x4.1 (h16 w3) zm,ay.wg.mono (hwp x2.1 x4.1 (h16 w3)) (by show 10000+7*(3-k).toNat+6≤10000+7*(3-(k-1)).toNat;omega),⟨by show 0≤k-1;omega,by show k-1≤3;omega⟩,by show rp≤x23.2;omega,by show x23.2≤rp+20003+1002*(3-(k-1));omega⟩
   ·show (k-1).toNat<k.toNat;omega
  ·exact absurd (show true=false from w29) Bool.noConfusion
  ·refine⟨[1000000001,1000000002,1000000003,1000000004,1000000005],[],_,_,_,rfl,ch,(u,(tt.1,tt.2.1,tt.2.2.1,tt.2.2.2.1,tt.2.2.2.2.1,x38.1,tt.2.2.2.2.2.2),0,x38.2),0,⟨⟨hug,hud⟩,⟨(by have e5:xB.2=q+1:=w36.2;have e8:x38.2=xB.2+1:=w39.2;show rp≤x38.2;omega),(by have e5:xB.2=q+1:=w36.2;have e8:x38.2=xB.2+1:=w39.2;show x38.2≤rp+40000;omega)⟩,ZA8 _⟩,rfl,rfl,rfl⟩
  ·refine⟨[1000000001,1000000002,1000000003,1000000004,1000000005],[],_,_,_,rfl,ch,(u,(tt.1,tt.2.1,tt.2.2.1,tt.2.2.2.1,tt.2.2.2.2.1,tt.2.2.2.2.2.1,x42.1-1),0,x42.2),0,⟨⟨hug,hud⟩,⟨(by have e5:xB.2=q+1:=w36.2;have e8:x42.2=xB.2+1:=w43.2;show rp≤x42.2;omega),(by have e5:xB.2=q+1:=w36.2;have e8:x42.2=xB.2+1:=w43.2;show x42.2≤rp+40000;omega)⟩,ZA8 _⟩,rfl,rfl,rfl⟩
  ·refine⟨[1000000001,1000000002,1000000003,1000000004,1000000005],[],_,_,_,rfl,ch,(u,(x46.1.1,x46.1.2.1,x46.1.2.2.1,x46.1.2.2.2.1,x46.1.2.2.2.2,tt.2.2.2.2.2.1,tt.2.2.2.2.2.2),0,x46.2),0,⟨⟨hug,hud⟩,⟨(by have e5:xB.2=q+1:=w36.2;have e8:xB.2≤x46.2∧x46.2≤xB.2+1020:=w47;show rp≤x46.2;omega),(by have e5:xB.2=q+1:=w36.2;have e8:xB.2≤x46.2∧x46.2≤xB.2+1020:=w47;show x46.2≤rp+40000;omega)⟩,ZA8 _⟩,rfl,rfl,rfl⟩
  ·refine⟨[810000,810001,810002,810003,810004],[],_,_,_,rfl,ch,(x50.1,tt,x50.2.1,x50.2.2),0,⟨w51.1,⟨(by have e5:xB.2=q+1:=w36.2;have e8:xB.2≤x50.2.2∧x50.2.2≤xB.2+1100:=w51.2.1;show rp≤x50.2.2;omega),(by have e5:xB.2=q+1:=w36.2;have e8:xB.2≤x50.2.2∧x50.2.2≤xB.2+1100:=w51.2.1;show x50.2.2≤rp+40000;omega)⟩,w51.2.2⟩,rfl,rfl,rfl⟩
  ·refine⟨[1000000001,1000000002,1000000003,1000000004,1000000005],[],_,_,_,rfl,ch,(u,tt,0,xB.2),0,⟨⟨hug,hud⟩,⟨(by have e5:xB.2=q+1:=w36.2;show rp≤xB.2;omega),(by have e5:xB.2=q+1:=w36.2;show xB.2≤rp+40000;omega)⟩,ZA8 _⟩,rfl,rfl,rfl⟩
 ·have hmm:∀{z:ay×bf×Int},(FS z.1 z.2.1∧z.1.wg 10000∧rp≤z.2.2∧z.2.2≤rp+20000)→0<((oL z.1 z.2.1).length:Int)∧((oL z.1 z.2.1).length:Int)≤16:=fun {z} h=>by
   rw [XB h.1.fi.tree.ok]
   have h1:=h.1.many;have h2:=h.1.fi.tree.m1;omega
  refine⟨⟨⟨aa,aa⟩,?_⟩,fun x1 w2=>⟨⟨⟨aa,aa,aa⟩,?_,?_⟩,fun x3 w4=>⟨fun w5=>⟨⟨⟨⟨⟨?_,?_⟩,⟨?_,?_⟩,⟨?_,?_⟩,aa,⟨?_,?_⟩,aa,⟨?_,?_⟩,aa,aa⟩,⟨aa,aa,aa,aa,aa,aa,aa,aa⟩,aa⟩,?_,?_⟩,fun x6 w7=>⟨⟨⟨aa,aa,aa⟩,?_,?_⟩,fun x8 w9=>⟨⟨?_,?_⟩,?_⟩⟩⟩,fun dq=>?_⟩⟩⟩
  all_goals first|refine aw ?_|refine ax ?_|exact ba|(dsimp only [kV,lS];omega)|(dsimp only [bb,cn];omega)|(dsimp only [kX,lU];omega)|(dsimp only [eB,fL];omega)|(dsimp only [cT,ig];omega)|(dsimp only [ib,jm];omega)|(dsimp only [kT,lQ];omega)|(dsimp only [np,nS];omega)|exact a8|exact hr|exact hr.at (show 0≤x1.2.2 by have e:rp≤x1.2.2∧x1.2.2≤rp+20000:=w2.2.2;omega) (show x1.2.2≤_ by have e:rp≤x1.2.2∧x1.2.2≤rp+20000:=w2.2.2;omega)|exact hr.at (show 0≤x3.2 by have e:rp≤x1.2.2∧x1.2.2≤rp+20000:=w2.2.2;have e3:x3.2=x1.2.2+1:=w4.2;omega) (show x3.2≤_ by have e:rp≤x1.2.2∧x1.2.2≤rp+20000:=w2.2.2;have e3:x3.2=x1.2.2+1:=w4.2;omega)|exact (show FS x1.1 x1.2.1 from w2.1).fi.acc.wf.rd|exact (show FS x1.1 x1.2.1 from w2.1).fi.tree.ok|exact ZE1 (hmm w2).2 (by decide)|exact (pk (hmm w2).1 w9).1|exact (pk (hmm w2).1 w9).2|skip
  ·have e:rp≤x1.2.2∧x1.2.2≤rp+20000:=w2.2.2
   have e3:x3.2=x1.2.2+1:=w4.2
   have e8:x8.2=x3.2+1:=w9.2
   have hF:FS x1.1 x1.2.1:=w2.1
   have hi:=pk (hmm w2).1 w9
   have hn:=XA hF.fi.tree (k:=x8.1.toNat) (by omega)
   refine joinTail tail ((x1.1,cU (nth pc (oL x1.1 x1.2.1) x8.1.toNat),x8.2)) [(1000000001,150000),(1000000002,150001),(1000000003,150002),(1000000004,150003),(1000000005,150004)] ((⟨by show TA x1.1 (cU (nth pc (oL x1.1 x1.2.1) x8.1.toNat));rw [hn];exact hF.taN (by have:=(hmm w2).2;omega),w2.2.1,by show rp≤x8.2;omega,by show x8.2≤rp+20002;omega⟩)) ?_
   repeat' (first|exact trivial|rfl|exact rfl|exact fP ZA0.symm|apply And.intro)
  ·have e:rp≤x1.2.2∧x1.2.2≤rp+20000:=w2.2.2
   have e3:x3.2=x1.2.2+1:=w4.2
   refine joinTail tail ((x1.1,x1.2.1,x3.2)) [(1000000001,150000),(1000000002,150001),(1000000003,150002),(1000000004,150003),(1000000005,150004)] ((⟨(show FS x1.1 x1.2.1 from w2.1).ta,w2.2.1,by show rp≤x3.2;omega,by show x3.2≤rp+20002;omega⟩)) ?_
   repeat' (first|exact trivial|rfl|exact rfl|exact fP ZA0.symm|apply And.intro)
  all_goals trace_state
end GL
namespace GL
def ql (c:List Int):Prop:=afQ c
def HO (c:List Int) (z:ay×bf):Prop:=z.1.gone.length≤20001∧z.1.dead.length≤20001
def G8 (c:List Int) (z:ay×bf):AV:=.t [.a [.vw ab z.1.rows,.vw ag z.1.refs,.vw ag z.1.last,.int z.1.ck,.vw ae z.1.gone,.int z.1.bY,.vw ae z.1.dead,.q z.1.same],trA z.2]
def K8 (c:List Int) (z:ay×bf):List AV:=[]
def uq:Con where
 A:=[.s (.vw kL)]
 B:=[]
 pre:=fun x b=>ql x
 α:=fun _ _=>ay×bf
 φ:=fun x b z=>HO x z
 r:=fun x b z=>G8 x z
 o:=fun x b z=>K8 x z
 nf:=0
set_option maxRecDepth 100000 in
theorem PY:Has Tryz.prog 4 uq:=by
 refine Has.ofE (fun _=>true) (fun _=>false) (fun _=>false) (l:=[(8,J9),(9,DI)]) ⟨aeb,ab0,trivial⟩ (fn:=Tryz.f4) Tryz.func4 rfl (by decide) (aZ rfl) ?_
 rintro (c:List Int) _ (hp:ql c)
 show vc _ _ _ _ (entry [.s (.vw kL c)] []) _
 have hb:afQ c:=hp
 refine⟨⟨⟨aa,aa⟩,?_⟩,fun x1 w2=>⟨⟨⟨aa,aa⟩,?_⟩,fun x3 w4=>⟨[.s 5,.b 1005],[.s 14],rfl,[.s 6,.b 1006],[.s 15],rfl,[.s 2,.s 14,.b 1002],[.b 1002],rfl,[.s 3,.s 15,.b 1003],[.b 1003],rfl,?_⟩⟩⟩
 all_goals first|refine aw ?_|refine ax ?_|exact ba|(dsimp only [J9,yn];omega)|(dsimp only [DI,vh];omega)|exact a8|exact hb|exact FD.at (show FD (x1,0) 0 from w2) (ZC1 _) (by decide)|(show x3.2.2.1+(x3.1.rows.length-x3.2.2.1)≤x3.1.rows.length;have h:x3.2.2.1≤x3.1.rows.length:=w4.2.2;omega)|skip
 ·have hg:x3.1.gone.length≤20001:=w4.1.1
  have hd:x3.1.dead.length≤20001:=w4.1.2
  have ho:x3.2.2.1+(x3.1.rows.length-x3.2.2.1)≤x3.1.rows.length:=by have h:x3.2.2.1≤x3.1.rows.length:=w4.2.2;omega
  refine⟨[],[],_,_,_,rfl,(by repeat' (first|exact trivial|apply And.intro|exact ZA9 (ZA7 _)|assumption|(simp only [ZA2,ZA3,dj,j9,ZA0,ZA1,ZA4];omega))),(((List.drop x3.2.2.1 x3.1.rows).take (x3.1.rows.length-x3.2.2.1),(List.drop 0 x3.1.refs).take (List.length x3.1.refs),(List.drop 0 x3.1.last).take (List.length x3.1.last),x3.1.ck,(List.drop 0 x3.1.gone).take (List.length x3.1.gone),x3.1.bY,(List.drop 0 x3.1.dead).take (List.length x3.1.dead),x3.1.same),x3.2.1),⟨by show (((List.drop 0 x3.1.gone).take (List.length x3.1.gone)).length)≤20001;rw [ZB8];exact ZB1 (Nat.min_le_left _ _) hg,by show (((List.drop 0 x3.1.dead).take (List.length x3.1.dead)).length)≤20001;rw [ZB8];exact ZB1 (Nat.min_le_left _ _) hd⟩,rfl,rfl,rfl⟩
end GL
namespace GL
structure akt (l:List Int):Prop where
 jd:∀b∈l,0≤b∧b≤255
theorem pg (s:ay) (t:bf):(gR s t).2=(gK s&&oI s t)∧((gR s t).2=false→(gR s t).1=[])∧((gR s t).2=true→(((gR s t).1.length:Nat):Int)=t.many):=by
 refine⟨zo,fun h=>?_,fun h=>?_⟩
 ·rw [zo] at h
  unfold gR;rw [h];rfl
 ·rw [zo] at h
  have h2:=(Bool.and_eq_true_iff.1 h).2
  unfold gR;rw [h,cond_true]
  show (((List.take _ _).length:Nat):Int)=_
  rw [ZB8]
  have h3:=SW h2
  have hb:=O8 h2
  unfold lu at hb
  have h4:=(cz.1 (cI (ZD7.1 hb).1)).1
  omega
def zH (c:List Int):Prop:=akt c
def et (c:List Int):AV:=.s (.q true)
def SN (c:List Int):List AV:=[]
def YP:Con where
 A:=[.s (.vw kL)]
 B:=[]
 pre:=fun x b=>zH x
 α:=fun _ _=>Unit
 φ:=fun _ _ _=>True
 r:=fun x b _=>et x
 o:=fun x b _=>SN x
 nf:=0
set_option maxRecDepth 100000 in
theorem XT:Has Tryz.prog 3 YP:=by
 refine Has.ofEI (fun _=>true) (fun _=>false) (fun _=>false) (l:=[(4,uq),(5,DO),(6,KH),(7,kz)]) ⟨PY,ab7,ael,xK,trivial⟩ (fn:=Tryz.f3) Tryz.func3 rfl (by decide) (aZ rfl) ?_
 rintro (c:List Int) _ (hp:zH c)
 show vc _ _ _ _ (entry [.s (.vw kL c)] []) _
 have hb:akt c:=hp
 refine⟨fun w1=>?_,fun w2=>⟨⟨⟨aa,aa⟩,?_⟩,fun x3 w4=>⟨⟨⟨⟨aa,aa,aa,aa,aa,aa,aa,aa,aa⟩,⟨aa,aa,aa,aa,aa,aa,aa,aa⟩,aa⟩,?_,?_⟩,fun x5 w6=>⟨⟨⟨⟨aa,aa,aa,aa,aa,aa,aa,aa,aa⟩,⟨aa,aa,aa,aa,aa,aa,aa,aa⟩,aa⟩,?_,?_⟩,fun x7 w8=>⟨fun w9=>?_,fun dq=>⟨⟨⟨⟨aa,aa,aa,aa,aa,aa,aa,aa,aa⟩,⟨aa,aa,aa,aa,aa,aa,aa,aa⟩,aa⟩,?_,?_⟩,fun |false=>fun kk=>⟨aa,fun dI=>⟨aa,fun iJ=>⟨aa,fun gI=>?_,fun pe=>⟨aa,fun kj=>?_,fun wC=>?_⟩⟩,fun qX=>⟨aa,fun oB=>?_,fun uw=>?_⟩⟩,fun zm=>?_⟩ |true=>fun zl=>⟨aa,fun xD=>⟨aa,fun rG=>⟨aa,fun w25=>?_,fun E1=>⟨aa,fun w27=>?_,fun w28=>?_⟩⟩,fun w29=>⟨aa,fun w30=>?_,fun w31=>?_⟩⟩,fun w32=>?_⟩⟩⟩⟩⟩⟩⟩
 all_goals first|refine aw ?_|refine ax ?_|exact ba|(dsimp only [uq,ql];omega)|(dsimp only [DO,vo];omega)|(dsimp only [KH,yw];omega)|(dsimp only [kz,kG];omega)|exact a8|exact ZB1 (show x3.1.gone.length≤20001 from w4.1) (by decide)|exact ZB1 (show x3.1.dead.length≤20001 from w4.2) (by decide)|skip
 ·refine⟨[],[],_,_,_,rfl,az,(),aa,?_,?_,rfl⟩
  ·(show _=et c);unfold et;first|rfl
  ·rfl
 ·have h:=aA (p:=(c.length:Int)>1048576) w2
  exact (afQ.mk (l:=c) (by omega) hb.jd)
 ·exact absurd (show (!((gK x3.1&&oI x3.1 x3.2)==(gK x3.1&&oI x3.1 x3.2)))=true from w9) (by simp)
 ·refine⟨[],[],_,_,_,rfl,az,(),aa,?_,?_,rfl⟩
  ·(show _=et c);unfold et;first|rfl
  ·rfl
 ·exact absurd (show (((gR x3.1 x3.2).1.length:Nat):Int)=0 by rw [(pg x3.1 x3.2).2.1 (rm iJ)];rfl) (aA pe)
 ·exact absurd (show (((gR x3.1 x3.2).1.length:Nat):Int)=0 by rw [(pg x3.1 x3.2).2.1 (rm iJ)];rfl) (aA pe)
 ·refine⟨[],[],_,_,_,rfl,az,(),aa,?_,?_,rfl⟩
  ·show AV.q _=et c;unfold et;refine congrArg AV.q ?_;exact decide_eq_true ((pg x3.1 x3.2).2.2 oB)
  ·rfl
 ·exact absurd ((cI qX).symm.trans uw) (by decide)
 ·exact absurd (show ((gK x3.1&&oI x3.1 x3.2)==(gR x3.1 x3.2).2)=false from zm) (by rw [(pg x3.1 x3.2).1];simp)
 ·refine⟨[],[],_,_,_,rfl,az,(),aa,?_,?_,rfl⟩
  ·(show _=et c);unfold et;first|rfl
  ·rfl
 ·exact absurd E1 (by decide)
 ·exact absurd E1 (by decide)
 ·refine⟨[],[],_,_,_,rfl,az,(),aa,?_,?_,rfl⟩
  ·show AV.q _=et c;unfold et;refine congrArg AV.q ?_;exact decide_eq_true (by have h:=(pg x3.1 x3.2).2.2 w30;have hn:(gR x3.1 x3.2).1=[]:=zl rfl;rw [hn] at h;exact h)
  ·rfl
 ·exact absurd ((cI w29).symm.trans w31) (by decide)
 ·exact absurd (show ((gK x3.1&&oI x3.1 x3.2)==(gR x3.1 x3.2).2)=false from w32) (by rw [(pg x3.1 x3.2).1];simp)
end GL
end Go.Proofs.YtbfgjadbfjkcdaaGreatDoor
namespace Go.Proofs.YtbfgjadbfjkcdaaGreatDoor
open Go Go.RowKit
namespace GL
inductive Bys (W:World) (l:List Int):Value→Prop where
 |none (p:Option Addr) (cap:Nat) (h:l=[]):Bys W l (.slice p 0 cap)
 |some (b o cap:Nat) (cs:Array Value) (e:TypeId) (fr:Nat×Nat) (h1:W.heap[b]?=Option.some (.cells cs e fr)) (h2:l.length≤cap) (h3:win cs o (flat kL l)):Bys W l (.slice (Option.some ⟨b,o,Option.none⟩) l.length cap)
def XK (W:World) (L:List Nat):bc:=fun b=>if b∈L then (match W.heap[b]? with
 |some (.cells cs e fr)=>some (.ro cs e fr)
 |_=>none) else none
theorem Z7 {W:World}{L:List Nat}{b:Nat}{cs:Array Value}{e:TypeId}{fr:Nat×Nat}(h:W.heap[b]?=some (.cells cs e fr)) (hb:b∈L):XK W L b=some (.ro cs e fr):=by
 unfold XK
 rw [if_pos hb,h]
theorem PK {W:World}{L:List Nat}{b:Nat}{k:BK}(h:XK W L b=some k):∃cs e fr,k= .ro cs e fr∧W.heap[b]?=some (.cells cs e fr):=by
 unfold XK at h
 by_cases hb:b∈L
 ·rw [if_pos hb] at h
  split at h
  ·rename_i cs e fr he
   cases h
   exact⟨cs,e,fr,rfl,he⟩
  ·cases h
 ·rw [if_neg hb] at h;cases h
theorem abZ {P:Program}{f:FuncId}{l:List Int}{v:Value}{W:World}{post:AV→List AV→Prop}(h:TC P f false [.s (.vw kL l)] [] post) (hp:∀r os,post r os→r= .s (.q true)) (hv:Bys W l v)
  (hg:∀g∈uG,∃cs e fr,W.heap[g.1]?=some (.cells cs e fr)∧g.2 cs):Calls P f #[v] W fun e w'=>e= .returned (.bool true)∧Below W.heap.size W w':=by
 have key:∀L:List Nat,(∀g∈uG,g.1∈L)→(SV.vw kL l).rel (XK W L) (fun _=>0) v→Calls P f #[v] W fun e w'=>e= .returned (.bool true)∧Below W.heap.size W w':=by
  intro L hL hr
  have h1:=h W (XK W L) (fun _=>0) [v] (fun b k hk=>by
    obtain⟨cs,e,fr,rfl,he⟩:=PK hk
    exact he) ⟨fun b ek n cs hk=>(by obtain⟨_,_,_,hx,_⟩:=PK hk;cases hx),fun g hm=>(by
     obtain⟨cs,e,fr,h1,h2⟩:=hg g hm
     exact⟨cs,e,fr,Z7 h1 (hL g hm),h2⟩)⟩ ⟨hr,trivial⟩ (fun av ha i hi=>(by
    rcases ZC7.1 ha with rfl
    cases hi)) ⟨ZA8 _,fun i av hi=>(by simp at hi),fun i j hi=>(by cases hi)⟩
  refine h1.mono fun e w' ⟨v',r,os,T',β',he,hpo,c7,_,ha,_⟩=>?_
  have uP:=hp r os hpo
  subst uP
  have hv':v'= .bool true:=c7
  subst hv'
  refine⟨he,ha.os,ha.tape,ha.output,ha.gd,fun b hb=>?_⟩
  cases hT:XK W L b with
  |none=>exact ha.frame b hb (fun i hi=>by cases hi) (by rw [hT];trivial)
  |some k=>
   obtain⟨cs,e',fr,rfl,hh⟩:=PK hT
   have h2:=ha.typed b _ ((ha.new b hb).trans hT)
   rw [hh];exact h2
 cases hv with
 |none p cap h0=>exact key (uG.map (·.1)) (fun g hm=>List.mem_map.2 ⟨g,hm,rfl⟩) (.inl ⟨h0,p,cap,rfl⟩)
 |some b o cap cs e fr h1 h2 h3=>
  exact key (b::uG.map (·.1)) (fun g hm=>List.mem_cons_of_mem _ (List.mem_map.2 ⟨g,hm,rfl⟩)) (.inr ⟨b,o,cap,cs,e,fr,rfl,h2,Z7 h1 (List.mem_cons_self ..),h3⟩)
end GL
end Go.Proofs.YtbfgjadbfjkcdaaGreatDoor
namespace Go.Proofs.YtbfgjadbfjkcdaaGreatDoor
open Go Go.ChangeShapes Go.WideShapes Go.ChangeAt Go.RowKit
theorem aiS {n:Int}(h:(Lit.int .u8 n).wf=true):0≤n∧n≤255:=by
 have h1:(decide (IntKind.u8.min≤n)&&decide (n≤IntKind.u8.max))=true:=h
 rw [show IntKind.u8.min=0 from rfl,show IntKind.u8.max=255 from rfl] at h1
 simpa using h1
theorem own:ownKnob Tryz.prog.godebug=none:=by kernel_rfl
theorem laidOut:laidOutB Tryz.prog=true:=by kernel_rfl
theorem agE:Tryz.prog.cellsOf 5=1:=by kernel_rfl
theorem VA {W:World}{n:String}{g:Nat}{cs:Array Value}(hg:Tryz.prog.globalNamed n=some g) (h:W.var? Tryz.prog n=some cs):∃e fr,W.heap[g]?=some (.cells cs e fr):=by
 unfold World.var? at h
 rw [hg] at h
 simp only [Option.bind_some] at h
 split at h
 ·rename_i c e fr he
  cases h
  exact⟨e,fr,he⟩
 ·cases h
set_option maxRecDepth 100000 in
theorem abW {W:World}(hs:W.ShapedOpen Tryz.prog):∃n e fr,W.heap[0]?=some (.cells #[.int .i64 n] e fr):=by
 obtain⟨cs,hh,hz,hr⟩:=hs.1 0 #[.int .i64 0] 3 (aE (by kernel_rfl)) (by kernel_rfl)
 obtain⟨ts,hts,_,qU⟩:=hr (by kernel_rfl)
 obtain rfl:=ZE7 ((show Tryz.prog.cellTypes Tryz.prog.depth 3=some [3] by kernel_rfl).symm.trans hts)
 have h1:cs.size=1:=hz
 obtain⟨u,hu,cA⟩:=qU 0 cs[0] (by simp [h1])
 have:u=3:=by simpa using hu.symm
 subst this
 unfold Cell.ok at cA
 rw [Tryz.underlying3] at cA
 have kh:cs= #[cs[0]]:=by
  apply Array.ext
  ·simp [h1]
  ·intro i h2 h3
   have:i=0:=by omega
   subst this;rfl
 rw [kh] at hh
 cases hv:cs[0] with
 |int k n=>
  rw [hv] at cA hh
  cases k<;>first|exact⟨n,_,_,hh⟩|simp at cA
 |_=>rw [hv] at cA;simp at cA
theorem DY {W:World}{l:List (String×DataW Unit)}{n nm:String}{d:DataW Unit}{g:Nat}(h:laidMet Tryz.prog l W) (hm:(n,DataW.iface nm d)∈l) (hg:Tryz.prog.globalNamed n=some g) (ht:(Tryz.prog.globals[g]?).map (·.type)=some 171):∃t v,W.var? Tryz.prog n=some #[.iface t v]:=by
 obtain⟨g',t,cs,fuel,p,hg',ht',hv,hd⟩:=Lib.laidMet.reads h hm
 obtain rfl:=ZE7 (hg.symm.trans hg')
 obtain rfl:=ZE7 (ht.symm.trans ht')
 obtain⟨_,u,v,kh,_⟩:=iface_of_trod Tryz.underlying171 hd
 refine⟨u,v,hv.trans (congrArg some ?_)⟩
 exact Array.toList_inj.1 kh
theorem aeM {W:World}(hs:W.ShapedOpen Tryz.prog) (hl:laidMet Tryz.prog Rows.fnTreeOkRow.laid W):∀g∈GL.uG,∃cs e fr,W.heap[g.1]?=some (.cells cs e fr)∧g.2 cs:=by
 have l2:=hl.tail.tail
 have l4:=l2.tail.tail
 have l5:=l4.tail
 have alc:=Lib.tabIs_of_head (k:=.u64) (zs:=Lib.pow10Tab) (g:=5) (t:=222) (e:=205) (n:=20) (by kernel_rfl) (by kernel_rfl) (by kernel_rfl) (by kernel_rfl) (by kernel_rfl) (by kernel_rfl) l2
 obtain⟨t1,v1,h1⟩:=DY (g:=4) l4 (.head _) (by kernel_rfl) (by kernel_rfl)
 obtain⟨t2,v2,h2⟩:=DY (g:=3) l5 (.head _) (by kernel_rfl) (by kernel_rfl)
 intro g hg
 unfold GL.uG at hg
 simp only [ZB9,ZF3,or_false] at hg
 rcases hg with rfl |rfl |rfl |rfl
 ·obtain⟨n,e,fr,h⟩:=abW hs
  exact⟨_,e,fr,h,n,rfl⟩
 ·obtain⟨e,fr,h⟩:=VA (g:=3) (by kernel_rfl) h2
  exact⟨_,e,fr,h,t2,v2,rfl⟩
 ·obtain⟨e,fr,h⟩:=VA (g:=4) (by kernel_rfl) h1
  exact⟨_,e,fr,h,t1,v1,rfl⟩
 ·obtain⟨e,fr,h⟩:=VA (g:=5) (by kernel_rfl) alc
  exact⟨_,e,fr,h,rfl⟩
end Go.Proofs.YtbfgjadbfjkcdaaGreatDoor
namespace Go.Proofs.YtbfgjadbfjkcdaaGreatDoor
open Go Go.ChangeShapes Go.WideShapes Go.ChangeAt Go.RowKit
def QI:Prop:=∀(W:World) (l:List Int) (v:Value),GL.Bys W l v→(∀b∈l,0≤b∧b≤255)→(∀g∈GL.uG,∃cs e fr,W.heap[g.1]?=some (.cells cs e fr)∧g.2 cs)→
 Calls Tryz.prog 3 #[v] W fun e w'=>e= .returned (.bool true)∧Below W.heap.size W w'
theorem aio {W:World}{b o len cap:Nat}{zs:List Int}(nc:0<len) (hc:len≤cap) (hlen:zs.length=cap) (EG:∀j,j<zs.length→W.cell? ⟨b,o+j,none⟩=some (.int .u8 (zs.getD j 0))):GL.Bys W (zs.take len) (.slice (some ⟨b,o,none⟩) len cap):=by
 have h0:=EG 0 (by omega)
 unfold World.cell? at h0
 split at h0
 ·rename_i cs e fr hh
  have hl:(zs.take len).length=len:=by rw [ZB8];omega
  have key:GL.win cs o (GL.flat GL.kL (zs.take len)):=fun j v hj=>by
   rw [GL.P1,ZG6] at hj
   cases hz:(zs.take len)[j]? with
   |none=>rw [hz] at hj;cases hj
   |some z=>
    rw [hz] at hj
    cases hj
    have bU:j<len:=by have:=(ZC0.1 hz).1;omega
    have hz':zs[j]?=some z:=by rw [←hz,List.getElem?_take_of_lt bU]
    have h1:=EG j (by omega)
    unfold World.cell? at h1
    rw [hh] at h1
    rw [show zs.getD j 0=z by simp [List.getD,hz']] at h1
    exact h1
  have h2:=GL.Bys.some (W:=W) (l:=zs.take len) b o cap cs e fr hh (by rw [hl];exact hc) key
  rw [hl] at h2
  exact h2
 ·cases h0
set_option maxRecDepth 100000 in
theorem lifted (hwalk:QI) (os:Os) (started:os.Started) (H:Type) (enc:TypeId×Value→H):
  ReturnsInHanded {} Tryz.checked os 3 .any (fun w args=>(Rows.fnTreeOkSpec.pre enc Tryz.prog Tryz.f3 Rows.fnTreeOkRow.domain false w args∧laidMetH Tryz.prog Rows.fnTreeOkRow.laid w)∧sizedMet enc Tryz.prog Tryz.f3 (OpenSpec.ofChange Rows.fnTreeOkSpec) false w args)
   (Rows.fnTreeOkSpec.post enc Tryz.prog Tryz.f3 false true false false):=by
 refine returnsInHanded_of_calls own started (by kernel_rfl)
  (ChangeSpec.witness_shaped (enc:=enc) (C:=Tryz.checked) (os:=os) (X:=fun w _=>laidMetH Tryz.prog Rows.fnTreeOkRow.laid w) false (World.laidAll Tryz.prog os Rows.fnTreeOkRow.laid) #[.slice none 0 0] 8 (World.laidAll_os _ _ _)
   (World.shaped_of_ZipB (by kernel_rfl) (by kernel_rfl)) (by kernel_rfl) (by kernel_rfl) (by kernel_rfl)
   (by rw [MakeChecks.laidMetH_plain _ _ _ (by kernel_rfl)];exact laidMet_laidAll _ (by kernel_rfl) (by kernel_rfl))) ?_
 intro w tape i _ hsh _ cA aes _
 obtain⟨_,_,_,fn',alx,_,_,_,_,aad⟩:=cA
 obtain rfl:fn'=Tryz.f3:=ZE7 (alx.symm.trans Tryz.func3)
 obtain⟨⟨⟨ds,gs,before,hw,hc⟩,hx⟩,hz⟩:=aes
 have hW:=DataW.Whole.of_heap (w':=w.forCall tape i) (by rfl) hw
 have hL:laidMet Tryz.prog Rows.fnTreeOkRow.laid (w.forCall tape i):=by
  rw [MakeChecks.laidMetH_plain _ _ _ (by kernel_rfl)] at hx
  exact laidMet.of_heap (w':=w.forCall tape i) (by rfl) hx
 have ahe:=aeM hsh hL
 generalize hWe:w.forCall tape i=W at hW aad ahe ⊢
 generalize hbe:w.heap.size=base at aad
 generalize hae:i.args=args at hW aad ⊢
 have key:Calls Tryz.prog 3 args W fun e W'=>∃v,e= .returned v∧Rows.fnTreeOkSpec.post enc Tryz.prog Tryz.f3 false true false false W args v W':=by
  have XW:∀(j:Nat) t v,Tryz.f3.params[j]?=some t→args[j]?=some v→Value.okWide Tryz.prog W .any base t v:=aad
  have hW':=hW
  obtain⟨p,q,hA0,hV,rfl,_,_⟩:=hW
  have hA:DataW.TrodAll enc Tryz.prog W 0 (fun _=>true) true Tryz.f3.params.toList args.toList ds p:=hA0
  rw [Tryz.params3] at hA XW
  obtain⟨v0,d0,rfl,rfl,h0⟩:=trodAll_one hA
  obtain⟨rfl,rfl⟩:=trodVars_none hV
  have h0k:=h0
  obtain⟨fuel,hf⟩:=h0
  clear hA0
  simp only [ZE4] at hW'
  have bU:∀x∈p,x.block<W.heap.size:=fun x hx=>by simpa using hW'.lt x hx
  obtain⟨a0,len,cap,rfl⟩:=okWide_slice Tryz.underlying22 (XW 0 22 v0 rfl rfl)
  have aid:∃zs,GL.Bys W zs (.slice a0 len cap)∧∀b∈zs,0≤b∧b≤255:=by
   rcases open_ints Tryz.underlying22 Tryz.underlying5 agE hf with ⟨kh,_⟩ |⟨a,amq,xz,zs,kh,_,hl,hm,hz,_,EG,hwz⟩
   ·simp [Value.cells] at kh
    obtain⟨rfl,rfl,rfl⟩:=kh
    exact⟨[],.none none 0 rfl,fun b hb=>by cases hb⟩
   ·simp [Value.cells] at kh
    obtain⟨rfl,rfl,rfl⟩:=kh
    by_cases h:len=0
    ·subst h
     exact⟨[],.none _ _ rfl,fun b hb=>by cases hb⟩
    ·simp only [if_true] at hz
     have nc:0<zs.length:=by omega
     obtain⟨b,off,spot⟩:=a
     have ajw:spot=none:=by simpa [Addr.add] using World.cell?_spot (EG 0 nc)
     subst ajw
     exact⟨zs.take len,aio (by omega) hl hz (fun j hj=>by have h1:=EG j hj;simp only [Addr.add] at h1;by_cases e:j=0;(subst e;rw [if_pos rfl] at h1;exact h1);(rw [if_neg e] at h1;exact h1)),fun x hx=>aiS (hwz x (ZE6 hx))⟩
  obtain⟨zs,hb1,hb2⟩:=aid
  refine (hwalk W zs _ hb1 hb2 ahe).mono fun e W' ⟨he,agt⟩=>?_
  subst he
  refine⟨_,rfl,?_⟩
  exact⟨_,_,_,[],_,[],hW',trodAll_mk1 (shut_bool Tryz.underlying4 _),trodAll_mk1 (Below.trod laidOut (by kernel_rfl) (aE (by kernel_rfl)) h0k agt bU),rfl,agt.frame _,fun h=>by cases h⟩
 refine key.mono fun e W' ⟨v,he,hp⟩=>?_
 subst he
 exact ChangeSpec.post_blind hp
theorem fnTreeOk_holds (hwalk:QI):Rows.FnTreeOkSaid:=
 OpenClaim.holds_of_wide 3 Tryz.f3 rfl rfl rfl rfl rfl rfl rfl ⟨rfl,rfl,rfl,rfl,rfl⟩ rfl rfl rfl rfl rfl (by kernel_rfl) Tryz.func3 (by kernel_rfl)
  (aE (by kernel_rfl)) (by unfold Func.isWrapper;first|(rw [if_pos (by decide+kernel)];kernel_rfl)|(rw [if_neg (by decide+kernel)];exact⟨rfl,rfl⟩))
  (fun os started H enc _=>lifted hwalk os started H enc)
theorem agF (hwalk:QI):Rows.FnTreeOkCardSaid:=
 Claim7.holds_tied_plain_at .later [] [.data, .data, .data, .data, .sentinel, .sentinel, .pinned] true (true, "eb720ad75bf9e053e8ab8d91ff51f8b6b83a0ac5bf943802e3daabdbacafcd86") true (fnTreeOk_holds hwalk) (fun _ h => by cases h) (by kernel_rfl) (fun _ h => by cases h) fnTreeOk_row_tie rfl ⟨rfl, rfl⟩ (by kernel_rfl) rfl
  (fun f fn hf hfn=>by
   obtain rfl : f = 3 := ZE7 ((show Tryz.prog.funcNamed "loop.example/poolfiles/laws.FnTreeOk" = some 3 by kernel_rfl).symm.trans hf) |>.symm
   obtain rfl:fn=Tryz.f3:=(ZE7 (Tryz.func3.symm.trans hfn)).symm
   exact⟨by kernel_rfl,fun j t ht=>by
    rw [Tryz.params3] at ht
    have hm:t∈[22]:=by simpa using Array.mem_of_getElem? ht
    have qU:([22].all fun u=> !Tryz.prog.wantsStandIn u)=true:=by kernel_rfl
    exact (show Tryz.prog.wantsStandIn t=false by simpa using ZC8.1 qU t hm)⟩)
  (by kernel_rfl)
end Go.Proofs.YtbfgjadbfjkcdaaGreatDoor
namespace Go.Proofs.YtbfgjadbfjkcdaaGreatDoor
open Go
theorem walked:QI:=fun W l v hv hb hg=>
 GL.abZ (l:=l) ((GL.XT.1 l () ⟨hb⟩)) (fun r os h=>by obtain⟨_,_,h1,_⟩:=h;exact h1) hv hg
theorem fnTreeOk_card_holds:Rows.FnTreeOkCardSaid:=agF walked
#print axioms fnTreeOk_card_holds
end Go.Proofs.YtbfgjadbfjkcdaaGreatDoor
