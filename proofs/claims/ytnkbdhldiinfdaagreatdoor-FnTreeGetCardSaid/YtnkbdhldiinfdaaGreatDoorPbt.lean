/- A drawn law returns true for every code (its row lists package variables, tied by the card): part 46. -/
import Derived.Below
import Derived.Test.YtnkbdhldiinfdaaGreatDoorPan
import Derived.Test.YtnkbdhldiinfdaaGreatDoorPbh
import Derived.Test.YtnkbdhldiinfdaaGreatDoorPbi
import Derived.Test.YtnkbdhldiinfdaaGreatDoorPbs
set_option maxHeartbeats 20000000
set_option maxRecDepth 100000
set_option linter.all false
namespace Go.Proofs.YtnkbdhldiinfdaaGreatDoor
namespace GL
theorem WV {s:ay}{t:bf}(h:t.ok):(oE s t).length=t.many.toNat:=by
 unfold oE;rw [ZG5,fq h]
abbrev afP (u v:ay):ay:=(v.rows,v.refs,v.last,u.cg,v.gone,u.bZ,v.dead,u.same)
theorem afO {u v:ay}(h:um u v):afP u v=v:=by
 unfold afP
 rw [←h.cg,←h.bZ,←h.same]
theorem TA.hur {s:ay}{t:bf}{n:Nat}(h:TA s t) (hw:s.wg n) (hn:n≤20000):Hur s:=by
 obtain⟨X,ha⟩:=h.acc
 exact⟨hw.mono hn,by have:=ha.cg;omega,fun k=>⟨ZE0 (Int.natCast_nonneg _) (ha.sl k),ha.up k⟩⟩
def DT (r:List Int×Int):Prop:=Rdr r 900000
def RQ (r:List Int×Int) (z:ay×bf×Nat×Int):Prop:=(z.1.gone.length≤20001∧z.1.dead.length≤20001)∧(r.2≤z.2.2.2∧z.2.2.2≤r.2+40000)∧z.2.2.1≤z.1.rows.length∧-1≤z.2.1.2.2.2.2.2.2∧z.2.1.2.2.2.2.2.2≤18
def QW (r:List Int×Int) (z:ay×bf×Nat×Int):AV:=.t [.a [.xs 1 1 z.2.2.1 (z.1.rows.length-z.2.2.1),.xs 2 1 0 z.1.refs.length,.xs 3 1 0 z.1.last.length,.int z.1.cg,.xs 4 5 0 z.1.gone.length,.int z.1.bZ,.xs 5 5 0 z.1.dead.length,.q z.1.same],trA z.2.1]
def VV (r:List Int×Int) (z:ay×bf×Nat×Int):List AV:=[.a [.vw mf r.1,.int z.2.2.2],.rs ab z.1.rows,.rs ag z.1.refs,.rs ag z.1.last,.rs ae z.1.gone,.rs ae z.1.dead]
def ab8:cn where
 A:=[.b 0]
 B:=[.a [.vw mf,.int]]
 pre:=fun x b=>DT b
 α:=fun _ _=>ay×bf×Nat×Int
 φ:=fun x b z=>RQ b z
 r:=fun x b z=>QW b z
 o:=fun x b z=>VV b z
 nf:=5
theorem aiy:Has Tryz.prog 29 ab8:=by
 refine Has.ofP 3 zT zF zF (l:=[(57,kP),(58,ba),(59,kR),(60,ez),(61,cS),(62,gZ),(63,kN),(64,na)]) ⟨yD,dh,yF,lY,pc,sB,yB,CO,aa⟩ Tryz.func29 ?_
 rintro _ ⟨(rb:List Int),(rp:Int)⟩ (hp:DT (rb,rp))
 show vcP _ _ _ _ 3 _ (entry [.s (.bp 0 0)] [.a [.vw mf rb,.int rp]])
 have hr:Rdr (rb,rp) 900000:=hp
 have hp0:0≤rp:=hr.p0
 have hp1:rp≤900000:=hr.p1
 refine zb (l:=[(57,kP),(58,ba),(59,kR),(60,ez),(61,cS),(62,gZ),(63,kN),(64,na)]) (ex:=zT) (wr:=zF) (pt:=zF) ⟨yD,dh,yF,lY,pc,sB,yB,CO,aa⟩ (fun y:ay×bf×Int=>[(.s 0,.s (.bp 0 0)),(.s 2,.s (.bp 1002 0)),(.s 3,.s (.bp 1003 0)),(.s 4,.s (.bp 1004 0)),(.s 5,.s (.bp 1005 0)),(.b 0,.a [.vw mf rb,.int y.2.2]),(.b 1002,.a (uF pB.zero)),(.b 1003,.a (uF sV.zero)),(.b 1004,.a (kW 1000000001 1000000002 1000000003 1000000004 1000000005 y.1)),(.b 1005,.a [.int y.2.1.1,.int y.2.1.2.1,.int y.2.1.2.2.1,.int y.2.1.2.2.2.1,.int y.2.1.2.2.2.2.1,.int y.2.1.2.2.2.2.2.1,.int y.2.1.2.2.2.2.2.2]),(.b 1000000001,.rs ab y.1.rows),(.b 1000000002,.rs ag y.1.refs),(.b 1000000003,.rs ag y.1.last),(.b 1000000004,.rs ae y.1.gone),(.b 1000000005,.rs ae y.1.dead)]) (fun y=>TA y.1 y.2.1∧y.1.wg 10000∧rp≤y.2.2∧y.2.2≤rp+20002) (xc 3 (J9 Tryz.f29)) ?_ (fun tail=>?_)
 ·rintro⟨u0,t0,q0⟩ ⟨(hT0:TA u0 t0),(hW0:u0.wg 10000),(hq0:rp≤q0),(hq1:q0≤rp+20002)⟩
  show vc _ _ _ _ (DX.ap [(.s 0,.s (.bp 0 0)),(.s 2,.s (.bp 1002 0)),(.s 3,.s (.bp 1003 0)),(.s 4,.s (.bp 1004 0)),(.s 5,.s (.bp 1005 0)),(.b 0,.a [.vw mf rb,.int q0]),(.b 1002,.a (uF pB.zero)),(.b 1003,.a (uF sV.zero)),(.b 1004,.a (kW 1000000001 1000000002 1000000003 1000000004 1000000005 u0)),(.b 1005,.a [.int t0.1,.int t0.2.1,.int t0.2.2.1,.int t0.2.2.2.1,.int t0.2.2.2.2.1,.int t0.2.2.2.2.2.1,.int t0.2.2.2.2.2.2]),(.b 1000000001,.rs ab u0.rows),(.b 1000000002,.rs ag u0.refs),(.b 1000000003,.rs ag u0.last),(.b 1000000004,.rs ae u0.gone),(.b 1000000005,.rs ae u0.dead)]) _
  refine⟨⟨tv3,?_,?_⟩,fun x1 w2=>?_⟩
  all_goals first|refine aw ?_|refine ax ?_|exact a8|(dsimp only [kP,lL,ba,ck,kR,lN,ez,fK,cS,ie,gZ,jk,kN,lJ,na,nL,gP];omega)|exact a7|exact hr.at (show 0≤q0 by omega) (show q0≤_ by omega)|skip
  have hk:=pk (n:=4) (by decide) w2
  have ek:x1.2=q0+1:=w2.2
  refine cN (l:=[(57,kP),(58,ba),(59,kR),(60,ez),(61,cS),(62,gZ),(63,kN),(64,na)]) (ex:=zT) (wr:=zF) (pt:=zF) ⟨yD,dh,yF,lY,pc,sB,yB,CO,trivial⟩ [.s 0,.s 2,.s 3,.b 1002,.b 1003,.s 4,.s 5] (fun y:ay×bf×Int×Int=>[(.s 8,.int y.2.2.1),(.b 0,.a [.vw mf rb,.int y.2.2.2]),(.b 1004,.a (kW 1000000001 1000000002 1000000003 1000000004 1000000005 y.1)),(.b 1005,.a [.int y.2.1.1,.int y.2.1.2.1,.int y.2.1.2.2.1,.int y.2.1.2.2.2.1,.int y.2.1.2.2.2.2.1,.int y.2.1.2.2.2.2.2.1,.int y.2.1.2.2.2.2.2.2]),(.b 1000000001,.rs ab y.1.rows),(.b 1000000002,.rs ag y.1.refs),(.b 1000000003,.rs ag y.1.last),(.b 1000000004,.rs ae y.1.gone),(.b 1000000005,.rs ae y.1.dead)]) (fun y=>TA y.1 y.2.1∧y.1.wg (10000+7*(3-y.2.2.1).toNat)∧(0≤y.2.2.1∧y.2.2.1≤3)∧rp≤y.2.2.2∧y.2.2.2≤rp+20003+1002*(3-y.2.2.1)) (fun y=>y.2.2.1.toNat) (u0,t0,x1.1,x1.2) [] ⟨hT0,hW0.mono (by omega),⟨hk.1,by have:=hk.2;show x1.1≤3;omega⟩,by show rp≤x1.2;omega,by have:=hk.2;show x1.2≤rp+20003+1002*(3-x1.1);omega⟩ dM ?_
  rintro⟨u,tt,k,q⟩ ⟨(hT:TA u tt),(hW:u.wg (10000+7*(3-k).toNat)),⟨(hk0:0≤k),(hk3:k≤3)⟩,(hq2:rp≤q),(hq3:q≤rp+20003+1002*(3-k))⟩
  have cG:tt.ok:=hT.tree.ok
  have xB:(-1:Int)≤tt.2.2.2.2.2.2:=by have h:(0:Int)≤tt.2.2.2.2.2.2:=cG.m0;omega
  have EW:(tt.2.2.2.2.2.2:Int)≤18:=by have h:(tt.2.2.2.2.2.2:Int)≤16:=cG.m1;omega
  have hug:u.gone.length≤20001:=ZB0 hW.g (by omega)
  have hud:u.dead.length≤20001:=ZB0 hW.d (by omega)
  have I1:=fun (x:Int) (text:ByteArray) (h0:0≤x) (h1:x≤15)=>nq (text:=text) hW cG h0 h1
  have xn:=fun (x:Int) (text:ByteArray) (h:0≤x∧x<16) (hz:false=(aY u tt x text).2.2)=>(I1 x text h.1 (by omega)).2.2 hz.symm
  have hwp:=fun (x:Int) (text:ByteArray) (h:0≤x∧x<16)=>(I1 x text h.1 (by omega)).1
  have hl3:=fun (x:Int) (text:ByteArray) (h:0≤x∧x<16) (hz:false=(aY u tt x text).2.2)=>(⟨hW.wf.n.1.trans (xn x text h hz).wf.n.1.symm,hW.wf.n.2.1.trans (xn x text h hz).wf.n.2.1.symm,hW.wf.n.2.2.trans (xn x text h hz).wf.n.2.2.symm,congrArg List.length (xn x text h hz).gone.symm,congrArg List.length (xn x text h hz).dead.symm⟩:u.rows.length=(aY u tt x text).1.rows.length∧u.refs.length=(aY u tt x text).1.refs.length∧u.last.length=(aY u tt x text).1.last.length∧u.gone.length=(aY u tt x text).1.gone.length∧u.dead.length=(aY u tt x text).1.dead.length)
  have hmx:=fun (x:Int) (text:ByteArray) (h:0≤x∧x<16) (hz:false=(aY u tt x text).2.2)=>afO (xn x text h hz)
  have hTf:=fun (x:Int) (text:ByteArray) (hz:false=(aY u tt x text).2.2)=>hT.akE hz.symm
  have hTt:=fun (x:Int) (text:ByteArray) (h:0≤x∧x<16) (hz:true=(aY u tt x text).2.2)=>hT.put h.1 (by omega) hz.symm
  have h16:∀{p:Int} {x:Int×Int},(x.1=0∨(0≤x.1∧x.1<16))∧x.2=p+1→0≤x.1∧x.1<16:=fun h=>pk (n:=16) (by decide) h
  have hgf:=fun (x:Int) (text:ByteArray) (h:0≤x∧x<16) (hz:false=(aY u tt x text).2.2)=>(show (afP u (aY u tt x text).1).gk by rw [hmx x text h hz];exact (hTf x text hz).gk (hwp x text h) (by omega))
  have hgt:=fun (x:Int) (text:ByteArray) (h:0≤x∧x<16) (hz:true=(aY u tt x text).2.2)=>(hTt x text h hz).gk (hwp x text h) (by omega)
  refine⟨fun w1=>⟨[.s 4,.b 1004],Sq39,rfl,[.s 5,.b 1005],Sq40,rfl,Sq0,Sq41,rfl,[.s 41,.b 0],[.s 42,.b 0],rfl,⟨tv3,?_,?_⟩,?_,fun x2 w3=>⟨Sq0,Sq43,rfl,[.s 43,.b 0],[.s 44,.b 0],rfl,⟨tv3,?_,?_,?_⟩,?_,fun x4 w5=>⟨[.s 39,.s 40,.s 42,.s 44,.b 1000000001,.b 1000000002,.b 1000000003,.b 1000000004,.b 1000000005,.b 1000460001,.b 1000460000],[.s 45,.b 1000000001,.b 1000000002,.b 1000000003,.b 1000000004,.b 1000000005,.b 1000460000,.b 1000460001],rfl,⟨⟨tv9,tv8,tv3⟩,⟨?_,?_,?_,?_,?_⟩,?_,?_,?_,?_,?_,?_,?_,?_⟩,?_,fun |false=>fun w6=>⟨Sq45,Sq38,rfl,Sq38,Sq46,rfl,Sq38,Sq47,rfl,Sq38,Sq48,rfl,[.b 1009],[.s 9,.b 1009],rfl,[.b 1010],[.s 10,.b 1010],rfl,[.s 9,.s 46,.b 1009],[.b 1009],rfl,[.s 10,.s 47,.b 1010],[.b 1010],rfl,Sq48,Sq11,rfl,fun w7=>⟨⟨tv3,?_,?_⟩,fun x8 w9=>⟨fun dy=>⟨⟨⟨tv9,aa⟩,⟨?_,?_,?_,?_,?_⟩,?_⟩,fun kz dJ=>⟨⟨?_,?_⟩,?_⟩⟩,fun iU=>⟨⟨?_,?_⟩,?_⟩⟩⟩,fun gO=>⟨⟨tv3,?_,?_⟩,fun ky kg=>⟨fun xh=>⟨⟨⟨tv9,aa⟩,⟨?_,?_,?_,?_,?_⟩,?_⟩,fun qH oL=>⟨⟨?_,?_⟩,?_⟩⟩,fun uI=>⟨⟨?_,?_⟩,?_⟩⟩⟩⟩ |true=>fun A4=>⟨Sq45,Sq38,rfl,Sq38,Sq46,rfl,Sq38,Sq47,rfl,Sq38,Sq48,rfl,[.b 1009],[.s 9,.b 1009],rfl,[.b 1010],[.s 10,.b 1010],rfl,[.s 9,.s 46,.b 1009],[.b 1009],rfl,[.s 10,.s 47,.b 1010],[.b 1010],rfl,Sq48,Sq11,rfl,fun A3=>⟨⟨tv3,?_,?_⟩,fun x23 rR=>⟨fun w25=>⟨⟨⟨tv9,aa⟩,⟨?_,?_,?_,?_,?_⟩,?_⟩,fun x26 w27=>⟨⟨?_,?_⟩,?_⟩⟩,fun w28=>⟨⟨?_,?_⟩,?_⟩⟩⟩,fun w29=>⟨⟨tv3,?_,?_⟩,fun x30 w31=>⟨fun w32=>?_,fun w33=>⟨⟨?_,?_⟩,?_⟩⟩⟩⟩⟩⟩⟩,fun w34=>⟨⟨tv3,?_,?_⟩,fun xt w36=>⟨fun w37=>⟨⟨tv3,?_,?_⟩,fun x38 w39=>⟨[.s 4,.b 1004],Sq82,rfl,[.s 5,.b 1005],Sq83,rfl,[.s 2,.s 82,.b 1002],[.b 1002],rfl,[.s 3,.s 83,.b 1003],[.b 1003],rfl,?_⟩⟩,fun w40=>⟨fun w41=>⟨⟨tv3,?_,?_⟩,fun x42 w43=>⟨⟨?_,?_⟩,[.s 4,.b 1004],Sq82,rfl,[.s 5,.b 1005],Sq83,rfl,[.s 2,.s 82,.b 1002],[.b 1002],rfl,[.s 3,.s 83,.b 1003],[.b 1003],rfl,?_⟩⟩,fun w44=>⟨fun w45=>⟨⟨⟨aa,⟨⟨?_,?_⟩,⟨?_,?_⟩,⟨?_,?_⟩,aa,⟨?_,?_⟩,aa,⟨?_,?_⟩,tv2⟩,aa⟩,?_,?_⟩,fun x46 w47=>⟨[.s 4,.b 1004],Sq82,rfl,[.s 5,.b 1005],Sq83,rfl,[.s 2,.s 82,.b 1002],[.b 1002],rfl,[.s 3,.s 83,.b 1003],[.b 1003],rfl,?_⟩⟩,fun w48=>⟨fun w49=>⟨Sq0,Sq78,rfl,[.s 4,.b 1004],Sq79,rfl,[.s 78,.s 79,.b 0,.b 1000000001,.b 1000000002,.b 1000000003,.b 1000000004,.b 1000000005,.b 810004,.b 810003,.b 810002,.b 810001,.b 810000],[.s 80,.b 0,.b 810000,.b 810001,.b 810002,.b 810003,.b 810004],rfl,⟨⟨aa,⟨⟨?_,?_⟩,⟨?_,?_⟩,⟨?_,?_⟩,aa,⟨?_,?_⟩,aa,⟨?_,?_⟩,tv2⟩,aa⟩,?_,?_⟩,?_,fun x50 w51=>⟨[.s 5,.b 1005],Sq81,rfl,[.s 2,.s 80,.b 1002],[.b 1002],rfl,[.s 3,.s 81,.b 1003],[.b 1003],rfl,?_⟩⟩,fun w52=>⟨[.s 4,.b 1004],Sq82,rfl,[.s 5,.b 1005],Sq83,rfl,[.s 2,.s 82,.b 1002],[.b 1002],rfl,[.s 3,.s 83,.b 1003],[.b 1003],rfl,?_⟩⟩⟩⟩⟩⟩⟩
  all_goals first|refine aw ?_|refine ax ?_|exact a8|(dsimp only [kP,lL,ba,ck,kR,lN,ez,fK,cS,ie,gZ,jk,kN,lJ,na,nL,gP];omega)|exact a7|exact hr.at (show 0≤q by omega) (show q≤_ by omega)|exact hW.wf|exact cG.rd|exact cG.m1|exact ZB0 hW.g (by omega)|exact ZB0 hW.d (by omega)|exact absurd (show false=true from w7) Bool.noConfusion|exact absurd (show true=false from w29) Bool.noConfusion|exact⟨(0,q+1),.inl rfl,rfl⟩|exact hr.at (show 0≤x2.2 by have e2:x2.2=q+1:=w3.2;omega) (show x2.2≤_ by have e2:x2.2=q+1:=w3.2;omega)|exact⟨(⟨#[]⟩,x2.2),(by show ((0:Nat):Int)≤8;decide),ZC1 _,(by show x2.2≤x2.2+1000;omega)⟩|exact (pk (n:=16) (by decide) w3).1|(show x2.1≤15;have h:=(pk (n:=16) (by decide) w3).2;omega)|(show x4.1.size≤1000000;have h:(x4.1.size:Int)≤8:=w5.1;omega)|exact⟨_,rfl⟩|exact hr.at (show 0≤x4.2 by have e2:x2.2=q+1:=w3.2;have e4:x2.2≤x4.2∧x4.2≤x2.2+1000:=w5.2;omega) (show x4.2≤_ by have e2:x2.2=q+1:=w3.2;have e4:x2.2≤x4.2∧x4.2≤x2.2+1000:=w5.2;omega)|exact hr.at (show 0≤xt.2 by have e:xt.2=q+1:=w36.2;omega) (show xt.2≤_ by have e:xt.2=q+1:=w36.2;omega)|exact hT.hur hW (by omega)|exact⟨(u,0,xt.2),⟨hug,hud⟩,⟨ZC1 _,(by show xt.2≤xt.2+1100;omega)⟩,ZA7 _⟩|(show x50.2.1+(x50.1.rows.length-x50.2.1)≤x50.1.rows.length;have h:x50.2.1≤x50.1.rows.length:=w51.2.2;omega)|(show gK≤x42.1-1;have h:=pk (n:=19) (by decide) w43;unfold gK;omega)|(show x42.1-1≤imax;have h:=pk (n:=19) (by decide) w43;unfold imax;omega)|exact (hl3 x2.1 x4.1 (h16 w3) w6).1|exact (hl3 x2.1 x4.1 (h16 w3) w6).2.1|exact (hl3 x2.1 x4.1 (h16 w3) w6).2.2.1|exact (hl3 x2.1 x4.1 (h16 w3) w6).2.2.2.1|exact (hl3 x2.1 x4.1 (h16 w3) w6).2.2.2.2|exact hgf x2.1 x4.1 (h16 w3) w6|exact hgt x2.1 x4.1 (h16 w3) A4|skip
  ·have EX:0<k:=aJ (p:=k>0) w1
   have e2:x2.2=q+1:=w3.2
   have e4:x2.2≤x4.2∧x4.2≤x2.2+1000:=w5.2
   have e9:ky.2=x4.2+1:=kg.2
   have hV:=(hTf x2.1 x4.1 w6).SJ (hwp x2.1 x4.1 (h16 w3)) (by omega)
   rw [←hmx x2.1 x4.1 (h16 w3) w6] at hV
   refine⟨(ij (afP u (aY u tt x2.1 x4.1).1),tt,k-1,ky.2),[(1000000004,570000)],?_,?_,?_⟩
   rotate_right
   ·exact bV
   ·exact⟨hV.1,ay.wg.mono hV.2 (by show 10000+7*(3-k).toNat+6+1≤10000+7*(3-(k-1)).toNat;omega),⟨by show 0≤k-1;omega,by show k-1≤3;omega⟩,by show rp≤ky.2;omega,by show ky.2≤rp+20003+1002*(3-(k-1));omega⟩
   ·show (k-1).toNat<k.toNat;omega
  ·have EX:0<k:=aJ (p:=k>0) w1
   have e2:x2.2=q+1:=w3.2
   have e4:x2.2≤x4.2∧x4.2≤x2.2+1000:=w5.2
   have e9:ky.2=x4.2+1:=kg.2
   have hs:=nD (b0:=1000000001) (b1:=1000000002) (b2:=1000000003) (b3:=1000000004) (b4:=1000000005) (xn x2.1 x4.1 (h16 w3) w6) hW.wf
   refine⟨((aY u tt x2.1 x4.1).1,tt,k-1,ky.2),[],?_,?_,?_⟩
   rotate_right
   ·repeat' (first|exact trivial|rfl|exact rfl|exact fP ZA0.symm|exact oP|exact congrArg (fun z=>some (AV.a z)) hs|apply And.intro)
   ·exact⟨hTf x2.1 x4.1 w6,ay.wg.mono (hwp x2.1 x4.1 (h16 w3)) (by show 10000+7*(3-k).toNat+6≤10000+7*(3-(k-1)).toNat;omega),⟨by show 0≤k-1;omega,by show k-1≤3;omega⟩,by show rp≤ky.2;omega,by show ky.2≤rp+20003+1002*(3-(k-1));omega⟩
   ·show (k-1).toNat<k.toNat;omega
  ·have EX:0<k:=aJ (p:=k>0) w1
   have e2:x2.2=q+1:=w3.2
   have e4:x2.2≤x4.2∧x4.2≤x2.2+1000:=w5.2
   have e9:x23.2=x4.2+1:=rR.2
   have hV:=(hTt x2.1 x4.1 (h16 w3) A4).SJ (hwp x2.1 x4.1 (h16 w3)) (by omega)
   refine⟨(ij (aY u tt x2.1 x4.1).1,(aY u tt x2.1 x4.1).2.1,k-1,x23.2),[(1000000004,570000),(1000000005,1000460001)],?_,?_,?_⟩
   rotate_right
   ·exact bV
   ·exact⟨hV.1,ay.wg.mono hV.2 (by show 10000+7*(3-k).toNat+6+1≤10000+7*(3-(k-1)).toNat;omega),⟨by show 0≤k-1;omega,by show k-1≤3;omega⟩,by show rp≤x23.2;omega,by show x23.2≤rp+20003+1002*(3-(k-1));omega⟩
   ·show (k-1).toNat<k.toNat;omega
  ·have EX:0<k:=aJ (p:=k>0) w1
   have e2:x2.2=q+1:=w3.2
   have e4:x2.2≤x4.2∧x4.2≤x2.2+1000:=w5.2
   have e9:x23.2=x4.2+1:=rR.2
   refine⟨((aY u tt x2.1 x4.1).1,(aY u tt x2.1 x4.1).2.1,k-1,x23.2),[(1000000004,1000460000),(1000000005,1000460001)],?_,?_,?_⟩
   rotate_right
   ·exact bV
   ·exact⟨hTt x2.1 x4.1 (h16 w3) A4,ay.wg.mono (hwp x2.1 x4.1 (h16 w3)) (by show 10000+7*(3-k).toNat+6≤10000+7*(3-(k-1)).toNat;omega),⟨by show 0≤k-1;omega,by show k-1≤3;omega⟩,by show rp≤x23.2;omega,by show x23.2≤rp+20003+1002*(3-(k-1));omega⟩
   ·show (k-1).toNat<k.toNat;omega
  ·exact absurd (show true=false from w29) Bool.noConfusion
  ·refine⟨[1000000001,1000000002,1000000003,1000000004,1000000005],[],_,_,_,rfl,cf,(u,(tt.1,tt.2.1,tt.2.2.1,tt.2.2.2.1,tt.2.2.2.2.1,x38.1,tt.2.2.2.2.2.2),0,x38.2),0,⟨⟨hug,hud⟩,⟨(by have e5:xt.2=q+1:=w36.2;have e8:x38.2=xt.2+1:=w39.2;show rp≤x38.2;omega),(by have e5:xt.2=q+1:=w36.2;have e8:x38.2=xt.2+1:=w39.2;show x38.2≤rp+40000;omega)⟩,ZA7 _,xB,EW⟩,rfl,rfl,rfl⟩
  ·refine⟨[1000000001,1000000002,1000000003,1000000004,1000000005],[],_,_,_,rfl,cf,(u,(tt.1,tt.2.1,tt.2.2.1,tt.2.2.2.1,tt.2.2.2.2.1,tt.2.2.2.2.2.1,x42.1-1),0,x42.2),0,⟨⟨hug,hud⟩,⟨(by have e5:xt.2=q+1:=w36.2;have e8:x42.2=xt.2+1:=w43.2;show rp≤x42.2;omega),(by have e5:xt.2=q+1:=w36.2;have e8:x42.2=xt.2+1:=w43.2;show x42.2≤rp+40000;omega)⟩,ZA7 _,(by have h:=(pk (n:=19) (by decide) w43).1;show (-1:Int)≤x42.1-1;omega),(by have h:=(pk (n:=19) (by decide) w43).2;show x42.1-1≤(18:Int);omega)⟩,rfl,rfl,rfl⟩
  ·refine⟨[1000000001,1000000002,1000000003,1000000004,1000000005],[],_,_,_,rfl,cf,(u,(x46.1.1,x46.1.2.1,x46.1.2.2.1,x46.1.2.2.2.1,x46.1.2.2.2.2,tt.2.2.2.2.2.1,tt.2.2.2.2.2.2),0,x46.2),0,⟨⟨hug,hud⟩,⟨(by have e5:xt.2=q+1:=w36.2;have e8:xt.2≤x46.2∧x46.2≤xt.2+1020:=w47;show rp≤x46.2;omega),(by have e5:xt.2=q+1:=w36.2;have e8:xt.2≤x46.2∧x46.2≤xt.2+1020:=w47;show x46.2≤rp+40000;omega)⟩,ZA7 _,xB,EW⟩,rfl,rfl,rfl⟩
  ·refine⟨[810000,810001,810002,810003,810004],[],_,_,_,rfl,cf,(x50.1,tt,x50.2.1,x50.2.2),0,⟨w51.1,⟨(by have e5:xt.2=q+1:=w36.2;have e8:xt.2≤x50.2.2∧x50.2.2≤xt.2+1100:=w51.2.1;show rp≤x50.2.2;omega),(by have e5:xt.2=q+1:=w36.2;have e8:xt.2≤x50.2.2∧x50.2.2≤xt.2+1100:=w51.2.1;show x50.2.2≤rp+40000;omega)⟩,w51.2.2,xB,EW⟩,rfl,rfl,rfl⟩
  ·refine⟨[1000000001,1000000002,1000000003,1000000004,1000000005],[],_,_,_,rfl,cf,(u,tt,0,xt.2),0,⟨⟨hug,hud⟩,⟨(by have e5:xt.2=q+1:=w36.2;show rp≤xt.2;omega),(by have e5:xt.2=q+1:=w36.2;show xt.2≤rp+40000;omega)⟩,ZA7 _,xB,EW⟩,rfl,rfl,rfl⟩
 ·have hmm:∀{z:ay×bf×Int},(FS z.1 z.2.1∧z.1.wg 10000∧rp≤z.2.2∧z.2.2≤rp+20000)→0<((oE z.1 z.2.1).length:Int)∧((oE z.1 z.2.1).length:Int)≤16:=fun {z} h=>by
   rw [WV h.1.fi.tree.ok]
   have h1:=h.1.many;have h2:=h.1.fi.tree.m1;omega
  refine⟨⟨tv2,?_⟩,fun x1 w2=>⟨⟨tv3,?_,?_⟩,fun x3 w4=>⟨fun w5=>⟨⟨⟨⟨⟨?_,?_⟩,⟨?_,?_⟩,⟨?_,?_⟩,aa,⟨?_,?_⟩,aa,⟨?_,?_⟩,tv2⟩,tv8,aa⟩,?_,?_⟩,fun x6 w7=>⟨⟨tv3,?_,?_⟩,fun x8 w9=>⟨⟨?_,?_⟩,?_⟩⟩⟩,fun dy=>?_⟩⟩⟩
  all_goals first|refine aw ?_|refine ax ?_|exact a8|(dsimp only [kP,lL,ba,ck,kR,lN,ez,fK,cS,ie,gZ,jk,kN,lJ,na,nL,gP];omega)|exact a7|exact hr|exact hr.at (show 0≤x1.2.2 by have e:rp≤x1.2.2∧x1.2.2≤rp+20000:=w2.2.2;omega) (show x1.2.2≤_ by have e:rp≤x1.2.2∧x1.2.2≤rp+20000:=w2.2.2;omega)|exact hr.at (show 0≤x3.2 by have e:rp≤x1.2.2∧x1.2.2≤rp+20000:=w2.2.2;have e3:x3.2=x1.2.2+1:=w4.2;omega) (show x3.2≤_ by have e:rp≤x1.2.2∧x1.2.2≤rp+20000:=w2.2.2;have e3:x3.2=x1.2.2+1:=w4.2;omega)|exact (show FS x1.1 x1.2.1 from w2.1).fi.acc.wf.rd|exact (show FS x1.1 x1.2.1 from w2.1).fi.tree.ok|exact ZE0 (hmm w2).2 (by decide)|exact (pk (hmm w2).1 w9).1|exact (pk (hmm w2).1 w9).2|skip
  ·have e:rp≤x1.2.2∧x1.2.2≤rp+20000:=w2.2.2
   have e3:x3.2=x1.2.2+1:=w4.2
   have e8:x8.2=x3.2+1:=w9.2
   have hF:FS x1.1 x1.2.1:=w2.1
   have hi:=pk (hmm w2).1 w9
   have hn:=WU hF.fi.tree (k:=x8.1.toNat) (by omega)
   refine joinTail tail ((x1.1,cT (nth o7 (oE x1.1 x1.2.1) x8.1.toNat),x8.2)) [(1000000001,150000),(1000000002,150001),(1000000003,150002),(1000000004,150003),(1000000005,150004)] ((⟨by show TA x1.1 (cT (nth o7 (oE x1.1 x1.2.1) x8.1.toNat));rw [hn];exact hF.taN (by have:=(hmm w2).2;omega),w2.2.1,by show rp≤x8.2;omega,by show x8.2≤rp+20002;omega⟩)) ?_
   repeat' (first|exact trivial|rfl|exact rfl|exact fP ZA0.symm|apply And.intro)
  ·have e:rp≤x1.2.2∧x1.2.2≤rp+20000:=w2.2.2
   have e3:x3.2=x1.2.2+1:=w4.2
   refine joinTail tail ((x1.1,x1.2.1,x3.2)) [(1000000001,150000),(1000000002,150001),(1000000003,150002),(1000000004,150003),(1000000005,150004)] ((⟨(show FS x1.1 x1.2.1 from w2.1).ta,w2.2.1,by show rp≤x3.2;omega,by show x3.2≤rp+20002;omega⟩)) ?_
   repeat' (first|exact trivial|rfl|exact rfl|exact fP ZA0.symm|apply And.intro)
  all_goals trace_state
end GL
end Go.Proofs.YtnkbdhldiinfdaaGreatDoor
namespace Go.Proofs.YtnkbdhldiinfdaaGreatDoor
open Go Go.RowKit
namespace GL
inductive Bys (W:World) (l:List Int):Value→Prop where
 |none (p:Option Addr) (cap:Nat) (h:l=[]):Bys W l (.slice p 0 cap)
 |some (b o cap:Nat) (cs:Array Value) (e:TypeId) (fr:Nat×Nat) (h1:W.heap[b]?=Option.some (.cells cs e fr)) (h2:l.length≤cap) (h3:win cs o (flat mf l)):Bys W l (.slice (Option.some ⟨b,o,Option.none⟩) l.length cap)
def W4 (W:World) (L:List Nat):bb:=fun b=>if b∈L then (match W.heap[b]? with
 |some (.cells cs e fr)=>some (.ro cs e fr)
 |_=>none) else none
theorem ZQ {W:World}{L:List Nat}{b:Nat}{cs:Array Value}{e:TypeId}{fr:Nat×Nat}(h:W.heap[b]?=some (.cells cs e fr)) (hb:b∈L):W4 W L b=some (.ro cs e fr):=by
 unfold W4
 rw [if_pos hb,h]
theorem O8 {W:World}{L:List Nat}{b:Nat}{k:BK}(h:W4 W L b=some k):∃cs e fr,k= .ro cs e fr∧W.heap[b]?=some (.cells cs e fr):=by
 unfold W4 at h
 by_cases hb:b∈L
 ·rw [if_pos hb] at h
  split at h
  ·rename_i cs e fr he
   cases h
   exact⟨cs,e,fr,rfl,he⟩
  ·cases h
 ·rw [if_neg hb] at h;cases h
theorem aix {P:Program}{f:FuncId}{l:List Int}{v:Value}{W:World}{post:AV→List AV→Prop}(h:TC P f false [.s (.vw mf l)] [] post) (hp:∀r os,post r os→r= .s (.q true)) (hv:Bys W l v)
  (hg:∀g∈zU,∃cs e fr,W.heap[g.1]?=some (.cells cs e fr)∧g.2 cs):Calls P f #[v] W fun e w'=>e= .returned (.bool true)∧Below W.heap.size W w':=by
 have key:∀L:List Nat,(∀g∈zU,g.1∈L)→(SV.vw mf l).rel (W4 W L) (fun _=>0) v→Calls P f #[v] W fun e w'=>e= .returned (.bool true)∧Below W.heap.size W w':=by
  intro L hL hr
  have h1:=h W (W4 W L) (fun _=>0) [v] (fun b k hk=>by
    obtain⟨cs,e,fr,rfl,he⟩:=O8 hk
    exact he) ⟨fun b ek n cs hk=>(by obtain⟨_,_,_,hx,_⟩:=O8 hk;cases hx),fun g hm=>(by
     obtain⟨cs,e,fr,h1,h2⟩:=hg g hm
     exact⟨cs,e,fr,ZQ h1 (hL g hm),h2⟩)⟩ ⟨hr,trivial⟩ (fun av ha i hi=>(by
    rcases ZC7.1 ha with rfl
    cases hi)) ⟨ZA7 _,fun i av hi=>(by simp at hi),fun i j hi=>(by cases hi)⟩
  refine h1.mono fun e w' ⟨v',r,os,T',β',he,hpo,c6,_,ha,_⟩=>?_
  have uK:=hp r os hpo
  subst uK
  have hv':v'= .bool true:=c6
  subst hv'
  refine⟨he,ha.os,ha.tape,ha.output,ha.gd,fun b hb=>?_⟩
  cases hT:W4 W L b with
  |none=>exact ha.frame b hb (fun i hi=>by cases hi) (by rw [hT];trivial)
  |some k=>
   obtain⟨cs,e',fr,rfl,hh⟩:=O8 hT
   have h2:=ha.typed b _ ((ha.new b hb).trans hT)
   rw [hh];exact h2
 cases hv with
 |none p cap h0=>exact key (zU.map (·.1)) (fun g hm=>List.mem_map.2 ⟨g,hm,rfl⟩) (.inl ⟨h0,p,cap,rfl⟩)
 |some b o cap cs e fr h1 h2 h3=>
  exact key (b::zU.map (·.1)) (fun g hm=>List.mem_cons_of_mem _ (List.mem_map.2 ⟨g,hm,rfl⟩)) (.inr ⟨b,o,cap,cs,e,fr,rfl,h2,ZQ h1 (List.mem_cons_self ..),h3⟩)
end GL
end Go.Proofs.YtnkbdhldiinfdaaGreatDoor
