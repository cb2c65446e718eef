/- FnTreeOk returns true for every code (its row lists package variables, tied by the card): part 39 of 39. -/
import Derived.Below
import Derived.Carry
import Derived.LaidMore
import Derived.Lay
import Derived.Lib.LaidTab
import Derived.Lib.LaidU8
import Derived.OpenShut
import Derived.ProofKit
import Derived.SevenTiedAt
import Derived.Stop.Joined
import Derived.Stop.LaidErr
import Derived.Test.YtbfgjadbfjkcdaaGreatDoorCards
import Derived.Test.YtbfgjadbfjkcdaaGreatDoorRows
import Derived.Test.YtbfgjadbfjkcdaaGreatDoorTie
import Derived.Test.YtbfgjadbfjkcdaaGreatDoorPaj
import Derived.Test.YtbfgjadbfjkcdaaGreatDoorPbb
import Derived.Test.YtbfgjadbfjkcdaaGreatDoorPbe
import Derived.Test.YtbfgjadbfjkcdaaGreatDoorPbf
import Derived.Test.YtbfgjadbfjkcdaaGreatDoorPbg
import Derived.Test.YtbfgjadbfjkcdaaGreatDoorPbk
import Derived.Test.YtbfgjadbfjkcdaaGreatDoorPbl
set_option maxHeartbeats 20000000
set_option linter.all false
namespace Go.Proofs.YtbfgjadbfjkcdaaGreatDoor
namespace GL
theorem W3 {s:ax} {t:aZ} (h:t.ok):(oC s t).length=t.many.toNat:=by
 unfold oC;rw [List.length_map,fg h]
abbrev afX (u v:ax):ax:=(v.rows,v.refs,v.last,u.bY,v.gone,u.bT,v.dead,u.same)
theorem afW {u v:ax} (h:uk u v):afX u v=v:=by
 unfold afX
 rw [←h.bY,←h.bT,←h.same]
theorem TA.hur {s:ax} {t:aZ} {n:Nat} (h:TA s t) (hw:s.wg n) (hn:n≤20000):Hur s:=by
 obtain ⟨X,ha⟩:=h.acc
 exact ⟨hw.mono hn,by have:=ha.bY;omega,fun k=>⟨Int.le_trans (Int.natCast_nonneg _) (ha.sl k),ha.up k⟩⟩
def va (r:List Int×Int):Prop:=EY r 900000
def RY (r:List Int×Int) (z:ax×aZ×Nat×Int):Prop:=(z.1.gone.length≤20001∧z.1.dead.length≤20001)∧(r.2≤z.2.2.2∧z.2.2.2≤r.2+40000)∧z.2.2.1≤z.1.rows.length
def Q5 (r:List Int×Int) (z:ax×aZ×Nat×Int):AV:=.t [.a [.xs 1 1 z.2.2.1 (z.1.rows.length - z.2.2.1), .xs 2 1 0 z.1.refs.length, .xs 3 1 0 z.1.last.length, .int z.1.bY, .xs 4 5 0 z.1.gone.length, .int z.1.bT, .xs 5 5 0 z.1.dead.length, .q z.1.same],trA z.2.1]
def V5 (r:List Int×Int) (z:ax×aZ×Nat×Int):List AV:=[.a [.vw kE r.1, .int z.2.2.2], .rs aa z.1.rows, .rs ae z.1.refs, .rs ae z.1.last, .rs ab z.1.gone, .rs ab z.1.dead]
def C7:Con where
 A:=[.b 0]
 B:=[.a [.vw kE, .int]]
 pre:=fun x b=>va b
 α:=fun _ _=>ax×aZ×Nat×Int
 φ:=fun x b z=>RY b z
 r:=fun x b z=>Q5 b z
 o:=fun x b z=>V5 b z
 nf:=5
set_option maxRecDepth 100000 in
theorem abR:Has Tryz.prog 9 C7:=by
 refine Has.ofP 3 (fun _=>true) (fun _=>false) (fun _=>false) (l:=[(15,kO),(16,aX),(17,kQ),(18,eo),(19,cN),(20,gT),(21,kM),(22,na)]) ⟨yJ,c7,yL,lY,oY,ss,yH,CJ,trivial⟩ (fn:=Tryz.f9) Tryz.func9 rfl (by decide) (cH rfl) ?_
 rintro _ ⟨(rb:List Int),(rp:Int)⟩ (hp:va (rb,rp))
 show vcP _ _ _ _ 3 _ (entry [.s (.bp 0 0)] [.a [.vw kE rb, .int rp]])
 have hr:EY (rb,rp) 900000:=hp
 have hp0:0≤rp:=hr.p0
 have hp1:rp≤900000:=hr.p1
 refine zh (l:=[(15,kO),(16,aX),(17,kQ),(18,eo),(19,cN),(20,gT),(21,kM),(22,na)]) (ex:=fun _=>true) (wr:=fun _=>false) (pt:=fun _=>false) ⟨yJ,c7,yL,lY,oY,ss,yH,CJ,tv⟩ (fun y:ax×aZ×Int=>[(.s 0, .s (.bp 0 0)),(.s 2, .s (.bp 1002 0)),(.s 3, .s (.bp 1003 0)),(.s 4, .s (.bp 1004 0)),(.s 5, .s (.bp 1005 0)),(.b 0, .a [.vw kE rb, .int y.2.2]),(.b 1002, .a (uG pj.zero)),(.b 1003, .a (uG sS.zero)),(.b 1004, .a (lA 1000000001 1000000002 1000000003 1000000004 1000000005 y.1)),(.b 1005, .a [.int y.2.1.1, .int y.2.1.2.1, .int y.2.1.2.2.1, .int y.2.1.2.2.2.1, .int y.2.1.2.2.2.2.1, .int y.2.1.2.2.2.2.2.1, .int y.2.1.2.2.2.2.2.2]),(.b 1000000001, .rs aa y.1.rows),(.b 1000000002, .rs ae y.1.refs),(.b 1000000003, .rs ae y.1.last),(.b 1000000004, .rs ab y.1.gone),(.b 1000000005, .rs ab y.1.dead)]) (fun y=>TA y.1 y.2.1∧y.1.wg 10000∧rp≤y.2.2∧y.2.2≤rp+20002) (xd 3 (J9 Tryz.f9)) ?_ (fun tail=>?_)
 ·rintro ⟨u0,t0,q0⟩ ⟨(hT0:TA u0 t0),(hW0:u0.wg 10000),(hq0:rp≤q0),(hq1:q0≤rp+20002)⟩
  show vc _ _ _ _ (DT.ap [(.s 0, .s (.bp 0 0)),(.s 2, .s (.bp 1002 0)),(.s 3, .s (.bp 1003 0)),(.s 4, .s (.bp 1004 0)),(.s 5, .s (.bp 1005 0)),(.b 0, .a [.vw kE rb, .int q0]),(.b 1002, .a (uG pj.zero)),(.b 1003, .a (uG sS.zero)),(.b 1004, .a (lA 1000000001 1000000002 1000000003 1000000004 1000000005 u0)),(.b 1005, .a [.int t0.1, .int t0.2.1, .int t0.2.2.1, .int t0.2.2.2.1, .int t0.2.2.2.2.1, .int t0.2.2.2.2.2.1, .int t0.2.2.2.2.2.2]),(.b 1000000001, .rs aa u0.rows),(.b 1000000002, .rs ae u0.refs),(.b 1000000003, .rs ae u0.last),(.b 1000000004, .rs ab u0.gone),(.b 1000000005, .rs ab u0.dead)]) _
  refine ⟨⟨⟨tv,tv,tv⟩,?_,?_⟩,fun x1 w2=>?_⟩
  all_goals first|refine au ?_|refine aw ?_|exact sa|(dsimp only [kO,lL];omega)|(dsimp only [aX,cc];omega)|(dsimp only [kQ,lN];omega)|(dsimp only [eo,fD];omega)|(dsimp only [cN,gW];omega)|(dsimp only [gT,jd];omega)|(dsimp only [kM,lJ];omega)|(dsimp only [na,nL];omega)|exact sb|exact hr.at (show 0≤q0 by omega) (show q0≤_ by omega)|skip
  have hk:=pk (n:=4) (by decide) w2
  have ek:x1.2=q0+1:=w2.2
  refine cI (l:=[(15,kO),(16,aX),(17,kQ),(18,eo),(19,cN),(20,gT),(21,kM),(22,na)]) (ex:=fun _=>true) (wr:=fun _=>false) (pt:=fun _=>false) ⟨yJ,c7,yL,lY,oY,ss,yH,CJ,trivial⟩ [.s 0, .s 2, .s 3, .b 1002, .b 1003, .s 4, .s 5] (fun y:ax×aZ×Int×Int=>[(.s 8, .int y.2.2.1),(.b 0, .a [.vw kE rb, .int y.2.2.2]),(.b 1004, .a (lA 1000000001 1000000002 1000000003 1000000004 1000000005 y.1)),(.b 1005, .a [.int y.2.1.1, .int y.2.1.2.1, .int y.2.1.2.2.1, .int y.2.1.2.2.2.1, .int y.2.1.2.2.2.2.1, .int y.2.1.2.2.2.2.2.1, .int y.2.1.2.2.2.2.2.2]),(.b 1000000001, .rs aa y.1.rows),(.b 1000000002, .rs ae y.1.refs),(.b 1000000003, .rs ae y.1.last),(.b 1000000004, .rs ab y.1.gone),(.b 1000000005, .rs ab y.1.dead)]) (fun y=>TA y.1 y.2.1∧y.1.wg (10000+7 * (3 - y.2.2.1).toNat)∧(0≤y.2.2.1∧y.2.2.1≤3)∧rp≤y.2.2.2∧y.2.2.2≤rp+20003+1002 * (3 - y.2.2.1)) (fun y=>y.2.2.1.toNat) (u0,t0,x1.1,x1.2) [] ⟨hT0,hW0.mono (by omega),⟨hk.1,by have:=hk.2;show x1.1≤3;omega⟩,by show rp≤x1.2;omega,by have:=hk.2;show x1.2≤rp+20003+1002 * (3 - x1.1);omega⟩ ru ?_
  rintro ⟨u,tt,k,q⟩ ⟨(hT:TA u tt),(hW:u.wg (10000+7 * (3 - k).toNat)),⟨(hk0:0≤k),(hk3:k≤3)⟩,(hq2:rp≤q),(hq3:q≤rp+20003+1002 * (3 - k))⟩
  have cq:tt.ok:=hT.tree.ok
  have hug:u.gone.length≤20001:=Nat.le_trans hW.g (by omega)
  have hud:u.dead.length≤20001:=Nat.le_trans hW.d (by omega)
  have I0:=fun (x:Int) (text:ByteArray) (h0:0≤x) (h1:x≤15)=>nq (text:=text) hW cq h0 h1
  have xl:=fun (x:Int) (text:ByteArray) (h:0≤x∧x < 16) (hz:false=(aU u tt x text).2.2)=>(I0 x text h.1 (by omega)).2.2 hz.symm
  have hwp:=fun (x:Int) (text:ByteArray) (h:0≤x∧x < 16)=>(I0 x text h.1 (by omega)).1
  have hl3:=fun (x:Int) (text:ByteArray) (h:0≤x∧x < 16) (hz:false=(aU u tt x text).2.2)=>(⟨hW.wf.n.1.trans (xl x text h hz).wf.n.1.symm,hW.wf.n.2.1.trans (xl x text h hz).wf.n.2.1.symm,hW.wf.n.2.2.trans (xl x text h hz).wf.n.2.2.symm,congrArg List.length (xl x text h hz).gone.symm,congrArg List.length (xl x text h hz).dead.symm⟩:u.rows.length=(aU u tt x text).1.rows.length∧u.refs.length=(aU u tt x text).1.refs.length∧u.last.length=(aU u tt x text).1.last.length∧u.gone.length=(aU u tt x text).1.gone.length∧u.dead.length=(aU u tt x text).1.dead.length)
  have hmx:=fun (x:Int) (text:ByteArray) (h:0≤x∧x < 16) (hz:false=(aU u tt x text).2.2)=>afW (xl x text h hz)
  have hTf:=fun (x:Int) (text:ByteArray) (hz:false=(aU u tt x text).2.2)=>hT.akx hz.symm
  have hTt:=fun (x:Int) (text:ByteArray) (h:0≤x∧x < 16) (hz:true=(aU u tt x text).2.2)=>hT.put h.1 (by omega) hz.symm
  have h16:∀ {p:Int} {x:Int×Int},(x.1=0∨(0≤x.1∧x.1 < 16))∧x.2=p+1→0≤x.1∧x.1 < 16:=fun h=>pk (n:=16) (by decide) h
  have hgf:=fun (x:Int) (text:ByteArray) (h:0≤x∧x < 16) (hz:false=(aU u tt x text).2.2)=>(show (afX u (aU u tt x text).1).gk by rw [hmx x text h hz];exact (hTf x text hz).gk (hwp x text h) (by omega))
  have hgt:=fun (x:Int) (text:ByteArray) (h:0≤x∧x < 16) (hz:true=(aU u tt x text).2.2)=>(hTt x text h hz).gk (hwp x text h) (by omega)
  refine ⟨fun w1=>⟨[.s 4, .b 1004],[.s 39],rfl,[.s 5, .b 1005],[.s 40],rfl,[.s 0],[.s 41],rfl,[.s 41, .b 0],[.s 42, .b 0],rfl,⟨⟨tv,tv,tv⟩,?_,?_⟩,?_,fun x2 w3=>⟨[.s 0],[.s 43],rfl,[.s 43, .b 0],[.s 44, .b 0],rfl,⟨⟨tv,tv,tv⟩,?_,?_,?_⟩,?_,fun x4 w5=>⟨[.s 39, .s 40, .s 42, .s 44, .b 1000000001, .b 1000000002, .b 1000000003, .b 1000000004, .b 1000000005, .b 1000460001, .b 1000460000],[.s 45, .b 1000000001, .b 1000000002, .b 1000000003, .b 1000000004, .b 1000000005, .b 1000460000, .b 1000460001],rfl,⟨⟨⟨tv,tv,tv,tv,tv,tv,tv,tv,tv⟩,⟨tv,tv,tv,tv,tv,tv,tv,tv⟩,tv,tv,tv⟩,⟨?_,?_,?_,?_,?_⟩,?_,?_,?_,?_,?_,?_,?_,?_⟩,?_,fun |false=>fun w6=>⟨[.s 45],[.s 38],rfl,[.s 38],[.s 46],rfl,[.s 38],[.s 47],rfl,[.s 38],[.s 48],rfl,[.b 1009],[.s 9, .b 1009],rfl,[.b 1010],[.s 10, .b 1010],rfl,[.s 9, .s 46, .b 1009],[.b 1009],rfl,[.s 10, .s 47, .b 1010],[.b 1010],rfl,[.s 48],[.s 11],rfl,fun w7=>⟨⟨⟨tv,tv,tv⟩,?_,?_⟩,fun x8 w9=>⟨fun df=>⟨⟨⟨⟨tv,tv,tv,tv,tv,tv,tv,tv,tv⟩,tv⟩,⟨?_,?_,?_,?_,?_⟩,?_⟩,fun kx dC=>⟨⟨?_,?_⟩,?_⟩⟩,fun iA=>⟨⟨?_,?_⟩,?_⟩⟩⟩,fun gx=>⟨⟨⟨tv,tv,tv⟩,?_,?_⟩,fun ku j9=>⟨fun wu=>⟨⟨⟨⟨tv,tv,tv,tv,tv,tv,tv,tv,tv⟩,tv⟩,⟨?_,?_,?_,?_,?_⟩,?_⟩,fun qy ot=>⟨⟨?_,?_⟩,?_⟩⟩,fun um=>⟨⟨?_,?_⟩,?_⟩⟩⟩⟩ |true=>fun zg=>⟨[.s 45],[.s 38],rfl,[.s 38],[.s 46],rfl,[.s 38],[.s 47],rfl,[.s 38],[.s 48],rfl,[.b 1009],[.s 9, .b 1009],rfl,[.b 1010],[.s 10, .b 1010],rfl,[.s 9, .s 46, .b 1009],[.b 1009],rfl,[.s 10, .s 47, .b 1010],[.b 1010],rfl,[.s 48],[.s 11],rfl,fun zf=>⟨⟨⟨tv,tv,tv⟩,?_,?_⟩,fun x23 rl=>⟨fun w25=>⟨⟨⟨⟨tv,tv,tv,tv,tv,tv,tv,tv,tv⟩,tv⟩,⟨?_,?_,?_,?_,?_⟩,?_⟩,fun x26 w27=>⟨⟨?_,?_⟩,?_⟩⟩,fun w28=>⟨⟨?_,?_⟩,?_⟩⟩⟩,fun w29=>⟨⟨⟨tv,tv,tv⟩,?_,?_⟩,fun x30 w31=>⟨fun w32=>?_,fun w33=>⟨⟨?_,?_⟩,?_⟩⟩⟩⟩⟩⟩⟩,fun w34=>⟨⟨⟨tv,tv,tv⟩,?_,?_⟩,fun xt w36=>⟨fun w37=>⟨⟨⟨tv,tv,tv⟩,?_,?_⟩,fun x38 w39=>⟨[.s 4, .b 1004],[.s 82],rfl,[.s 5, .b 1005],[.s 83],rfl,[.s 2, .s 82, .b 1002],[.b 1002],rfl,[.s 3, .s 83, .b 1003],[.b 1003],rfl,?_⟩⟩,fun w40=>⟨fun w41=>⟨⟨⟨tv,tv,tv⟩,?_,?_⟩,fun x42 w43=>⟨⟨?_,?_⟩,[.s 4, .b 1004],[.s 82],rfl,[.s 5, .b 1005],[.s 83],rfl,[.s 2, .s 82, .b 1002],[.b 1002],rfl,[.s 3, .s 83, .b 1003],[.b 1003],rfl,?_⟩⟩,fun w44=>⟨fun w45=>⟨⟨⟨tv,⟨⟨?_,?_⟩,⟨?_,?_⟩,⟨?_,?_⟩,tv,⟨?_,?_⟩,tv,⟨?_,?_⟩,tv,tv⟩,tv⟩,?_,?_⟩,fun x46 w47=>⟨[.s 4, .b 1004],[.s 82],rfl,[.s 5, .b 1005],[.s 83],rfl,[.s 2, .s 82, .b 1002],[.b 1002],rfl,[.s 3, .s 83, .b 1003],[.b 1003],rfl,?_⟩⟩,fun w48=>⟨fun w49=>⟨[.s 0],[.s 78],rfl,[.s 4, .b 1004],[.s 79],rfl,[.s 78, .s 79, .b 0, .b 1000000001, .b 1000000002, .b 1000000003, .b 1000000004, .b 1000000005, .b 810004, .b 810003, .b 810002, .b 810001, .b 810000],[.s 80, .b 0, .b 810000, .b 810001, .b 810002, .b 810003, .b 810004],rfl,⟨⟨tv,⟨⟨?_,?_⟩,⟨?_,?_⟩,⟨?_,?_⟩,tv,⟨?_,?_⟩,tv,⟨?_,?_⟩,tv,tv⟩,tv⟩,?_,?_⟩,?_,fun x50 w51=>⟨[.s 5, .b 1005],[.s 81],rfl,[.s 2, .s 80, .b 1002],[.b 1002],rfl,[.s 3, .s 81, .b 1003],[.b 1003],rfl,?_⟩⟩,fun w52=>⟨[.s 4, .b 1004],[.s 82],rfl,[.s 5, .b 1005],[.s 83],rfl,[.s 2, .s 82, .b 1002],[.b 1002],rfl,[.s 3, .s 83, .b 1003],[.b 1003],rfl,?_⟩⟩⟩⟩⟩⟩⟩
  all_goals first|refine au ?_|refine aw ?_|exact sa|(dsimp only [kO,lL];omega)|(dsimp only [aX,cc];omega)|(dsimp only [kQ,lN];omega)|(dsimp only [eo,fD];omega)|(dsimp only [cN,gW];omega)|(dsimp only [gT,jd];omega)|(dsimp only [kM,lJ];omega)|(dsimp only [na,nL];omega)|exact sb|exact hr.at (show 0≤q by omega) (show q≤_ by omega)|exact hW.wf|exact cq.rd|exact cq.m1|exact Nat.le_trans hW.g (by omega)|exact Nat.le_trans hW.d (by omega)|exact absurd (show false=true from w7) Bool.noConfusion|exact absurd (show true=false from w29) Bool.noConfusion|exact ⟨(0,q+1), .inl rfl,rfl⟩|exact hr.at (show 0≤x2.2 by have e2:x2.2=q+1:=w3.2;omega) (show x2.2≤_ by have e2:x2.2=q+1:=w3.2;omega)|exact ⟨(⟨#[]⟩,x2.2),(by show ((0:Nat):Int)≤8;decide),Int.le_refl _,(by show x2.2≤x2.2+1000;omega)⟩|exact (pk (n:=16) (by decide) w3).1|(show x2.1≤15;have h:=(pk (n:=16) (by decide) w3).2;omega)|(show x4.1.size≤1000000;have h:(x4.1.size:Int)≤8:=w5.1;omega)|exact ⟨_,rfl⟩|exact hr.at (show 0≤x4.2 by have e2:x2.2=q+1:=w3.2;have e4:x2.2≤x4.2∧x4.2≤x2.2+1000:=w5.2;omega) (show x4.2≤_ by have e2:x2.2=q+1:=w3.2;have e4:x2.2≤x4.2∧x4.2≤x2.2+1000:=w5.2;omega)|exact hr.at (show 0≤xt.2 by have e:xt.2=q+1:=w36.2;omega) (show xt.2≤_ by have e:xt.2=q+1:=w36.2;omega)|exact hT.hur hW (by omega)|exact ⟨(u,0,xt.2),⟨hug,hud⟩,⟨Int.le_refl _,(by show xt.2≤xt.2+1100;omega)⟩,Nat.zero_le _⟩|(show x50.2.1+(x50.1.rows.length - x50.2.1)≤x50.1.rows.length;have h:x50.2.1≤x50.1.rows.length:=w51.2.2;omega)|(show gD≤x42.1 - 1;have h:=pk (n:=19) (by decide) w43;unfold gD;omega)|(show x42.1 - 1≤imax;have h:=pk (n:=19) (by decide) w43;unfold imax;omega)|exact (hl3 x2.1 x4.1 (h16 w3) w6).1|exact (hl3 x2.1 x4.1 (h16 w3) w6).2.1|exact (hl3 x2.1 x4.1 (h16 w3) w6).2.2.1|exact (hl3 x2.1 x4.1 (h16 w3) w6).2.2.2.1|exact (hl3 x2.1 x4.1 (h16 w3) w6).2.2.2.2|exact hgf x2.1 x4.1 (h16 w3) w6|exact hgt x2.1 x4.1 (h16 w3) zg|skip
  ·have ET:0 < k:=cw (p:=k > 0) w1
   have e2:x2.2=q+1:=w3.2
   have e4:x2.2≤x4.2∧x4.2≤x2.2+1000:=w5.2
   have e9:ku.2=x4.2+1:=j9.2
   have hV:=(hTf x2.1 x4.1 w6).SU (hwp x2.1 x4.1 (h16 w3)) (by omega)
   rw [←hmx x2.1 x4.1 (h16 w3) w6] at hV
   refine ⟨(gY (afX u (aU u tt x2.1 x4.1).1),tt,k - 1,ku.2),[(1000000004,570000)],?_,?_,?_⟩
   rotate_right
   ·exact rq
   ·exact ⟨hV.1,ax.wg.mono hV.2 (by show 10000+7 * (3 - k).toNat+6+1≤10000+7 * (3 - (k - 1)).toNat;omega),⟨by show 0≤k - 1;omega,by show k - 1≤3;omega⟩,by show rp≤ku.2;omega,by show ku.2≤rp+20003+1002 * (3 - (k - 1));omega⟩
   ·show (k - 1).toNat < k.toNat;omega
  ·have ET:0 < k:=cw (p:=k > 0) w1
   have e2:x2.2=q+1:=w3.2
   have e4:x2.2≤x4.2∧x4.2≤x2.2+1000:=w5.2
   have e9:ku.2=x4.2+1:=j9.2
   have hs:=nD (b0:=1000000001) (b1:=1000000002) (b2:=1000000003) (b3:=1000000004) (b4:=1000000005) (xl x2.1 x4.1 (h16 w3) w6) hW.wf
   refine ⟨((aU u tt x2.1 x4.1).1,tt,k - 1,ku.2),[],?_,?_,?_⟩
   rotate_right
   ·repeat' (first |exact trivial |rfl |exact rfl |exact fH List.length_append.symm |exact oK |exact congrArg (fun z=>some (AV.a z)) hs |apply And.intro)
   ·exact ⟨hTf x2.1 x4.1 w6,ax.wg.mono (hwp x2.1 x4.1 (h16 w3)) (by show 10000+7 * (3 - k).toNat+6≤10000+7 * (3 - (k - 1)).toNat;omega),⟨by show 0≤k - 1;omega,by show k - 1≤3;omega⟩,by show rp≤ku.2;omega,by show ku.2≤rp+20003+1002 * (3 - (k - 1));omega⟩
   ·show (k - 1).toNat < k.toNat;omega
  ·have ET:0 < k:=cw (p:=k > 0) w1
   have e2:x2.2=q+1:=w3.2
   have e4:x2.2≤x4.2∧x4.2≤x2.2+1000:=w5.2
   have e9:x23.2=x4.2+1:=rl.2
   have hV:=(hTt x2.1 x4.1 (h16 w3) zg).SU (hwp x2.1 x4.1 (h16 w3)) (by omega)
   refine ⟨(gY (aU u tt x2.1 x4.1).1,(aU u tt x2.1 x4.1).2.1,k - 1,x23.2),[(1000000004,570000),(1000000005,1000460001)],?_,?_,?_⟩
   rotate_right
   ·exact rq
   ·exact ⟨hV.1,ax.wg.mono hV.2 (by show 10000+7 * (3 - k).toNat+6+1≤10000+7 * (3 - (k - 1)).toNat;omega),⟨by show 0≤k - 1;omega,by show k - 1≤3;omega⟩,by show rp≤x23.2;omega,by show x23.2≤rp+20003+1002 * (3 - (k - 1));omega⟩
   ·show (k - 1).toNat < k.toNat;omega
  ·have ET:0 < k:=cw (p:=k > 0) w1
   have e2:x2.2=q+1:=w3.2
   have e4:x2.2≤x4.2∧x4.2≤x2.2+1000:=w5.2
   have e9:x23.2=x4.2+1:=rl.2
   refine ⟨((aU u tt x2.1 x4.1).1,(aU u tt x2.1 x4.1).2.1,k - 1,x23.2),[(1000000004,1000460000),(1000000005,1000460001)],?_,?_,?_⟩
   rotate_right
   ·exact rq
   ·exact ⟨hTt x2.1 x4.1 (h16 w3) zg,ax.wg.mono (hwp x2.1 x4.1 (h16 w3)) (by show 10000+7 * (3 - k).toNat+6≤10000+7 * (3 - (k - 1)).toNat;omega),⟨by show 0≤k - 1;omega,by show k - 1≤3;omega⟩,by show rp≤x23.2;omega,by show x23.2≤rp+20003+1002 * (3 - (k - 1));omega⟩
   ·show (k - 1).toNat < k.toNat;omega
  ·exact absurd (show true=false from w29) Bool.noConfusion
  ·refine ⟨[1000000001,1000000002,1000000003,1000000004,1000000005],[],_,_,_,rfl,rr,(u,(tt.1,tt.2.1,tt.2.2.1,tt.2.2.2.1,tt.2.2.2.2.1,x38.1,tt.2.2.2.2.2.2),0,x38.2),0,⟨⟨hug,hud⟩,⟨(by have e5:xt.2=q+1:=w36.2;have e8:x38.2=xt.2+1:=w39.2;show rp≤x38.2;omega),(by have e5:xt.2=q+1:=w36.2;have e8:x38.2=xt.2+1:=w39.2;show x38.2≤rp+40000;omega)⟩,Nat.zero_le _⟩,rfl,rfl,rfl⟩
  ·refine ⟨[1000000001,1000000002,1000000003,1000000004,1000000005],[],_,_,_,rfl,rr,(u,(tt.1,tt.2.1,tt.2.2.1,tt.2.2.2.1,tt.2.2.2.2.1,tt.2.2.2.2.2.1,x42.1 - 1),0,x42.2),0,⟨⟨hug,hud⟩,⟨(by have e5:xt.2=q+1:=w36.2;have e8:x42.2=xt.2+1:=w43.2;show rp≤x42.2;omega),(by have e5:xt.2=q+1:=w36.2;have e8:x42.2=xt.2+1:=w43.2;show x42.2≤rp+40000;omega)⟩,Nat.zero_le _⟩,rfl,rfl,rfl⟩
  ·refine ⟨[1000000001,1000000002,1000000003,1000000004,1000000005],[],_,_,_,rfl,rr,(u,(x46.1.1,x46.1.2.1,x46.1.2.2.1,x46.1.2.2.2.1,x46.1.2.2.2.2,tt.2.2.2.2.2.1,tt.2.2.2.2.2.2),0,x46.2),0,⟨⟨hug,hud⟩,⟨(by have e5:xt.2=q+1:=w36.2;have e8:xt.2≤x46.2∧x46.2≤xt.2+1020:=w47;show rp≤x46.2;omega),(by have e5:xt.2=q+1:=w36.2;have e8:xt.2≤x46.2∧x46.2≤xt.2+1020:=w47;show x46.2≤rp+40000;omega)⟩,Nat.zero_le _⟩,rfl,rfl,rfl⟩
  ·refine ⟨[810000,810001,810002,810003,810004],[],_,_,_,rfl,rr,(x50.1,tt,x50.2.1,x50.2.2),0,⟨w51.1,⟨(by have e5:xt.2=q+1:=w36.2;have e8:xt.2≤x50.2.2∧x50.2.2≤xt.2+1100:=w51.2.1;show rp≤x50.2.2;omega),(by have e5:xt.2=q+1:=w36.2;have e8:xt.2≤x50.2.2∧x50.2.2≤xt.2+1100:=w51.2.1;show x50.2.2≤rp+40000;omega)⟩,w51.2.2⟩,rfl,rfl,rfl⟩
  ·refine ⟨[1000000001,1000000002,1000000003,1000000004,1000000005],[],_,_,_,rfl,rr,(u,tt,0,xt.2),0,⟨⟨hug,hud⟩,⟨(by have e5:xt.2=q+1:=w36.2;show rp≤xt.2;omega),(by have e5:xt.2=q+1:=w36.2;show xt.2≤rp+40000;omega)⟩,Nat.zero_le _⟩,rfl,rfl,rfl⟩
 ·have hmm:∀ {z:ax×aZ×Int},(FS z.1 z.2.1∧z.1.wg 10000∧rp≤z.2.2∧z.2.2≤rp+20000)→0 < ((oC z.1 z.2.1).length:Int)∧((oC z.1 z.2.1).length:Int)≤16:=fun {z} h=>by
   rw [W3 h.1.fi.tree.ok]
   have h1:=h.1.many;have h2:=h.1.fi.tree.m1;omega
  refine ⟨⟨⟨tv,tv⟩,?_⟩,fun x1 w2=>⟨⟨⟨tv,tv,tv⟩,?_,?_⟩,fun x3 w4=>⟨fun w5=>⟨⟨⟨⟨⟨?_,?_⟩,⟨?_,?_⟩,⟨?_,?_⟩,tv,⟨?_,?_⟩,tv,⟨?_,?_⟩,tv,tv⟩,⟨tv,tv,tv,tv,tv,tv,tv,tv⟩,tv⟩,?_,?_⟩,fun x6 w7=>⟨⟨⟨tv,tv,tv⟩,?_,?_⟩,fun x8 w9=>⟨⟨?_,?_⟩,?_⟩⟩⟩,fun df=>?_⟩⟩⟩
  all_goals first|refine au ?_|refine aw ?_|exact sa|(dsimp only [kO,lL];omega)|(dsimp only [aX,cc];omega)|(dsimp only [kQ,lN];omega)|(dsimp only [eo,fD];omega)|(dsimp only [cN,gW];omega)|(dsimp only [gT,jd];omega)|(dsimp only [kM,lJ];omega)|(dsimp only [na,nL];omega)|exact sb|exact hr|exact hr.at (show 0≤x1.2.2 by have e:rp≤x1.2.2∧x1.2.2≤rp+20000:=w2.2.2;omega) (show x1.2.2≤_ by have e:rp≤x1.2.2∧x1.2.2≤rp+20000:=w2.2.2;omega)|exact hr.at (show 0≤x3.2 by have e:rp≤x1.2.2∧x1.2.2≤rp+20000:=w2.2.2;have e3:x3.2=x1.2.2+1:=w4.2;omega) (show x3.2≤_ by have e:rp≤x1.2.2∧x1.2.2≤rp+20000:=w2.2.2;have e3:x3.2=x1.2.2+1:=w4.2;omega)|exact (show FS x1.1 x1.2.1 from w2.1).fi.acc.wf.rd|exact (show FS x1.1 x1.2.1 from w2.1).fi.tree.ok|exact Int.le_trans (hmm w2).2 (by decide)|exact (pk (hmm w2).1 w9).1|exact (pk (hmm w2).1 w9).2|skip
  ·have e:rp≤x1.2.2∧x1.2.2≤rp+20000:=w2.2.2
   have e3:x3.2=x1.2.2+1:=w4.2
   have e8:x8.2=x3.2+1:=w9.2
   have hF:FS x1.1 x1.2.1:=w2.1
   have hi:=pk (hmm w2).1 w9
   have hn:=W2 hF.fi.tree (k:=x8.1.toNat) (by omega)
   refine joinTail tail ((x1.1,cO (nth oS (oC x1.1 x1.2.1) x8.1.toNat),x8.2)) [(1000000001,150000),(1000000002,150001),(1000000003,150002),(1000000004,150003),(1000000005,150004)] ((⟨by show TA x1.1 (cO (nth oS (oC x1.1 x1.2.1) x8.1.toNat));rw [hn];exact hF.taN (by have:=(hmm w2).2;omega),w2.2.1,by show rp≤x8.2;omega,by show x8.2≤rp+20002;omega⟩)) ?_
   repeat' (first |exact trivial |rfl |exact rfl |exact fH List.length_append.symm |apply And.intro)
  ·have e:rp≤x1.2.2∧x1.2.2≤rp+20000:=w2.2.2
   have e3:x3.2=x1.2.2+1:=w4.2
   refine joinTail tail ((x1.1,x1.2.1,x3.2)) [(1000000001,150000),(1000000002,150001),(1000000003,150002),(1000000004,150003),(1000000005,150004)] ((⟨(show FS x1.1 x1.2.1 from w2.1).ta,w2.2.1,by show rp≤x3.2;omega,by show x3.2≤rp+20002;omega⟩)) ?_
   repeat' (first |exact trivial |rfl |exact rfl |exact fH List.length_append.symm |apply And.intro)
  all_goals trace_state
end GL
namespace GL
structure afH (l:List Int):Prop where
 len:l.length≤2000000
 iV:∀b∈l,0≤b∧b≤255
def yj (c:List Int):Prop:=afH c
def VZ (c:List Int) (z:List Int):Prop:=EY (z,0) 0
def VO (c:List Int) (z:List Int):AV:=.s (.bp 0 0)
def abl (c:List Int) (z:List Int):List AV:=[.a [.vw kE z, .int 0]]
def JY:Con where
 A:=[.s (.vw kE)]
 B:=[]
 pre:=fun x b=>yj x
 α:=fun _ _=>List Int
 φ:=fun x b z=>VZ x z
 r:=fun x b z=>VO x z
 o:=fun x b z=>abl x z
 nf:=1
set_option maxRecDepth 100000 in
theorem ad2:Has Tryz.prog 8 JY:=by
 refine Has.ofE (fun _=>true) (fun _=>false) (fun _=>false) (l:=[]) trivial (fn:=Tryz.f8) Tryz.func8 rfl (by decide) (cH rfl) ?_
 rintro (c:List Int) _ (hp:yj c)
 show vc _ _ _ _ (entry [.s (.vw kE c)] []) _
 have hb:afH c:=hp
 refine ⟨fun w1=>⟨⟨?_,⟨?_,?_⟩⟩,?_⟩,fun w2=>?_⟩
 all_goals first|refine au ?_|refine aw ?_|exact sa|exact sb|skip
 ·refine ⟨[1010],[],_,_,_,rfl,rr,List.take 2000 (List.drop 0 c),⟨by rw [List.length_take];omega,fun b h=>hb.iV b (List.mem_of_mem_drop (List.mem_of_mem_take h)),Int.le_refl _,Int.le_refl _⟩,rfl,rfl,rfl⟩
 ·refine ⟨[1010],[],_,_,_,rfl,rr,c,⟨by have:=ca (p:=(c.length:Int) > 2000) w2;show c.length≤2000;omega,hb.iV,Int.le_refl _,Int.le_refl _⟩,rfl,rfl,rfl⟩
end GL
namespace GL
def p6 (c:List Int):Prop:=afH c
def HD (c:List Int) (z:ax×aZ):Prop:=z.1.gone.length≤20001∧z.1.dead.length≤20001
def GW (c:List Int) (z:ax×aZ):AV:=.t [.a [.vw aa z.1.rows, .vw ae z.1.refs, .vw ae z.1.last, .int z.1.bY, .vw ab z.1.gone, .int z.1.bT, .vw ab z.1.dead, .q z.1.same],trA z.2]
def KX (c:List Int) (z:ax×aZ):List AV:=[]
def uh:Con where
 A:=[.s (.vw kE)]
 B:=[]
 pre:=fun x b=>p6 x
 α:=fun _ _=>ax×aZ
 φ:=fun x b z=>HD x z
 r:=fun x b z=>GW x z
 o:=fun x b z=>KX x z
 nf:=0
set_option maxRecDepth 100000 in
theorem PO:Has Tryz.prog 4 uh:=by
 refine Has.ofE (fun _=>true) (fun _=>false) (fun _=>false) (l:=[(8,JY),(9,C7)]) ⟨ad2,abR,trivial⟩ (fn:=Tryz.f4) Tryz.func4 rfl (by decide) (cH rfl) ?_
 rintro (c:List Int) _ (hp:p6 c)
 show vc _ _ _ _ (entry [.s (.vw kE c)] []) _
 have hb:afH c:=hp
 refine ⟨⟨⟨tv,tv⟩,?_⟩,fun x1 w2=>⟨⟨⟨tv,tv⟩,?_⟩,fun x3 w4=>⟨[.s 5, .b 1005],[.s 14],rfl,[.s 6, .b 1006],[.s 15],rfl,[.s 2, .s 14, .b 1002],[.b 1002],rfl,[.s 3, .s 15, .b 1003],[.b 1003],rfl,?_⟩⟩⟩
 all_goals first|refine au ?_|refine aw ?_|exact sa|(dsimp only [JY,yj];omega)|(dsimp only [C7,va];omega)|exact sb|exact hb|exact EY.at (show EY (x1,0) 0 from w2) (Int.le_refl _) (by decide)|(show x3.2.2.1+(x3.1.rows.length - x3.2.2.1)≤x3.1.rows.length;have h:x3.2.2.1≤x3.1.rows.length:=w4.2.2;omega)|skip
 ·have hg:x3.1.gone.length≤20001:=w4.1.1
  have hd:x3.1.dead.length≤20001:=w4.1.2
  have ho:x3.2.2.1+(x3.1.rows.length - x3.2.2.1)≤x3.1.rows.length:=by have h:x3.2.2.1≤x3.1.rows.length:=w4.2.2;omega
  refine ⟨[],[],_,_,_,rfl,(by repeat' (first |exact trivial |apply And.intro |exact Nat.le_of_eq (Nat.zero_add _) |assumption |(simp only [Option.getD_some,Option.getD_none,da,j0,List.length_append,List.length_cons,List.length_nil];omega))),(((List.drop x3.2.2.1 x3.1.rows).take (x3.1.rows.length - x3.2.2.1),(List.drop 0 x3.1.refs).take (List.length x3.1.refs),(List.drop 0 x3.1.last).take (List.length x3.1.last),x3.1.bY,(List.drop 0 x3.1.gone).take (List.length x3.1.gone),x3.1.bT,(List.drop 0 x3.1.dead).take (List.length x3.1.dead),x3.1.same),x3.2.1),⟨by show (((List.drop 0 x3.1.gone).take (List.length x3.1.gone)).length)≤20001;rw [List.length_take];exact Nat.le_trans (Nat.min_le_left _ _) hg,by show (((List.drop 0 x3.1.dead).take (List.length x3.1.dead)).length)≤20001;rw [List.length_take];exact Nat.le_trans (Nat.min_le_left _ _) hd⟩,rfl,rfl,rfl⟩
end GL
namespace GL
structure aj9 (l:List Int):Prop where
 iV:∀b∈l,0≤b∧b≤255
theorem oV (s:ax) (t:aZ):(gI s t).2=(gz s&&oz s t)∧((gI s t).2=false→(gI s t).1=[])∧((gI s t).2=true→(((gI s t).1.length:Nat):Int)=t.many):=by
 refine ⟨zi,fun h=>?_,fun h=>?_⟩
 ·rw [zi] at h
  unfold gI;rw [h];rfl
 ·rw [zi] at h
  have h2:=(Bool.and_eq_true_iff.1 h).2
  unfold gI;rw [h,cond_true]
  show (((List.take _ _).length:Nat):Int)=_
  rw [List.length_take]
  have h3:=SM h2
  have hb:=OX h2
  unfold lf at hb
  have h4:=(cn.1 (cB (Bool.or_eq_false_iff.1 hb).1)).1
  omega
def zy (c:List Int):Prop:=aj9 c
def dY (c:List Int):AV:=.s (.q true)
def SG (c:List Int):List AV:=[]
def YH:Con where
 A:=[.s (.vw kE)]
 B:=[]
 pre:=fun x b=>zy x
 α:=fun _ _=>Unit
 φ:=fun _ _ _=>True
 r:=fun x b _=>dY x
 o:=fun x b _=>SG x
 nf:=0
set_option maxRecDepth 100000 in
theorem XL:Has Tryz.prog 3 YH:=by
 refine Has.ofEI (fun _=>true) (fun _=>false) (fun _=>false) (l:=[(4,uh),(5,DD),(6,J6),(7,ko)]) ⟨PO,abY,aec,xC,trivial⟩ (fn:=Tryz.f3) Tryz.func3 rfl (by decide) (cH rfl) ?_
 rintro (c:List Int) _ (hp:zy c)
 show vc _ _ _ _ (entry [.s (.vw kE c)] []) _
 have hb:aj9 c:=hp
 refine ⟨fun w1=>?_,fun w2=>⟨⟨⟨tv,tv⟩,?_⟩,fun x3 w4=>⟨⟨⟨⟨tv,tv,tv,tv,tv,tv,tv,tv,tv⟩,⟨tv,tv,tv,tv,tv,tv,tv,tv⟩,tv⟩,?_,?_⟩,fun x5 w6=>⟨⟨⟨⟨tv,tv,tv,tv,tv,tv,tv,tv,tv⟩,⟨tv,tv,tv,tv,tv,tv,tv,tv⟩,tv⟩,?_,?_⟩,fun x7 w8=>⟨fun w9=>?_,fun df=>⟨⟨⟨⟨tv,tv,tv,tv,tv,tv,tv,tv,tv⟩,⟨tv,tv,tv,tv,tv,tv,tv,tv⟩,tv⟩,?_,?_⟩,fun |false=>fun ka=>⟨tv,fun dC=>⟨tv,fun iA=>⟨tv,fun gx=>?_,fun oU=>⟨tv,fun j9=>?_,fun wu=>?_⟩⟩,fun qI=>⟨tv,fun ot=>?_,fun um=>?_⟩⟩,fun zg=>?_⟩ |true=>fun zf=>⟨tv,fun xv=>⟨tv,fun rl=>⟨tv,fun w25=>?_,fun EL=>⟨tv,fun w27=>?_,fun w28=>?_⟩⟩,fun w29=>⟨tv,fun w30=>?_,fun w31=>?_⟩⟩,fun w32=>?_⟩⟩⟩⟩⟩⟩⟩
 all_goals first|refine au ?_|refine aw ?_|exact sa|(dsimp only [uh,p6];omega)|(dsimp only [DD,vi];omega)|(dsimp only [J6,yr];omega)|(dsimp only [ko,kz];omega)|exact sb|exact Nat.le_trans (show x3.1.gone.length≤20001 from w4.1) (by decide)|exact Nat.le_trans (show x3.1.dead.length≤20001 from w4.2) (by decide)|skip
 ·refine ⟨[],[],_,_,_,rfl,GL.rp,(),tv,?_,?_,rfl⟩
  ·(show _=dY c);unfold dY;first |rfl
  ·rfl
 ·have h:=ca (p:=(c.length:Int) > 1048576) w2
  exact (afH.mk (l:=c) (by omega) hb.iV)
 ·exact absurd (show (!((gz x3.1&&oz x3.1 x3.2)==(gz x3.1&&oz x3.1 x3.2)))=true from w9) (by simp)
 ·refine ⟨[],[],_,_,_,rfl,GL.rp,(),tv,?_,?_,rfl⟩
  ·(show _=dY c);unfold dY;first |rfl
  ·rfl
 ·exact absurd (show (((gI x3.1 x3.2).1.length:Nat):Int)=0 by rw [(oV x3.1 x3.2).2.1 (qV iA)];rfl) (ca oU)
 ·exact absurd (show (((gI x3.1 x3.2).1.length:Nat):Int)=0 by rw [(oV x3.1 x3.2).2.1 (qV iA)];rfl) (ca oU)
 ·refine ⟨[],[],_,_,_,rfl,GL.rp,(),tv,?_,?_,rfl⟩
  ·show AV.q _=dY c;unfold dY;refine congrArg AV.q ?_;exact decide_eq_true ((oV x3.1 x3.2).2.2 ot)
  ·rfl
 ·exact absurd ((cB qI).symm.trans um) (by decide)
 ·exact absurd (show ((gz x3.1&&oz x3.1 x3.2)==(gI x3.1 x3.2).2)=false from zg) (by rw [(oV x3.1 x3.2).1];simp)
 ·refine ⟨[],[],_,_,_,rfl,GL.rp,(),tv,?_,?_,rfl⟩
  ·(show _=dY c);unfold dY;first |rfl
  ·rfl
 ·exact absurd EL (by decide)
 ·exact absurd EL (by decide)
 ·refine ⟨[],[],_,_,_,rfl,GL.rp,(),tv,?_,?_,rfl⟩
  ·show AV.q _=dY c;unfold dY;refine congrArg AV.q ?_;exact decide_eq_true (by have h:=(oV x3.1 x3.2).2.2 w30;have hn:(gI x3.1 x3.2).1=[]:=zf rfl;rw [hn] at h;exact h)
  ·rfl
 ·exact absurd ((cB w29).symm.trans w31) (by decide)
 ·exact absurd (show ((gz x3.1&&oz x3.1 x3.2)==(gI x3.1 x3.2).2)=false from w32) (by rw [(oV x3.1 x3.2).1];simp)
end GL
end Go.Proofs.YtbfgjadbfjkcdaaGreatDoor
namespace Go.Proofs.YtbfgjadbfjkcdaaGreatDoor
open Go Go.RowKit
namespace GL
inductive Bys (W:World) (l:List Int):Value→Prop where
 |none (p:Option Addr) (cap:Nat) (h:l=[]):Bys W l (.slice p 0 cap)
 |some (b o cap:Nat) (cs:Array Value) (e:TypeId) (fr:Nat×Nat) (h1:W.heap[b]?=Option.some (.cells cs e fr)) (h2:l.length≤cap) (h3:win cs o (flat kE l)):Bys W l (.slice (Option.some ⟨b,o,Option.none⟩) l.length cap)
def XC (W:World) (L:List Nat):a7:=fun b=>if b∈L then (match W.heap[b]? with
 |some (.cells cs e fr)=>some (.ro cs e fr)
 |_=>none) else none
theorem Z0 {W:World} {L:List Nat} {b:Nat} {cs:Array Value} {e:TypeId} {fr:Nat×Nat} (h:W.heap[b]?=some (.cells cs e fr)) (hb:b∈L):XC W L b=some (.ro cs e fr):=by
 unfold XC
 rw [if_pos hb,h]
theorem PB {W:World} {L:List Nat} {b:Nat} {k:BK} (h:XC W L b=some k):∃cs e fr,k= .ro cs e fr∧W.heap[b]?=some (.cells cs e fr):=by
 unfold XC at h
 by_cases hb:b∈L
 ·rw [if_pos hb] at h
  split at h
  ·rename_i cs e fr he
   cases h
   exact ⟨cs,e,fr,rfl,he⟩
  ·cases h
 ·rw [if_neg hb] at h;cases h
theorem abQ {P:Program} {f:FuncId} {l:List Int} {v:Value} {W:World} {post:AV→List AV→Prop} (h:TC P f false [.s (.vw kE l)] [] post) (hp:∀r os,post r os→r= .s (.q true)) (hv:Bys W l v)
  (hg:∀g∈uB,∃cs e fr,W.heap[g.1]?=some (.cells cs e fr)∧g.2 cs):Calls P f #[v] W fun e w'=>e= .returned (.bool true)∧Below W.heap.size W w':=by
 have key:∀L:List Nat,(∀g∈uB,g.1∈L)→(SV.vw kE l).rel (XC W L) (fun _=>0) v→Calls P f #[v] W fun e w'=>e= .returned (.bool true)∧Below W.heap.size W w':=by
  intro L hL hr
  have h1:=h W (XC W L) (fun _=>0) [v] (fun b k hk=>by
    obtain ⟨cs,e,fr,rfl,he⟩:=PB hk
    exact he) ⟨fun b ek n cs hk=>(by obtain ⟨_,_,_,hx,_⟩:=PB hk;cases hx),fun g hm=>(by
     obtain ⟨cs,e,fr,h1,h2⟩:=hg g hm
     exact ⟨cs,e,fr,Z0 h1 (hL g hm),h2⟩)⟩ ⟨hr,trivial⟩ (fun av ha i hi=>(by
    rcases List.mem_singleton.1 ha with rfl
    cases hi)) ⟨Nat.zero_le _,fun i av hi=>(by simp at hi),fun i j hi=>(by cases hi)⟩
  refine h1.mono fun e w' ⟨v',r,os,T',β',he,hpo,cV,_,ha,_⟩=>?_
  have uJ:=hp r os hpo
  subst uJ
  have hv':v'= .bool true:=cV
  subst hv'
  refine ⟨he,ha.os,ha.tape,ha.output,ha.gG,fun b hb=>?_⟩
  cases hT:XC W L b with
  |none=>exact ha.frame b hb (fun i hi=>by cases hi) (by rw [hT];trivial)
  |some k=>
   obtain ⟨cs,e',fr,rfl,hh⟩:=PB hT
   have h2:=ha.typed b _ ((ha.new b hb).trans hT)
   rw [hh];exact h2
 cases hv with
 |none p cap h0=>exact key (uB.map (·.1)) (fun g hm=>List.mem_map.2 ⟨g,hm,rfl⟩) (.inl ⟨h0,p,cap,rfl⟩)
 |some b o cap cs e fr h1 h2 h3=>
  exact key (b::uB.map (·.1)) (fun g hm=>List.mem_cons_of_mem _ (List.mem_map.2 ⟨g,hm,rfl⟩)) (.inr ⟨b,o,cap,cs,e,fr,rfl,h2,Z0 h1 (List.mem_cons_self ..),h3⟩)
end GL
end Go.Proofs.YtbfgjadbfjkcdaaGreatDoor
namespace Go.Proofs.YtbfgjadbfjkcdaaGreatDoor
open Go Go.ChangeShapes Go.WideShapes Go.ChangeAt Go.RowKit
theorem aiC {n:Int} (h:(Lit.int .u8 n).wf=true):0≤n∧n≤255:=by
 have h1:(decide (IntKind.u8.min≤n)&&decide (n≤IntKind.u8.max))=true:=h
 rw [show IntKind.u8.min=0 from rfl,show IntKind.u8.max=255 from rfl] at h1
 simpa using h1
theorem own:ownKnob Tryz.prog.godebug=none:=by kernel_rfl
theorem laidOut:laidOutB Tryz.prog=true:=by kernel_rfl
theorem agu:Tryz.prog.cellsOf 5=1:=by kernel_rfl
theorem U2 {W:World} {n:String} {g:Nat} {cs:Array Value} (hg:Tryz.prog.globalNamed n=some g) (h:W.var? Tryz.prog n=some cs):∃e fr,W.heap[g]?=some (.cells cs e fr):=by
 unfold World.var? at h
 rw [hg] at h
 simp only [Option.bind_some] at h
 split at h
 ·rename_i c e fr he
  cases h
  exact ⟨e,fr,he⟩
 ·cases h
set_option maxRecDepth 100000 in
theorem abO {W:World} (hs:W.ShapedOpen Tryz.prog):∃n e fr,W.heap[0]?=some (.cells #[.int .i64 n] e fr):=by
 obtain ⟨cs,hh,hz,hr⟩:=hs.1 0 #[.int .i64 0] 3 (GL.cw (by kernel_rfl)) (by kernel_rfl)
 obtain ⟨ts,hts,_,qE⟩:=hr (by kernel_rfl)
 obtain rfl:=Option.some.inj ((show Tryz.prog.cellTypes Tryz.prog.depth 3=some [3] by kernel_rfl).symm.trans hts)
 have h1:cs.size=1:=hz
 obtain ⟨u,hu,cq⟩:=qE 0 cs[0] (by simp [h1])
 have:u=3:=by simpa using hu.symm
 subst this
 unfold Cell.ok at cq
 rw [Tryz.underlying3] at cq
 have j7:cs= #[cs[0]]:=by
  apply Array.ext
  ·simp [h1]
  ·intro i h2 h3
   have:i=0:=by omega
   subst this;rfl
 rw [j7] at hh
 cases hv:cs[0] with
 |int k n=>
  rw [hv] at cq hh
  cases k<;>first |exact ⟨n,_,_,hh⟩ |simp at cq
 |_=>rw [hv] at cq;simp at cq
theorem DM {W:World} {l:List (String×DataW Unit)} {n nm:String} {d:DataW Unit} {g:Nat} (h:laidMet Tryz.prog l W) (hm:(n,DataW.iface nm d)∈l) (hg:Tryz.prog.globalNamed n=some g) (ht:(Tryz.prog.globals[g]?).map (·.type)=some 171):∃t v,W.var? Tryz.prog n=some #[.iface t v]:=by
 obtain ⟨g',t,cs,fuel,p,hg',ht',hv,hd⟩:=Lib.laidMet.reads h hm
 obtain rfl:=Option.some.inj (hg.symm.trans hg')
 obtain rfl:=Option.some.inj (ht.symm.trans ht')
 obtain ⟨_,u,v,j7,_⟩:=iface_of_trod Tryz.underlying171 hd
 refine ⟨u,v,hv.trans (congrArg some ?_)⟩
 exact Array.toList_inj.1 j7
theorem aeD {W:World} (hs:W.ShapedOpen Tryz.prog) (hl:laidMet Tryz.prog Rows.fnTreeOkRow.laid W):∀g∈GL.uB,∃cs e fr,W.heap[g.1]?=some (.cells cs e fr)∧g.2 cs:=by
 have l2:=hl.tail.tail
 have l4:=l2.tail.tail
 have l5:=l4.tail
 have akN:=Lib.tabIs_of_head (k:=.u64) (zs:=Lib.pow10Tab) (g:=5) (t:=222) (e:=205) (n:=20) (by kernel_rfl) (by kernel_rfl) (by kernel_rfl) (by kernel_rfl) (by kernel_rfl) (by kernel_rfl) l2
 obtain ⟨t1,v1,h1⟩:=DM (g:=4) l4 (.head _) (by kernel_rfl) (by kernel_rfl)
 obtain ⟨t2,v2,h2⟩:=DM (g:=3) l5 (.head _) (by kernel_rfl) (by kernel_rfl)
 intro g hg
 unfold GL.uB at hg
 simp only [List.mem_cons,List.not_mem_nil,or_false] at hg
 rcases hg with rfl |rfl |rfl |rfl
 ·obtain ⟨n,e,fr,h⟩:=abO hs
  exact ⟨_,e,fr,h,n,rfl⟩
 ·obtain ⟨e,fr,h⟩:=U2 (g:=3) (by kernel_rfl) h2
  exact ⟨_,e,fr,h,t2,v2,rfl⟩
 ·obtain ⟨e,fr,h⟩:=U2 (g:=4) (by kernel_rfl) h1
  exact ⟨_,e,fr,h,t1,v1,rfl⟩
 ·obtain ⟨e,fr,h⟩:=U2 (g:=5) (by kernel_rfl) akN
  exact ⟨_,e,fr,h,rfl⟩
end Go.Proofs.YtbfgjadbfjkcdaaGreatDoor
namespace Go.Proofs.YtbfgjadbfjkcdaaGreatDoor
open Go Go.ChangeShapes Go.WideShapes Go.ChangeAt Go.RowKit
def P9:Prop:=∀(W:World) (l:List Int) (v:Value),GL.Bys W l v→(∀b∈l,0≤b∧b≤255)→(∀g∈GL.uB,∃cs e fr,W.heap[g.1]?=some (.cells cs e fr)∧g.2 cs)→
 Calls Tryz.prog 3 #[v] W fun e w'=>e= .returned (.bool true)∧Below W.heap.size W w'
theorem aia {W:World} {b o len cap:Nat} {zs:List Int} (mV:0 < len) (hc:len≤cap) (hlen:zs.length=cap) (D2:∀j,j < zs.length→W.cell? ⟨b,o+j,none⟩=some (.int .u8 (zs.getD j 0))):GL.Bys W (zs.take len) (.slice (some ⟨b,o,none⟩) len cap):=by
 have h0:=D2 0 (by omega)
 unfold World.cell? at h0
 split at h0
 ·rename_i cs e fr hh
  have hl:(zs.take len).length=len:=by rw [List.length_take];omega
  have key:GL.win cs o (GL.flat GL.kE (zs.take len)):=fun j v hj=>by
   rw [GL.PS,List.getElem?_map] at hj
   cases hz:(zs.take len)[j]? with
   |none=>rw [hz] at hj;cases hj
   |some z=>
    rw [hz] at hj
    cases hj
    have bM:j < len:=by have:=(List.getElem?_eq_some_iff.1 hz).1;omega
    have hz':zs[j]?=some z:=by rw [←hz,List.getElem?_take_of_lt bM]
    have h1:=D2 j (by omega)
    unfold World.cell? at h1
    rw [hh] at h1
    rw [show zs.getD j 0=z by simp [List.getD,hz']] at h1
    exact h1
  have h2:=GL.Bys.some (W:=W) (l:=zs.take len) b o cap cs e fr hh (by rw [hl];exact hc) key
  rw [hl] at h2
  exact h2
 ·cases h0
set_option maxRecDepth 100000 in
theorem lifted (hwalk:P9) (os:Os) (started:os.Started) (H:Type) (enc:TypeId×Value→H):
  ReturnsInHanded {} Tryz.checked os 3 .any (fun w args=>(Rows.fnTreeOkSpec.pre enc Tryz.prog Tryz.f3 Rows.fnTreeOkRow.domain false w args∧laidMetH Tryz.prog Rows.fnTreeOkRow.laid w)∧sizedMet enc Tryz.prog Tryz.f3 (OpenSpec.ofChange Rows.fnTreeOkSpec) false w args)
   (Rows.fnTreeOkSpec.post enc Tryz.prog Tryz.f3 false true false false):=by
 refine returnsInHanded_of_calls own started (by kernel_rfl)
  (ChangeSpec.witness_shaped (enc:=enc) (C:=Tryz.checked) (os:=os) (X:=fun w _=>laidMetH Tryz.prog Rows.fnTreeOkRow.laid w) false (World.laidAll Tryz.prog os Rows.fnTreeOkRow.laid) #[.slice none 0 0] 8 (World.laidAll_os _ _ _)
   (World.shaped_of_ZipB (by kernel_rfl) (by kernel_rfl)) (by kernel_rfl) (by kernel_rfl) (by kernel_rfl)
   (by rw [MakeChecks.laidMetH_plain _ _ _ (by kernel_rfl)];exact laidMet_laidAll _ (by kernel_rfl) (by kernel_rfl))) ?_
 intro w tape i _ hsh _ cq aej _
 obtain ⟨_,_,_,fn',ak6,_,_,_,_,Z6⟩:=cq
 obtain rfl:fn'=Tryz.f3:=Option.some.inj (ak6.symm.trans Tryz.func3)
 obtain ⟨⟨⟨ds,gs,before,hw,hc⟩,hx⟩,hz⟩:=aej
 have hW:=DataW.Whole.of_heap (w':=w.forCall tape i) (by rfl) hw
 have hL:laidMet Tryz.prog Rows.fnTreeOkRow.laid (w.forCall tape i):=by
  rw [MakeChecks.laidMetH_plain _ _ _ (by kernel_rfl)] at hx
  exact laidMet.of_heap (w':=w.forCall tape i) (by rfl) hx
 have ag3:=aeD hsh hL
 generalize hWe:w.forCall tape i=W at hW Z6 ag3 ⊢
 generalize hbe:w.heap.size=base at Z6
 generalize hae:i.args=args at hW Z6 ⊢
 have key:Calls Tryz.prog 3 args W fun e W'=>∃v,e= .returned v∧Rows.fnTreeOkSpec.post enc Tryz.prog Tryz.f3 false true false false W args v W':=by
  have XO:∀(j:Nat) t v,Tryz.f3.params[j]?=some t→args[j]?=some v→Value.okWide Tryz.prog W .any base t v:=Z6
  have hW':=hW
  obtain ⟨p,q,hA0,hV,rfl,_,_⟩:=hW
  have hA:DataW.TrodAll enc Tryz.prog W 0 (fun _=>true) true Tryz.f3.params.toList args.toList ds p:=hA0
  rw [Tryz.params3] at hA XO
  obtain ⟨v0,d0,rfl,rfl,h0⟩:=trodAll_one hA
  obtain ⟨rfl,rfl⟩:=trodVars_none hV
  have h0k:=h0
  obtain ⟨fuel,hf⟩:=h0
  clear hA0
  simp only [List.append_nil] at hW'
  have bM:∀x∈p,x.block < W.heap.size:=fun x hx=>by simpa using hW'.lt x hx
  obtain ⟨a0,len,cap,rfl⟩:=okWide_slice Tryz.underlying22 (XO 0 22 v0 rfl rfl)
  have ah0:∃zs,GL.Bys W zs (.slice a0 len cap)∧∀b∈zs,0≤b∧b≤255:=by
   rcases open_ints Tryz.underlying22 Tryz.underlying5 agu hf with ⟨j7,_⟩ |⟨a,alZ,xq,zs,j7,_,hl,hm,hz,_,D2,hwz⟩
   ·simp [Value.cells] at j7
    obtain ⟨rfl,rfl,rfl⟩:=j7
    exact ⟨[], .none none 0 rfl,fun b hb=>by cases hb⟩
   ·simp [Value.cells] at j7
    obtain ⟨rfl,rfl,rfl⟩:=j7
    by_cases h:len=0
    ·subst h
     exact ⟨[], .none _ _ rfl,fun b hb=>by cases hb⟩
    ·simp only [if_true] at hz
     have mV:0 < zs.length:=by omega
     obtain ⟨b,off,spot⟩:=a
     have ajc:spot=none:=by simpa [Addr.add] using World.cell?_spot (D2 0 mV)
     subst ajc
     exact ⟨zs.take len,aia (by omega) hl hz (fun j hj=>by have h1:=D2 j hj;simp only [Addr.add] at h1;by_cases e:j=0;(subst e;rw [if_pos rfl] at h1;exact h1);(rw [if_neg e] at h1;exact h1)),fun x hx=>aiC (hwz x (List.mem_of_mem_take hx))⟩
  obtain ⟨zs,hb1,hb2⟩:=ah0
  refine (hwalk W zs _ hb1 hb2 ag3).mono fun e W' ⟨he,agj⟩=>?_
  subst he
  refine ⟨_,rfl,?_⟩
  exact ⟨_,_,_,[],_,[],hW',trodAll_mk1 (shut_bool Tryz.underlying4 _),trodAll_mk1 (Below.trod laidOut (by kernel_rfl) (GL.cw (by kernel_rfl)) h0k agj bM),rfl,agj.frame _,fun h=>by cases h⟩
 refine key.mono fun e W' ⟨v,he,hp⟩=>?_
 subst he
 exact ChangeSpec.post_blind hp
theorem fnTreeOk_holds (hwalk:P9):Rows.FnTreeOkSaid:=
 OpenClaim.holds_of_wide 3 Tryz.f3 rfl rfl rfl rfl rfl rfl rfl ⟨rfl,rfl,rfl,rfl,rfl⟩ rfl rfl rfl rfl rfl (by kernel_rfl) Tryz.func3 (by kernel_rfl)
  (GL.cw (by kernel_rfl)) (by unfold Func.isWrapper;first |(rw [if_pos (by decide+kernel)];kernel_rfl) |(rw [if_neg (by decide+kernel)];exact ⟨rfl,rfl⟩))
  (fun os started H enc _=>lifted hwalk os started H enc)
theorem agv (hwalk:P9):Rows.FnTreeOkCardSaid:=
 Claim7.holds_tied_plain_at .later [] [.data, .data, .data, .data, .sentinel, .sentinel, .pinned] true (true, "eb720ad75bf9e053e8ab8d91ff51f8b6b83a0ac5bf943802e3daabdbacafcd86") true (fnTreeOk_holds hwalk) (fun _ h => by cases h) (by kernel_rfl) (fun _ h => by cases h) fnTreeOk_row_tie rfl ⟨rfl, rfl⟩ (by kernel_rfl) rfl
  (fun f fn hf hfn=>by
   obtain rfl : f = 3 := Option.some.inj ((show Tryz.prog.funcNamed "loop.example/poolfiles/laws.FnTreeOk" = some 3 by kernel_rfl).symm.trans hf) |>.symm
   obtain rfl:fn=Tryz.f3:=(Option.some.inj (Tryz.func3.symm.trans hfn)).symm
   exact ⟨by kernel_rfl,fun j t ht=>by
    rw [Tryz.params3] at ht
    have hm:t∈[22]:=by simpa using Array.mem_of_getElem? ht
    have qE:([22].all fun u=> !Tryz.prog.wantsStandIn u)=true:=by kernel_rfl
    exact (show Tryz.prog.wantsStandIn t=false by simpa using List.all_eq_true.1 qE t hm)⟩)
  (by kernel_rfl)
end Go.Proofs.YtbfgjadbfjkcdaaGreatDoor
namespace Go.Proofs.YtbfgjadbfjkcdaaGreatDoor
open Go
theorem walked:P9:=fun W l v hv hb hg=>
 GL.abQ (l:=l) ((GL.XL.1 l () ⟨hb⟩)) (fun r os h=>by obtain ⟨_,_,h1,_⟩:=h;exact h1) hv hg
theorem fnTreeOk_card_holds:Rows.FnTreeOkCardSaid:=agv walked
#print axioms fnTreeOk_card_holds
end Go.Proofs.YtbfgjadbfjkcdaaGreatDoor
