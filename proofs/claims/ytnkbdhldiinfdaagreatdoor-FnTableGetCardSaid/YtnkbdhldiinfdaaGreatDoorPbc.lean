/- Part 29 of the proof of a drawn law. -/
import Derived.BigCall
import Derived.Deep.OwnRows
import Derived.Lib.BufferWrite
import Derived.Lib.UnsafeStr
import Derived.RegionTactic
import Derived.WalkKit
import Derived.Test.YtnkbdhldiinfdaaGreatDoorPas
import Derived.Test.YtnkbdhldiinfdaaGreatDoorPaw
import Derived.Test.YtnkbdhldiinfdaaGreatDoorPax
import Derived.Test.YtnkbdhldiinfdaaGreatDoorPba
import Derived.Test.YtnkbdhldiinfdaaGreatDoorPbb
set_option maxHeartbeats 20000000
set_option maxRecDepth 100000
set_option linter.all false
namespace Go.Proofs.YtnkbdhldiinfdaaGreatDoor
namespace GL
def an7 (S:ay) (t:bf) (k:Int) (n:fu):Prop:=S.wg 1046000∧t.ok∧0≤k∧k≤15
def ap8 (S:ay) (t:bf) (k:Int) (n:fu) (z:Bool):Prop:=z=(aY S t k (aC n)).2.2
def anp (S:ay) (t:bf) (k:Int) (n:fu) (z:Bool):AV:=match z with |true=>.t [.a (kW 0 1 2 5 6 (aY S t k (aC n)).1),trA (aY S t k (aC n)).2.1,.s (.q true)] |false=>.t [.a (kW 0 1 2 3 4 (aY S t k (aC n)).1),trA (aY S t k (aC n)).2.1,.s (.q false)]
def anB (S:ay) (t:bf) (k:Int) (n:fu) (z:Bool):List AV:=match z with |true=>[.rs ab (aY S t k (aC n)).1.rows,.rs ag (aY S t k (aC n)).1.refs,.rs ag (aY S t k (aC n)).1.last,.zz,.zz,.rs ae (aY S t k (aC n)).1.gone,.rs ae (aY S t k (aC n)).1.dead] |false=>GF (aY S t k (aC n)).1++[.zz,.zz]
def aoM:cn where
 A:=[.a (stB 0 1 2 3 4),.a [.int,.int,.int,.int,.int,.int,.int],.s .int,.a [.int,.int,.int,.int,.int,.int,.int,.int,.int,.int]]
 B:=[.r ab,.r ag,.r ag,.r ae,.r ae]
 pre:=λx b=>stW x.1 b∧an7 (gP x.1 b) (x.2.1) (x.2.2.1) (x.2.2.2)
 α:=λ_ _=>Bool
 φ:=λx b z=>ap8 (gP x.1 b) (x.2.1) (x.2.2.1) (x.2.2.2) z
 r:=λx b z=>anp (gP x.1 b) (x.2.1) (x.2.2.1) (x.2.2.2) z
 o:=λx b z=>anB (gP x.1 b) (x.2.1) (x.2.2.1) (x.2.2.2) z
 nf:=2
 mv:=true
theorem aq2:Has Tryz.prog 77 aoM:=by
 refine Has.ofZ zT zF zF (l:=[(118,sO),(60,ez)]) ⟨MK,lY,aa⟩ Tryz.func77 ?_
 rintro⟨⟨(AU:Nat),(AT:Nat),(AS:Nat),(ao:Int),(AR:Nat),(aq:Int),(AQ:Nat),(ar:Bool)⟩,⟨(t1:Int),(t2:Int),(t3:Int),(t4:Int),(t5:Int),(t6:Int),(t7:Int)⟩,(k:Int),⟨(n1:Int),(n2:Int),(n3:Int),(n4:Int),(n5:Int),(n6:Int),(n7:Int),(n8:Int),(n9:Int),(cw:Int)⟩⟩ ⟨(aj:List ByteArray),(ak:List Int),(an:List Int),(ah:List Pt),(ai:List Pt)⟩ ⟨⟨(gC:AU=List.length aj),(gB:AT=List.length ak),(gA:AS=List.length an),(gz:AR=List.length ah),(gy:AQ=List.length ai)⟩,(hp:an7 (aj,ak,an,ao,ah,aq,ai,ar) (t1,t2,t3,t4,t5,t6,t7) k (n1,n2,n3,n4,n5,n6,n7,n8,n9,cw))⟩
 subst gC gB gA gz gy
 show vc _ _ _ _ (entry [.a [.xs 0 1 0 aj.length,.xs 1 1 0 ak.length,.xs 2 1 0 an.length,.int ao,.xs 3 5 0 ah.length,.int aq,.xs 4 5 0 ai.length,.q ar],.a [.int t1,.int t2,.int t3,.int t4,.int t5,.int t6,.int t7],.int k,.a [.int n1,.int n2,.int n3,.int n4,.int n5,.int n6,.int n7,.int n8,.int n9,.int cw]] [.rs ab aj,.rs ag ak,.rs ag an,.rs ae ah,.rs ae ai]) _
 let g':=(n1,n2,n3,n4,n5,n6,n7,n8,n9,cw)
 let A':=(aj,ak,an,ao,ah,aq,ai,ar)
 let B':=(t1,t2,t3,t4,t5,t6,t7)
 obtain⟨ll,cG,hk0,EX⟩:=hp
 have ll:ay.wg A' 1046000:=ll
 have cG:bf.ok B':=cG
 have dj:=WW g'
 refine⟨[.s 4,.b 1004],Sq11,ζ,[.s 5,.b 1005],Sq12,ζ,Sq2,Sq13,ζ,[.s 7,.b 1007],Sq14,ζ,Sq14,Sq15,ζ,⟨⟨tv11,aa⟩,aa⟩,?_,λx1 w2=>⟨[.s 11,.s 12,.s 13,.s 15,.b 0,.b 1,.b 2,.b 3,.b 4,.b 1000170001,.b 1000170000],[.s 16,.b 0,.b 1,.b 2,.b 3,.b 4,.b 1000170000,.b 1000170001],ζ,⟨⟨tv9,tv8,tv3⟩,⟨?_,?_,?_,?_,?_⟩,?_,?_,?_,?_,?_,?_,?_,?_⟩,?_,λ|false=>λw3=>⟨Sq16,Sq17,ζ,Sq16,Sq18,ζ,Sq16,Sq19,ζ,[.s 8,.s 17,.b 1008],[.b 1008],ζ,[.s 9,.s 18,.b 1009],[.b 1009],ζ,Sq19,Sq10,ζ,?_⟩ |true=>λw4=>⟨Sq16,Sq17,ζ,Sq16,Sq18,ζ,Sq16,Sq19,ζ,[.s 8,.s 17,.b 1008],[.b 1008],ζ,[.s 9,.s 18,.b 1009],[.b 1009],ζ,Sq19,Sq10,ζ,?_⟩⟩⟩
 all_goals first|refine aw ?_|refine ax ?_|exact a8|(dsimp only [sO,ra,ez,fK,gP];omega)|exact a7|exact ll.wf|exact cG.rd|exact cG.m1|exact ll.g|exact ll.d|exact ZB0 dj (by decide)|exact⟨_,rfl⟩|skip
 ·have hz:(aY A' B' k (aC g')).2.2=false:=(show false=(aY A' B' k (aC g')).2.2 from w3).symm
  refine⟨[],[],_,_,_,ζ,az,false,2,(by show false=(aY A' B' k (aC g')).2.2;rw [hz]),?_,?_,ζ⟩
  ·(show _=anp A' B' k g' false);unfold anp;first|(rw [hz];rfl)|rfl
  ·(show _=anB A' B' k g' false);unfold anB;first|(rw [hz];rfl)|rfl
 ·have hz:(aY A' B' k (aC g')).2.2=true:=(show true=(aY A' B' k (aC g')).2.2 from w4).symm
  refine⟨[1000170000,1000170001],[],_,_,_,ζ,az,true,0,(by show true=(aY A' B' k (aC g')).2.2;rw [hz]),?_,?_,ζ⟩
  ·(show _=anp A' B' k g' true);unfold anp;first|(rw [hz];rfl)|rfl
  ·(show _=anB A' B' k g' true);unfold anB;first|(rw [hz];rfl)|rfl
abbrev apa (n:fu):fu:=(n.1,n.2.1+1,n.2.2)
theorem anx (s:ay) (t:bf) (k:Nat):0≤(nth o7 (oE s t) k).2.1∧(nth o7 (oE s t) k).2.1≤9:=by
 have h0:∀x:ByteArray,0≤(bz x).1.2.1∧(bz x).1.2.1≤9:=λx=>by
  cases h:(bz x).2 with
  |false=>rw [WY h];decide
  |true=>have:=lh (WX h);omega
 unfold nth oE
 rw [List.getElem?_map]
 cases (bo s t)[k]? with
 |none=>decide
 |some x=>exact h0 x
theorem FS.arI {u:ay}{t:bf}{x:Int}{text:ByteArray}(hF:FS u t) (hW:u.wg 10000) (hx:0≤x∧x≤15) (hz:false=(aY u t x text).2.2):um u (aY u t x text).1:=(nq hW hF.fi.tree.ok hx.1 hx.2).2.2 hz.symm
def anv (r:List Int×Int):Prop:=Rdr r 900000
def apL (r:List Int×Int) (z:ay×bf×Nat×Int):Prop:=(z.1.gone.length≤20001∧z.1.dead.length≤20001)∧(r.2≤z.2.2.2∧z.2.2.2≤r.2+40000)∧z.2.2.1≤z.1.rows.length∧-1≤z.2.1.2.2.2.2.2.2∧z.2.1.2.2.2.2.2.2≤18
def apI (r:List Int×Int) (z:ay×bf×Nat×Int):AV:=.t [.a [.xs 1 1 z.2.2.1 (z.1.rows.length-z.2.2.1),.xs 2 1 0 z.1.refs.length,.xs 3 1 0 z.1.last.length,.int z.1.cg,.xs 4 5 0 z.1.gone.length,.int z.1.bZ,.xs 5 5 0 z.1.dead.length,.q z.1.same],trA z.2.1]
def ap9 (r:List Int×Int) (z:ay×bf×Nat×Int):List AV:=[.a [.vw mf r.1,.int z.2.2.2],.rs ab z.1.rows,.rs ag z.1.refs,.rs ag z.1.last,.rs ae z.1.gone,.rs ae z.1.dead]
def anC:cn where
 A:=[.b 0]
 B:=[.a [.vw mf,.int]]
 pre:=λx b=>anv b
 α:=λ_ _=>ay×bf×Nat×Int
 φ:=λx b z=>apL b z
 r:=λx b z=>apI b z
 o:=λx b z=>ap9 b z
 nf:=5
theorem apd:Has Tryz.prog 43 anC:=by
 refine Has.fm zT zF zF (l:=[(57,kP),(58,ba),(59,kR),(60,ez),(61,cS),(77,aoM),(64,na)]) ⟨yD,dh,yF,lY,pc,aq2,CO,aa⟩ Tryz.func43 ?_
 rintro _ ⟨(rb:List Int),(rp:Int)⟩ (hp:anv (rb,rp))
 show vc _ _ _ _ (entry [.s (.bp 0 0)] [.a [.vw mf rb,.int rp]]) _
 have hr:Rdr (rb,rp) 900000:=hp
 have hp0:0≤rp:=hr.p0
 have hp1:rp≤900000:=hr.p1
 have hmm:∀{z:ay×bf×Int},(FS z.1 z.2.1∧z.1.wg 10000∧rp≤z.2.2∧z.2.2≤rp+20000)→0<((oE z.1 z.2.1).length:Int)∧((oE z.1 z.2.1).length:Int)≤16:=λ{z} h=>by
  rw [WV h.1.fi.tree.ok]
  have h1:=h.1.many;have h2:=h.1.fi.tree.m1;omega
 have hmn:∀{z:ay×bf×Int},(FS z.1 z.2.1∧z.1.wg 10000∧rp≤z.2.2∧z.2.2≤rp+20000)→0≤z.2.1.2.2.2.2.2.2∧z.2.1.2.2.2.2.2.2≤16:=λ{z} h=>⟨h.1.fi.tree.ok.m0,h.1.fi.tree.ok.m1⟩
 have hgd:∀{z:ay×bf×Int},(FS z.1 z.2.1∧z.1.wg 10000∧rp≤z.2.2∧z.2.2≤rp+20000)→z.1.gone.length≤20001∧z.1.dead.length≤20001:=λ{z} h=>⟨ZB0 h.2.1.g (by decide),ZB0 h.2.1.d (by decide)⟩
 have hp6:∀{n:Nat} {p:Int} {x:Int×Int},(n≤15∧0<n)→(x.1=0∨(0≤x.1∧x.1<(n:Int)))∧x.2=p+1→0≤x.1∧x.1≤15:=λhn h=>by have:=pk (n:=_) (by omega) h;omega
 refine⟨⟨tv2,?_⟩,λx1 w2=>⟨⟨tv3,?_,?_⟩,λx3 w4=>⟨λw5=>⟨Sq0,Sq23,ζ,[.s 4,.b 1004],Sq24,ζ,[.s 23,.s 24,.b 0,.b 170000,.b 170001,.b 170002,.b 170003,.b 170004,.b 260004,.b 260003,.b 260002,.b 260001,.b 260000],[.s 25,.b 0,.b 260000,.b 260001,.b 260002,.b 260003,.b 260004],ζ,⟨⟨aa,⟨⟨?_,?_⟩,⟨?_,?_⟩,⟨?_,?_⟩,aa,⟨?_,?_⟩,aa,⟨?_,?_⟩,tv2⟩,aa⟩,?_,?_⟩,?_,λx6 w7=>⟨[.s 5,.b 1005],Sq26,ζ,[.s 2,.s 25,.b 1002],[.b 1002],ζ,[.s 3,.s 26,.b 1003],[.b 1003],ζ,?_⟩⟩,λw8=>⟨λw9=>⟨[.s 4,.b 1004],Sq30,ζ,[.s 5,.b 1005],Sq31,ζ,Sq0,Sq32,ζ,[.s 32,.b 0],[.s 33,.b 0],ζ,⟨tv3,?_,?_⟩,?_,λx10 kA=>⟨Sq0,Sq34,ζ,[.s 34,.b 0],[.s 35,.b 0],ζ,⟨tv3,?_,?_,?_⟩,?_,λx12 iU=>⟨[.s 30,.s 31,.s 33,.s 35,.b 170000,.b 170001,.b 170002,.b 170003,.b 170004,.b 1000370001,.b 1000370000],[.s 36,.b 170000,.b 170001,.b 170002,.b 170003,.b 170004,.b 1000370000,.b 1000370001],ζ,⟨⟨tv9,tv8,tv3⟩,⟨?_,?_,?_,?_,?_⟩,?_,?_,?_,?_,?_,?_,?_,?_⟩,?_,λ|false=>λgO=>⟨Sq36,Sq29,ζ,Sq29,Sq37,ζ,Sq29,Sq38,ζ,Sq29,Sq39,ζ,[.b 1006],[.s 6,.b 1006],ζ,[.b 1007],[.s 7,.b 1007],ζ,[.s 6,.s 37,.b 1006],[.b 1006],ζ,[.s 7,.s 38,.b 1007],[.b 1007],ζ,Sq39,Sq8,ζ,λqK=>⟨[.s 6,.b 1006],Sq41,ζ,[.s 7,.b 1007],Sq42,ζ,[.s 2,.s 41,.b 1002],[.b 1002],ζ,[.s 3,.s 42,.b 1003],[.b 1003],ζ,?_⟩,λkg=>⟨[.s 4,.b 1004],Sq78,ζ,[.s 5,.b 1005],Sq79,ζ,[.s 2,.s 78,.b 1002],[.b 1002],ζ,[.s 3,.s 79,.b 1003],[.b 1003],ζ,?_⟩⟩ |true=>λxh=>⟨Sq36,Sq29,ζ,Sq29,Sq37,ζ,Sq29,Sq38,ζ,Sq29,Sq39,ζ,[.b 1006],[.s 6,.b 1006],ζ,[.b 1007],[.s 7,.b 1007],ζ,[.s 6,.s 37,.b 1006],[.b 1006],ζ,[.s 7,.s 38,.b 1007],[.b 1007],ζ,Sq39,Sq8,ζ,λrS=>⟨[.s 6,.b 1006],Sq41,ζ,[.s 7,.b 1007],Sq42,ζ,[.s 2,.s 41,.b 1002],[.b 1002],ζ,[.s 3,.s 42,.b 1003],[.b 1003],ζ,?_⟩,λoL=>⟨[.s 4,.b 1004],Sq78,ζ,[.s 5,.b 1005],Sq79,ζ,[.s 2,.s 78,.b 1002],[.b 1002],ζ,[.s 3,.s 79,.b 1003],[.b 1003],ζ,?_⟩⟩⟩⟩⟩,λuI=>⟨λA4=>⟨⟨⟨⟨⟨?_,?_⟩,⟨?_,?_⟩,⟨?_,?_⟩,aa,⟨?_,?_⟩,aa,⟨?_,?_⟩,tv2⟩,tv8,aa⟩,?_,?_⟩,λx22 xK=>⟨⟨tv3,?_,?_⟩,λx24 w25=>⟨⟨?_,?_⟩,⟨?_,?_⟩,[.s 4,.b 1004],Sq60,ζ,[.s 5,.b 1005],Sq61,ζ,Sq0,Sq62,ζ,[.s 62,.b 0],[.s 63,.b 0],ζ,⟨tv3,?_,?_⟩,?_,λx26 w27=>⟨[.s 10,.b 1010],Sq64,ζ,[.s 60,.s 61,.s 63,.s 64,.b 170000,.b 170001,.b 170002,.b 170003,.b 170004,.b 1000660001,.b 1000660000],[.s 65,.b 170000,.b 170001,.b 170002,.b 170003,.b 170004,.b 1000660000,.b 1000660001],ζ,⟨⟨tv9,tv8,aa,tv11,aa⟩,⟨?_,?_,?_,?_,?_⟩,?_,?_,?_,?_⟩,?_,λ|false=>λw28=>⟨Sq65,Sq59,ζ,Sq59,Sq66,ζ,Sq59,Sq67,ζ,Sq59,Sq68,ζ,[.b 1011],[.s 11,.b 1011],ζ,[.b 1012],[.s 12,.b 1012],ζ,[.s 11,.s 66,.b 1011],[.b 1011],ζ,[.s 12,.s 67,.b 1012],[.b 1012],ζ,Sq68,Sq13,ζ,λw29=>⟨[.s 11,.b 1011],Sq70,ζ,[.s 12,.b 1012],Sq71,ζ,[.s 2,.s 70,.b 1002],[.b 1002],ζ,[.s 3,.s 71,.b 1003],[.b 1003],ζ,?_⟩,λw30=>⟨[.s 4,.b 1004],Sq78,ζ,[.s 5,.b 1005],Sq79,ζ,[.s 2,.s 78,.b 1002],[.b 1002],ζ,[.s 3,.s 79,.b 1003],[.b 1003],ζ,?_⟩⟩ |true=>λw31=>⟨Sq65,Sq59,ζ,Sq59,Sq66,ζ,Sq59,Sq67,ζ,Sq59,Sq68,ζ,[.b 1011],[.s 11,.b 1011],ζ,[.b 1012],[.s 12,.b 1012],ζ,[.s 11,.s 66,.b 1011],[.b 1011],ζ,[.s 12,.s 67,.b 1012],[.b 1012],ζ,Sq68,Sq13,ζ,λw32=>⟨[.s 11,.b 1011],Sq70,ζ,[.s 12,.b 1012],Sq71,ζ,[.s 2,.s 70,.b 1002],[.b 1002],ζ,[.s 3,.s 71,.b 1003],[.b 1003],ζ,?_⟩,λw33=>⟨[.s 4,.b 1004],Sq78,ζ,[.s 5,.b 1005],Sq79,ζ,[.s 2,.s 78,.b 1002],[.b 1002],ζ,[.s 3,.s 79,.b 1003],[.b 1003],ζ,?_⟩⟩⟩⟩⟩⟩,λw34=>⟨λw35=>⟨⟨?_,?_⟩,[.s 4,.b 1004],Sq78,ζ,[.s 5,.b 1005],Sq79,ζ,[.s 2,.s 78,.b 1002],[.b 1002],ζ,[.s 3,.s 79,.b 1003],[.b 1003],ζ,?_⟩,λw36=>⟨[.s 4,.b 1004],Sq78,ζ,[.s 5,.b 1005],Sq79,ζ,[.s 2,.s 78,.b 1002],[.b 1002],ζ,[.s 3,.s 79,.b 1003],[.b 1003],ζ,?_⟩⟩⟩⟩⟩⟩⟩
 all_goals first|refine aw ?_|refine ax ?_|exact a8|(dsimp only [kP,lL,ba,ck,kR,lN,ez,fK,cS,ie,aoM,an7,na,nL,gP];omega)|exact a7|exact hr|exact hr.at (show 0≤x1.2.2 by have e:rp≤x1.2.2∧x1.2.2≤rp+20000:=w2.2.2;omega) (show x1.2.2≤_ by have e:rp≤x1.2.2∧x1.2.2≤rp+20000:=w2.2.2;omega)|exact hr.at (show 0≤x3.2 by have e:rp≤x1.2.2∧x1.2.2≤rp+20000:=w2.2.2;have e3:x3.2=x1.2.2+1:=w4.2;omega) (show x3.2≤_ by have e:rp≤x1.2.2∧x1.2.2≤rp+20000:=w2.2.2;have e3:x3.2=x1.2.2+1:=w4.2;omega)|exact (show FS x1.1 x1.2.1 from w2.1).ta.hur w2.2.1 (by decide)|exact⟨(x1.1,0,x3.2),hgd w2,⟨ZC1 _,(by show x3.2≤x3.2+1100;omega)⟩,ZA7 _⟩|exact⟨(0,x3.2+1),.inl rfl,rfl⟩|exact (show FS x1.1 x1.2.1 from w2.1).fi.acc.wf.rd|exact (show FS x1.1 x1.2.1 from w2.1).fi.acc.wf|exact (show FS x1.1 x1.2.1 from w2.1).fi.tree.ok|exact (show FS x1.1 x1.2.1 from w2.1).fi.tree.ok.rd|exact (show FS x1.1 x1.2.1 from w2.1).fi.tree.ok.m1|exact ZE0 (hmm w2).2 (by decide)|exact ZB0 (hgd w2).1 (by decide)|exact ZB0 (hgd w2).2 (by decide)|exact (w2.2.1).mono (by decide)|exact⟨_,rfl⟩|exact hr.at (show 0≤x10.2 by have e:rp≤x1.2.2∧x1.2.2≤rp+20000:=w2.2.2;have e3:x3.2=x1.2.2+1:=w4.2;have e10:x10.2=x3.2+1:=kA.2;omega) (show x10.2≤_ by have e:rp≤x1.2.2∧x1.2.2≤rp+20000:=w2.2.2;have e3:x3.2=x1.2.2+1:=w4.2;have e10:x10.2=x3.2+1:=kA.2;omega)|exact⟨(⟨#[]⟩,x10.2),(by show ((0:Nat):Int)≤6;decide),ZC1 _,(by show x10.2≤x10.2+1000;omega)⟩|exact (pk (n:=6) (by decide) kA).1|(show x10.1≤15;have h:=(pk (n:=6) (by decide) kA).2;omega)|(show x12.1.size≤1000000;have h:(x12.1.size:Int)≤6:=iU.1;omega)|exact (pk (hmm w2).1 w25).1|exact (pk (hmm w2).1 w25).2|(show gK≤(nth o7 (oE x1.1 x1.2.1) x24.1.toNat).2.1+1;have h:=anx x1.1 x1.2.1 x24.1.toNat;unfold gK;omega)|(show (nth o7 (oE x1.1 x1.2.1) x24.1.toNat).2.1+1≤imax;have h:=anx x1.1 x1.2.1 x24.1.toNat;unfold imax;omega)|exact hr.at (show 0≤x24.2 by have e:rp≤x1.2.2∧x1.2.2≤rp+20000:=w2.2.2;have e3:x3.2=x1.2.2+1:=w4.2;have e10:x24.2=x3.2+1:=w25.2;omega) (show x24.2≤_ by have e:rp≤x1.2.2∧x1.2.2≤rp+20000:=w2.2.2;have e3:x3.2=x1.2.2+1:=w4.2;have e10:x24.2=x3.2+1:=w25.2;omega)|exact⟨(0,x24.2+1),.inl rfl,rfl⟩|exact (pk (n:=4) (by decide) w27).1|(show x26.1≤15;have h:=(pk (n:=4) (by decide) w27).2;omega)|(show gK≤x1.2.1.2.2.2.2.2.2+1;have h:=hmn w2;unfold gK;omega)|(show x1.2.1.2.2.2.2.2.2+1≤imax;have h:=hmn w2;unfold imax;omega)|(show x6.2.1+(x6.1.rows.length-x6.2.1)≤x6.1.rows.length;have h:x6.2.1≤x6.1.rows.length:=w7.2.2;omega)|skip
 all_goals first|exact absurd (show false=true from qK) Bool.noConfusion|exact absurd (show true=false from oL) Bool.noConfusion|exact absurd (show false=true from w29) Bool.noConfusion|exact absurd (show true=false from w33) Bool.noConfusion|skip
 ·have e:rp≤x1.2.2∧x1.2.2≤rp+20000:=w2.2.2
  have e3:x3.2=x1.2.2+1:=w4.2
  have hm:=hmn w2
  have xB:(-1:Int)≤x1.2.1.2.2.2.2.2.2:=by omega
  have EW:x1.2.1.2.2.2.2.2.2≤(18:Int):=by omega
  have e7:x3.2≤x6.2.2∧x6.2.2≤x3.2+1100:=w7.2.1
  refine⟨[260000,260001,260002,260003,260004],[],_,_,_,ζ,cf,(x6.1,x1.2.1,x6.2.1,x6.2.2),⟨w7.1,⟨by show rp≤x6.2.2;omega,by show x6.2.2≤rp+40000;omega⟩,w7.2.2,xB,EW⟩,ζ,ζ,ζ⟩
 ·have e:rp≤x1.2.2∧x1.2.2≤rp+20000:=w2.2.2
  have e3:x3.2=x1.2.2+1:=w4.2
  have hm:=hmn w2
  have xB:(-1:Int)≤x1.2.1.2.2.2.2.2.2:=by omega
  have EW:x1.2.1.2.2.2.2.2.2≤(18:Int):=by omega
  have e10:x10.2=x3.2+1:=kA.2
  have e12:x10.2≤x12.2∧x12.2≤x10.2+1000:=iU.2
  have hx:0≤x10.1∧x10.1≤15:=by have h:=pk (n:=6) (by decide) kA;omega
  have hS:um x1.1 (aY x1.1 x1.2.1 x10.1 x12.1).1:=FS.arI w2.1 w2.2.1 hx gO
  refine⟨[170000,170001,170002,170003,170004],[],_,_,_,ζ,cf,((aY x1.1 x1.2.1 x10.1 x12.1).1,x1.2.1,0,x12.2),⟨⟨by show (aY x1.1 x1.2.1 x10.1 x12.1).1.gone.length≤20001;rw [hS.gone];exact (hgd w2).1,by show (aY x1.1 x1.2.1 x10.1 x12.1).1.dead.length≤20001;rw [hS.dead];exact (hgd w2).2⟩,⟨by show rp≤x12.2;omega,by show x12.2≤rp+40000;omega⟩,ZA7 _,xB,EW⟩,(congrArg (λx=>AV.t [A0.a x,trA x1.2.1]) (nD (b0:=1) (b1:=2) (b2:=3) (b3:=4) (b4:=5) hS w2.2.1.wf)),ζ,ζ⟩
 ·have e:rp≤x1.2.2∧x1.2.2≤rp+20000:=w2.2.2
  have e3:x3.2=x1.2.2+1:=w4.2
  have hm:=hmn w2
  have xB:(-1:Int)≤x1.2.1.2.2.2.2.2.2:=by omega
  have EW:x1.2.1.2.2.2.2.2.2≤(18:Int):=by omega
  have e10:x10.2=x3.2+1:=kA.2
  have e12:x10.2≤x12.2∧x12.2≤x10.2+1000:=iU.2
  have hx:0≤x10.1∧x10.1≤15:=by have h:=pk (n:=6) (by decide) kA;omega
  have hP:=nq (text:=x12.1) w2.2.1 (show FS x1.1 x1.2.1 from w2.1).fi.tree.ok hx.1 hx.2
  refine⟨[170000,170001,170002,1000370000,1000370001],[],_,_,_,ζ,cf,((aY x1.1 x1.2.1 x10.1 x12.1).1,(aY x1.1 x1.2.1 x10.1 x12.1).2.1,0,x12.2),⟨⟨ZB0 hP.1.g (by decide),ZB0 hP.1.d (by decide)⟩,⟨by show rp≤x12.2;omega,by show x12.2≤rp+40000;omega⟩,ZA7 _,by show (-1:Int)≤(aY x1.1 x1.2.1 x10.1 x12.1).2.1.2.2.2.2.2.2;have h:0≤(aY x1.1 x1.2.1 x10.1 x12.1).2.1.2.2.2.2.2.2:=hP.2.1.m0;omega,by show (aY x1.1 x1.2.1 x10.1 x12.1).2.1.2.2.2.2.2.2≤(18:Int);have h:(aY x1.1 x1.2.1 x10.1 x12.1).2.1.2.2.2.2.2.2≤16:=hP.2.1.m1;omega⟩,ζ,ζ,ζ⟩
 ·exact (show∀N:Int,(0≤N∧N≤9)→gK≤N+1 from λN h=>by unfold gK;omega) _ (anx x1.1 x1.2.1 x24.1.toNat)
 ·exact (show∀N:Int,(0≤N∧N≤9)→N+1≤imax from λN h=>by unfold imax;omega) _ (anx x1.1 x1.2.1 x24.1.toNat)
 ·have e:rp≤x1.2.2∧x1.2.2≤rp+20000:=w2.2.2
  have e3:x3.2=x1.2.2+1:=w4.2
  have hm:=hmn w2
  have xB:(-1:Int)≤x1.2.1.2.2.2.2.2.2:=by omega
  have EW:x1.2.1.2.2.2.2.2.2≤(18:Int):=by omega
  have e10:x24.2=x3.2+1:=w25.2
  have e12:x26.2=x24.2+1:=w27.2
  have hx:0≤x26.1∧x26.1≤15:=by have h:=pk (n:=4) (by decide) w27;omega
  have hS:um x1.1 (aY x1.1 x1.2.1 x26.1 (aC (apa (nth o7 (oE x1.1 x1.2.1) x24.1.toNat)))).1:=FS.arI w2.1 w2.2.1 hx w28
  refine⟨[170000,170001,170002,170003,170004],[],_,_,_,ζ,cf,((aY x1.1 x1.2.1 x26.1 (aC (apa (nth o7 (oE x1.1 x1.2.1) x24.1.toNat)))).1,x1.2.1,0,x26.2),⟨⟨by show (aY x1.1 x1.2.1 x26.1 (aC (apa (nth o7 (oE x1.1 x1.2.1) x24.1.toNat)))).1.gone.length≤20001;rw [hS.gone];exact (hgd w2).1,by show (aY x1.1 x1.2.1 x26.1 (aC (apa (nth o7 (oE x1.1 x1.2.1) x24.1.toNat)))).1.dead.length≤20001;rw [hS.dead];exact (hgd w2).2⟩,⟨by show rp≤x26.2;omega,by show x26.2≤rp+40000;omega⟩,ZA7 _,xB,EW⟩,(congrArg (λx=>AV.t [A0.a x,trA x1.2.1]) (nD (b0:=1) (b1:=2) (b2:=3) (b3:=4) (b4:=5) hS w2.2.1.wf)),ζ,ζ⟩
 ·have e:rp≤x1.2.2∧x1.2.2≤rp+20000:=w2.2.2
  have e3:x3.2=x1.2.2+1:=w4.2
  have hm:=hmn w2
  have xB:(-1:Int)≤x1.2.1.2.2.2.2.2.2:=by omega
  have EW:x1.2.1.2.2.2.2.2.2≤(18:Int):=by omega
  have e10:x24.2=x3.2+1:=w25.2
  have e12:x26.2=x24.2+1:=w27.2
  have hx:0≤x26.1∧x26.1≤15:=by have h:=pk (n:=4) (by decide) w27;omega
  have hP:=nq (text:=(aC (apa (nth o7 (oE x1.1 x1.2.1) x24.1.toNat)))) w2.2.1 (show FS x1.1 x1.2.1 from w2.1).fi.tree.ok hx.1 hx.2
  refine⟨[170000,170001,170002,1000660000,1000660001],[],_,_,_,ζ,cf,((aY x1.1 x1.2.1 x26.1 (aC (apa (nth o7 (oE x1.1 x1.2.1) x24.1.toNat)))).1,(aY x1.1 x1.2.1 x26.1 (aC (apa (nth o7 (oE x1.1 x1.2.1) x24.1.toNat)))).2.1,0,x26.2),⟨⟨ZB0 hP.1.g (by decide),ZB0 hP.1.d (by decide)⟩,⟨by show rp≤x26.2;omega,by show x26.2≤rp+40000;omega⟩,ZA7 _,by show (-1:Int)≤(aY x1.1 x1.2.1 x26.1 (aC (apa (nth o7 (oE x1.1 x1.2.1) x24.1.toNat)))).2.1.2.2.2.2.2.2;have h:0≤(aY x1.1 x1.2.1 x26.1 (aC (apa (nth o7 (oE x1.1 x1.2.1) x24.1.toNat)))).2.1.2.2.2.2.2.2:=hP.2.1.m0;omega,by show (aY x1.1 x1.2.1 x26.1 (aC (apa (nth o7 (oE x1.1 x1.2.1) x24.1.toNat)))).2.1.2.2.2.2.2.2≤(18:Int);have h:(aY x1.1 x1.2.1 x26.1 (aC (apa (nth o7 (oE x1.1 x1.2.1) x24.1.toNat)))).2.1.2.2.2.2.2.2≤16:=hP.2.1.m1;omega⟩,ζ,ζ,ζ⟩
 ·have e:rp≤x1.2.2∧x1.2.2≤rp+20000:=w2.2.2
  have e3:x3.2=x1.2.2+1:=w4.2
  have hm:=hmn w2
  have xB:(-1:Int)≤x1.2.1.2.2.2.2.2.2:=by omega
  have EW:x1.2.1.2.2.2.2.2.2≤(18:Int):=by omega
  refine⟨[170000,170001,170002,170003,170004],[],_,_,_,ζ,cf,(x1.1,(x1.2.1.1,x1.2.1.2.1,x1.2.1.2.2.1,x1.2.1.2.2.2.1,x1.2.1.2.2.2.2.1,x1.2.1.2.2.2.2.2.1,x1.2.1.2.2.2.2.2.2+1),0,x3.2),⟨hgd w2,⟨by show rp≤x3.2;omega,by show x3.2≤rp+40000;omega⟩,ZA7 _,by show (-1:Int)≤x1.2.1.2.2.2.2.2.2+1;omega,by show x1.2.1.2.2.2.2.2.2+1≤(18:Int);omega⟩,ζ,ζ,ζ⟩
 ·have e:rp≤x1.2.2∧x1.2.2≤rp+20000:=w2.2.2
  have e3:x3.2=x1.2.2+1:=w4.2
  have hm:=hmn w2
  have xB:(-1:Int)≤x1.2.1.2.2.2.2.2.2:=by omega
  have EW:x1.2.1.2.2.2.2.2.2≤(18:Int):=by omega
  refine⟨[170000,170001,170002,170003,170004],[],_,_,_,ζ,cf,(x1.1,x1.2.1,0,x3.2),⟨hgd w2,⟨by show rp≤x3.2;omega,by show x3.2≤rp+40000;omega⟩,ZA7 _,xB,EW⟩,ζ,ζ,ζ⟩
end GL
namespace GL
open Go.RowKit
abbrev am5 (n:fu):Array Value:= #[.int .i64 n.1,.int .i64 n.2.1,.int .i64 n.2.2.1,.int .i64 n.2.2.2.1,.int .i64 n.2.2.2.2.1,.int .i64 n.2.2.2.2.2.1,.int .i64 n.2.2.2.2.2.2.1,.int .i64 n.2.2.2.2.2.2.2.1,.int .i64 n.2.2.2.2.2.2.2.2.1,.int .i64 n.2.2.2.2.2.2.2.2.2]
abbrev ndV (n:fu):Value:=.agg (am5 n)
def arH (w:World) (v:Value):Option fu→Prop
 |none=>v= .pointer none
 |some n=>∃b,v= .pointer (some ⟨b,0,none⟩)∧w.heap[b]?=some (.cells (am5 n) 49 (0,0))
theorem arH.kept {w w':World}{v:Value}{x:Option fu}(h:arH w v x) (hk:∀(b:Nat) (cs:Array Value),w.heap[b]?=some (Obj.cells cs 49 (0,0))→w'.heap[b]?=w.heap[b]?):arH w' v x:=by
 cases x with
 |none=>exact h
 |some n=>
  obtain⟨b,h1,h2⟩:=h
  exact⟨b,h1,(hk b _ h2).trans h2⟩
def apm (w:World) (B n k:Nat) (X:Nat→Option fu):Prop:=
 ∃f:Nat→Value,w.rowIs B 74 n f∧(∀j,k≤j→f j= .pointer none)∧∀j,j<k→arH w (f j) (X j)
theorem aob {w:World}{b:Nat}{o:Obj}(h:w.heap[b]?=some o):b<w.heap.size:=(ZF1.1 h).1
theorem apm.grow {w w':World}{B n k:Nat}{X:Nat→Option fu}(h:apm w B n k X) (hb:Below w.heap.size w w'):apm w' B n k X:=by
 obtain⟨f,⟨c,h1,h2,h3⟩,h4,h5⟩:=h
 exact⟨f,⟨c,(hb.block _ (aob h1)).trans h1,h2,h3⟩,h4,λj hj=>(h5 j hj).kept λb cs hc=>hb.block _ (aob hc)⟩
theorem apm.skip {w:World}{B n k:Nat}{X:Nat→Option fu}(h:apm w B n k X) (hx:X k=none):apm w B n (k+1) X:=by
 obtain⟨f,h1,h4,h5⟩:=h
 refine⟨f,h1,λj hj=>h4 j (by omega),λj hj=>?_⟩
 rcases Nat.lt_or_ge j k with hjk |hjk
 ·exact h5 j hjk
 ·have:j=k:=by omega
  subst this
  rw [hx];exact h4 j (ZB5 _)
theorem apm.set {w:World}{B n k b:Nat}{X:Nat→Option fu}{m:fu}(h:apm w B n k X) (hk:k<n) (hx:X k=some m) (hb:w.heap[b]?=some (.cells (am5 m) 49 (0,0))):apm (w.setCell ⟨B,k,none⟩ (.pointer (some ⟨b,0,none⟩))) B n (k+1) X:=by
 obtain⟨f,h1,h4,h5⟩:=h
 have fA:∀(b':Nat) (cs:Array Value),w.heap[b']?=some (Obj.cells cs 49 (0,0))→(w.setCell ⟨B,k,none⟩ (.pointer (some ⟨b,0,none⟩))).heap[b']?=w.heap[b']?:=λb' cs hc=>by
  have hbb:b'≠B:=by
   rintro rfl
   obtain⟨c,hc2,_⟩:=h1
   rw [hc2] at hc;cases hc
  exact Go.Deep.blk_setCell_other _ _ _ _ hbb
 refine⟨λj=>if j=k then .pointer (some ⟨b,0,none⟩) else f j,h1.set k _,λj hj=>?_,λj hj=>?_⟩
 ·dsimp only;rw [if_neg (by omega)];exact h4 j (by omega)
 ·dsimp only
  by_cases hjk:j=k
  ·subst hjk
   rw [if_pos rfl,hx]
   exact⟨b,rfl,(fA b _ hb).trans hb⟩
  ·rw [if_neg hjk]
   exact (h5 j (by omega)).kept fA
def ao2 (H G V:Nat→Bool):Nat→Nat→Bool
 |0,_=>true
 |f+1,k=>bif H k then ao2 H G V f (k+1) else bif !(G k) then false else bif !(V k) then false else ao2 H G V f (k+1)
def anI (w:World) (v:Value) (n:Nat) (X:Nat→Option fu):Prop:=∃B,v= .slice (some ⟨B,0,none⟩) n n∧apm w B n n X
theorem aqX (W:World) (rcv t0 t1 t2 t3 t4 t5 t6:Value) (ok:Bool) (L:List Pt) (H G V:Nat→Bool) (R:Nat→ByteArray) (N:Nat→fu) (hn:L.length≤16)
   (hLV:∀w,Below W.heap.size W w→Calls Tryz.prog 66 #[rcv,.agg #[t0,t1,t2,t3,t4,t5,t6]] w λe w'=>∃v,e= .returned (.tuple #[v,.bool ok])∧Below w.heap.size w w'∧(ok=true→arq w' v L))
   (hPH:∀w k (h:k<L.length),Below W.heap.size W w→Calls Tryz.prog 56 #[.agg #[.int .i64 L[k].1,.int .i64 L[k].2.1,.int .i64 L[k].2.2.1,.int .i64 L[k].2.2.2.1,.int .i64 L[k].2.2.2.2]] w λe w'=>e= .returned (.bool (H k))∧Below w.heap.size w w')
   (hRD:∀w k (h:k<L.length),Below W.heap.size W w→Calls Tryz.prog 33 #[rcv,.agg #[.int .i64 L[k].1,.int .i64 L[k].2.1,.int .i64 L[k].2.2.1,.int .i64 L[k].2.2.2.1,.int .i64 L[k].2.2.2.2]] w λe w'=>(∃q,e= .returned (.tuple #[.string (R k),.bool q]))∧Below w.heap.size w w')
   (hNG:∀w k,k<L.length→Below W.heap.size W w→Calls Tryz.prog 119 #[.string (R k)] w λe w'=>e= .returned (.tuple #[ndV (N k),.bool (G k)])∧Below w.heap.size w w')
   (hLN:∀w k,k<L.length→Below W.heap.size W w→Calls Tryz.prog 66 #[rcv,.agg #[.int .i64 (N k).2.2.2.1,.int .i64 (N k).2.2.2.2.1,.int .i64 (N k).2.2.2.2.2.1,.int .i64 (N k).2.2.2.2.2.2.1,.int .i64 (N k).2.2.2.2.2.2.2.1,.int .i64 (N k).2.2.2.2.2.2.2.2.1,.int .i64 (N k).2.2.2.2.2.2.2.2.2]] w λe w'=>∃v,e= .returned (.tuple #[v,.bool (V k)])∧Below w.heap.size w w'):
  Calls Tryz.prog 78 #[rcv,.agg #[t0,t1,t2,t3,t4,t5,t6]] W λe w'=>∃v,e= .returned (.tuple #[v,.bool (bif ok then ao2 H G V L.length 0 else false)])∧Below W.heap.size W w'∧((bif ok then ao2 H G V L.length 0 else false)=true→anI w' v L.length λk=>bif H k then none else some (N k)):=by
 have hmk:=λn (h:n≤1000000)=>run_make_row' (P:=Tryz.prog) 70 74 (.pointer none) 8 (by kernel_rfl) (by kernel_rfl) rfl .i64 .i64 n (by omega) (by omega)
 have asj:=hmk L.length (by omega)
 have asl:∀W:World,(Instr.makeSlice 70 (.int .i64 0) (.int .i64 0)).run Tryz.prog W= .ok (.slice (some ⟨W.heap.size,0,none⟩) 0 0) (W.alloc (.cells (madeCells #[.pointer none] 0) 74)):=hmk 0 (by omega)
 go_enter Tryz.func78,Tryz.ntmps78
 have b0:Below W.heap.size W (W.alloc (.cells #[t0,t1,t2,t3,t4,t5,t6] 33)):=(Below.refl _ W).alloc (ZB5 _) _
 go_wp2_with (go_at_call 66;refine (hLV _ ?_).mono ?_)
 ·exact b0
 rintro e w1 ⟨v,rfl,hB1,hv⟩
 have b1:Below W.heap.size W w1:=b0.trans (hB1.mono b0.size)
 cases ok with
 |false=>
  go_wp2
  go_ret2
  exact⟨_,rfl,b1,λh=>by cases h⟩
 |true=>
  rcases hv rfl with ⟨hL,p,cap,rfl⟩ |⟨amU,amV,cap,rfl,hvb,agU⟩
  ·subst hL
   go_wp2
   refine wp_loop_rounds 1 ?_
   rw [rounds_succ]
   go_wp2
   go_ret2
   exact⟨_,rfl,b1.alloc b1.size _,λ_=>⟨w1.heap.size,rfl,λ_=>.pointer none,World.rowIs_made _ _ _ _,λ_ _=>rfl,λj hj=>absurd hj (Nat.not_lt_zero _)⟩⟩
  ·clear asl hmk
   go_wp2
   go_loopw [30] (λi wr=>∃k:Nat,k≤L.length∧i= .int .i64 k∧Below w1.heap.size w1 wr∧apm wr w1.heap.size L.length k (λk=>bif H k then none else some (N k))∧ao2 H G V (L.length-k) k=ao2 H G V L.length 0) (λi _=>L.length-(intOf i).toNat)
   case atStart=>exact⟨0,ZA7 _,rfl,(Below.refl _ _).alloc (ZB5 _) _,⟨λ_=>.pointer none,World.rowIs_made _ _ _ _,λ_ _=>rfl,λj hj=>absurd hj (Nat.not_lt_zero _)⟩,rfl⟩
   case round=>
    obtain⟨k,hk,rfl,hnx,ob,hg⟩:=hrel
    clear asj
    by_cases bU:k<L.length
    ·obtain⟨c0,c1,c2,c3,c4⟩:=agU k bU
     have d0:=(hnx.cell (p:=⟨amU,amV+k*5,none⟩) hvb).trans c0
     have d1:=(hnx.cell (p:=⟨amU,amV+k*5+1,none⟩) hvb).trans c1
     have d2:=(hnx.cell (p:=⟨amU,amV+k*5+2,none⟩) hvb).trans c2
     have d3:=(hnx.cell (p:=⟨amU,amV+k*5+3,none⟩) hvb).trans c3
     have d4:=(hnx.cell (p:=⟨amU,amV+k*5+4,none⟩) hvb).trans c4
     clear c0 c1 c2 c3 c4 agU hLV
     have amt:Below W.heap.size W wr:=b1.trans (hnx.mono b1.size)
     rw [show L.length-k=(L.length-(k+1))+1 by omega,ao2] at hg
     have ams:Below wr.heap.size wr (wr.alloc (.cells #[.int .i64 L[k].1,.int .i64 L[k].2.1,.int .i64 L[k].2.2.1,.int .i64 L[k].2.2.2.1,.int .i64 L[k].2.2.2.2] 31)):=(Below.refl _ _).alloc (ZB5 _) _
     go_wp2_with (go_at_call 56;refine (hPH _ k bU (amt.trans (ams.mono amt.size))).mono ?_)
     rintro e w3 ⟨rfl,b3⟩
     have e3:Below wr.heap.size wr w3:=ams.trans (b3.mono ams.size)
     have hbx:w3.heap[wr.heap.size]?=some (Obj.cells #[.int .i64 L[k].1,.int .i64 L[k].2.1,.int .i64 L[k].2.2.1,.int .i64 L[k].2.2.2.1,.int .i64 L[k].2.2.2.2] 31 (0,0)):=(b3.block _ (by show _<(wr.heap.push _).size;rw [Array.size_push];omega)).trans (heap_alloc_new wr _)
     have f0:w3.cell? ⟨wr.heap.size,0,none⟩=some (.int .i64 L[k].1):=by rw [rr hbx];rfl
     have f1:w3.cell? ⟨wr.heap.size,1,none⟩=some (.int .i64 L[k].2.1):=by rw [rr hbx];rfl
     have f2:w3.cell? ⟨wr.heap.size,2,none⟩=some (.int .i64 L[k].2.2.1):=by rw [rr hbx];rfl
     have f3:w3.cell? ⟨wr.heap.size,3,none⟩=some (.int .i64 L[k].2.2.2.1):=by rw [rr hbx];rfl
     have f4:w3.cell? ⟨wr.heap.size,4,none⟩=some (.int .i64 L[k].2.2.2.2):=by rw [rr hbx];rfl
     cases hH:H k with
     |true=>
      rw [hH,cond_true] at hg
      go_wp2
      refine⟨⟨k+1,bU,ζ,hnx.trans (e3.mono hnx.size),(ob.grow e3).skip (by rw [hH];rfl),hg⟩,?_⟩
      show L.length-((k:Int)+1).toNat<L.length-((k:Int)).toNat
      omega
     |false=>
      rw [hH,cond_false] at hg
      go_wp2_with (go_at_call 33;refine (hRD _ k bU ?_).mono ?_)
      ·exact amt.trans (e3.mono amt.size)
      rintro e w4 ⟨⟨q,rfl⟩,b4⟩
      have e4:Below wr.heap.size wr w4:=e3.trans (b4.mono e3.size)
      go_wp2_with (go_at_call 119;refine (hNG _ k bU ?_).mono ?_)
      ·exact amt.trans (e4.mono amt.size)
      rintro e w5 ⟨rfl,b5⟩
      have e5:Below wr.heap.size wr w5:=e4.trans (b5.mono e4.size)
      cases hG:G k with
      |false=>
       rw [hG] at hg
       go_wp2
       go_ret2
       exact⟨_,by rw [←hg];rfl,(amt.trans (e5.mono amt.size)).alloc (ZB0 amt.size e5.size) _,λh=>by rw [←hg] at h;cases h⟩
      |true=>
       rw [hG] at hg
       have e5':Below wr.heap.size wr (w5.alloc (.cells (am5 (N k)) 49)):=e5.alloc e5.size _
       go_wp2_with (go_at_call 66;refine (hLN _ k bU ?_).mono ?_)
       ·exact amt.trans (e5'.mono amt.size)
       rintro e w6 ⟨y,rfl,b6⟩
       have e6:Below wr.heap.size wr w6:=e5'.trans (b6.mono e5'.size)
       cases hV:V k with
       |false=>
        rw [hV] at hg
        go_wp2
        go_ret2
        exact⟨_,by rw [←hg];rfl,amt.trans (e6.mono amt.size),λh=>by rw [←hg] at h;cases h⟩
       |true=>
        rw [hV] at hg
        have ho6:=ob.grow e6
        have asq:w6.cell? ⟨w1.heap.size,k,none⟩=some (.pointer none):=by
         obtain⟨f,h1,h2,_⟩:=ho6
         rw [h1.cell bU,h2 k (ZB5 _)]
        have asp:w6.frozen? ⟨w1.heap.size,k,none⟩=false:=by
         obtain⟨f,h1,_,_⟩:=ho6
         exact h1.frozen k
        have hnb:w6.heap[w5.heap.size]?=some (.cells (am5 (N k)) 49 (0,0)):=(b6.block _ (by show _<(w5.heap.push _).size;rw [Array.size_push];omega)).trans (heap_alloc_new w5 _)
        have ad5:=ho6.set bU (m:=N k) (by rw [hH];rfl) hnb
        have ali:Below w1.heap.size w1 (w6.setCell ⟨w1.heap.size,k,none⟩ (.pointer (some ⟨w5.heap.size,0,none⟩))):=(hnx.trans (e6.mono hnx.size)).setCell (p:=⟨w1.heap.size,k,none⟩) (ZB5 _) _
        go_wp2
        refine⟨⟨k+1,bU,ζ,ali,ad5,hg⟩,?_⟩
        show L.length-((k:Int)+1).toNat<L.length-((k:Int)).toNat
        omega
    ·have hkk:k=L.length:=by omega
     subst hkk
     rw [Nat.sub_self,ao2] at hg
     go_wp2
     go_ret2
     exact⟨_,by rw [←hg];rfl,b1.trans (hnx.mono b1.size),λ_=>⟨w1.heap.size,rfl,ob⟩⟩
end GL
namespace GL
open Go.RowKit
def amX (s sep:ByteArray):ByteArray×ByteArray×Bool:=(⟨(Lib.cut s.data.toList sep.data.toList).1.toArray⟩,⟨(Lib.cut s.data.toList sep.data.toList).2.1.toArray⟩,(Lib.cut s.data.toList sep.data.toList).2.2)
def arn:cn:=X3 [.s .str,.s .str] (λx=>x.1.size≤1000000) λx=>.t [.s (.str (amX x.1 x.2).1),.s (.str (amX x.1 x.2).2.1),.s (.q (amX x.1 x.2).2.2)]
theorem arK:Has Tryz.prog 197 arn:=by
 refine Has.lib ⟨_,Tryz.func197,by rfl,by decide⟩ (λx=>⟨rfl,rfl⟩) λ(x:ByteArray×ByteArray) (hp:x.1.size≤1000000) W T β vs hT hN c6=>?_
 obtain⟨s,sep⟩:=x
 obtain⟨v,u,rfl⟩:∃v u,vs=[v,u]:=by
  match vs,c6 with
  |[v,u],_=>exact⟨v,u,rfl⟩
  |[],h=>exact h.elim
  |[_],h=>exact h.2.elim
  |_::_::_::_,h=>exact h.2.2.elim
 have hv:v= .string s:=c6.1
 have hu:u= .string sep:=c6.2.1
 subst hv;subst hu
 obtain⟨cs,e,fr,h1,m,rfl⟩:=PM hT hN (g:=1) (p:=λcs=>∃n,cs= #[.int .i64 n]) (by unfold zU;simp)
 have hm:W.cell? ⟨1,0,none⟩=some (.int .i64 m):=by rw [rr h1];rfl
 have hp1:s.size≤1000000:=hp
 have hs:s.size<4294967281:=by omega
 refine (Tryz.strings_Cut s sep m W hs hm).mono ?_
 rintro e w' ⟨rfl,n,rfl⟩
 refine⟨_,ζ,⟨ζ,ζ,ζ,ZB5 _,λ_ _=>rfl⟩,?_⟩
 exact⟨_,rfl,rfl,rfl,rfl,trivial⟩
theorem arT (s:ByteArray) (asr:s.size≤1000000) (w:World):Calls Tryz.prog 219 #[.string s] w λe w'=>e= .returned (.string s)∧Below w.heap.size w w':=by
 by_cases h0:s.size=0
 ·have hs:s=⟨#[]⟩:=ByteArray.ext (Array.eq_empty_of_size_eq_zero h0)
  subst hs
  go_enter Tryz.func219,Tryz.ntmps219
  go_wp2
  go_ret
  exact⟨rfl,Below.refl _ _⟩
 ·obtain⟨M,hM⟩:∃M,M=madeCells #[Value.int .u8 0] s.size:=⟨_,rfl⟩
  have hMs:M.size=s.size:=by rw [hM];exact size_madeCells _ _
  have hmk:∀W:World,(Instr.makeSlice 22 (.int .i64 (s.size:Int)) (.int .i64 (s.size:Int))).run Tryz.prog W= .ok (.slice (some ⟨W.heap.size,0,none⟩) s.size s.size) (W.alloc (.cells M 5)):=λW=>by
   rw [hM]
   exact run_make_row' (P:=Tryz.prog) 22 5 (.int .u8 0) 1 (by kernel_rfl) (by kernel_rfl) rfl .i64 .i64 s.size (by omega) (by omega) W
  clear hM
  have hcp:=Lib.run_copy_row_string (P:=Tryz.prog) (w.alloc (.cells M 5)) 22 9 3 5 w.heap.size 0 s.size s.size s M 5 (by kernel_rfl) (by kernel_rfl) (heap_alloc_new w _) (ZB5 _) (by omega)
  obtain⟨Y,hY⟩:∃Y,Y=(M.toList.take 0++Lib.byteCells s.data.toList++M.toList.drop (0+s.size)).toArray:=⟨_,rfl⟩
  rw [←hY] at hcp
  have hYl:Y.toList=Lib.byteCells s.data.toList:=by
   rw [hY,List.toList_toArray,List.take_zero,ZD0,List.drop_of_length_le (by rw [ZE4];omega),ZE5]
  have hYs:Y.size=s.size:=by rw [←ZE4,hYl,Lib.byteCells_length,←Lib.size_eq]
  have hgY:((w.alloc (.cells M 5)).setRow w.heap.size Y).heap[w.heap.size]?=some (.cells Y 5 (0,0)):=setRow_heap _ _ M _ 5 (0,0) (heap_alloc_new w _)
  have fA:s.data.toList≠[]:=λe=>h0 (by rw [Lib.size_eq,e];rfl)
  have hUS:=Lib.run_unsafeString_row (P:=Tryz.prog) ((w.alloc (.cells M 5)).setRow w.heap.size Y) 184 3 9 5 (by kernel_rfl) (by kernel_rfl) w.heap.size Y.size (by unfold World.shape?;rw [hgY]) s.data.toList fA (by rw [←Lib.size_eq];omega) (by rw [←Lib.size_eq];omega)
   (λj x hx=>Lib.cells_of_row hgY Y.size j _ (by rw [ZD1 (by rw [ZE4];exact ZB5 _),hYl];simp [Lib.byteCells,hx]))
  rw [←Lib.size_eq] at hUS
  clear hY
  go_enter Tryz.func219,Tryz.ntmps219
  go_wp2
  go_ret
  have hb1:Below w.heap.size w (w.alloc (.cells M 5)):=(Below.refl _ w).alloc (ZB5 _) _
  have hb2:Below w.heap.size (w.alloc (.cells M 5)) ((w.alloc (.cells M 5)).setRow w.heap.size Y):=⟨rfl,rfl,rfl,by simp,λk hk=>setRow_other _ _ _ _ (by omega)⟩
  exact⟨rfl,Lib.below_freeze (hb1.trans hb2) (p:=⟨w.heap.size,0,none⟩) (ZB5 _) _⟩
def api:cn:=X3 [.s .str] (λs=>s.size≤1000000) λs=>.s (.str s)
theorem aql:Has Tryz.prog 198 api:=by
 refine Has.lib ⟨_,Tryz.func198,by rfl,by decide⟩ (λx=>⟨rfl,rfl⟩) λ(s:ByteArray) (hp:s.size≤1000000) W T β vs hT hN c6=>?_
 obtain⟨v,rfl⟩:∃v,vs=[v]:=by
  match vs,c6 with
  |[v],_=>exact⟨v,rfl⟩
  |[],h=>exact h.elim
  |_::_::_,h=>exact h.2.elim
 have hv:v= .string s:=c6.1
 subst hv
 have h:Calls Tryz.prog 198 #[.string s] W λe w'=>e= .returned (.string s)∧Below W.heap.size W w':=by
  go_enter Tryz.func198,Tryz.ntmps198
  go_wp2_with (go_at_call 219;refine (arT s hp _).mono ?_)
  rintro e w' ⟨rfl,hB⟩
  go_wp2
  go_ret
  exact⟨rfl,hB⟩
 refine h.mono ?_
 rintro e w' ⟨rfl,hB⟩
 exact⟨_,rfl,hB,rfl⟩
end GL
namespace GL
theorem arj (c:UInt8):∀(p t:List UInt8),c∉p→Lib.indexByte (p++c::t) c=p.length
 |[],t,_=>by simp [Lib.indexByte]
 |b::p,t,h=>by
  have hb:b≠c:=λe=>h (e ▸ List.mem_cons_self)
  have ih:=arj c p t (λhm=>h (List.mem_cons_of_mem _ hm))
  show (if b==c then 0 else if Lib.indexByte (p++c::t) c== -1 then -1 else Lib.indexByte (p++c::t) c+1)=_
  rw [ih,if_neg (by simpa using hb),if_neg (by simp<;>omega)]
  simp
theorem aqP (c:UInt8):∀(l:List UInt8),c∉l→Lib.indexByte l c= -1
 |[],_=>rfl
 |b::l,h=>by
  have hb:b≠c:=λe=>h (e ▸ List.mem_cons_self)
  have ih:=aqP c l (λhm=>h (List.mem_cons_of_mem _ hm))
  show (if b==c then 0 else if Lib.indexByte l c== -1 then -1 else Lib.indexByte l c+1)=_
  rw [ih,if_neg (by simpa using hb)];rfl
theorem aoC {s:ByteArray}{c:UInt8}{p t:List UInt8}(h:lb s=p++c::t) (hn:c∉p):amX s ⟨#[c]⟩=(⟨p.toArray⟩,⟨t.toArray⟩,true):=by
 have hi:Lib.index s.data.toList (⟨#[c]⟩:ByteArray).data.toList=p.length:=by
  show Lib.index (lb s) [c]=_
  rw [Lib.index_one,h,arj c p t hn]
 have hd:s.data.toList=p++c::t:=h
 unfold amX Lib.cut
 rw [hi,if_pos (by omega)]
 show ((⟨(List.take p.length s.data.toList).toArray⟩,⟨(List.drop (p.length+1) s.data.toList).toArray⟩,true):ByteArray×ByteArray×Bool)=_
 rw [hd,List.take_left,show p.length+1=(p++[c]).length by simp,show p++c::t=(p++[c])++t by simp,List.drop_left]
theorem aq7 {s:ByteArray}{c:UInt8}(h:c∉lb s):(amX s ⟨#[c]⟩).2.2=false:=by
 have hi:Lib.index s.data.toList (⟨#[c]⟩:ByteArray).data.toList= -1:=by
  show Lib.index (lb s) [c]=_
  rw [Lib.index_one,aqP c _ h]
 unfold amX Lib.cut
 rw [hi];rfl
theorem apy {s:ByteArray}{c:UInt8}(h:(amX s ⟨#[c]⟩).2.2=true):lb s=lb (amX s ⟨#[c]⟩).1++c::lb (amX s ⟨#[c]⟩).2.1:=by
 by_cases hm:c∈lb s
 ·obtain⟨p,t,e,hn⟩:=List.eq_append_cons_of_mem hm
  rw [aoC e hn];exact e
 ·rw [aq7 hm] at h;cases h
theorem aq6 (s sep:ByteArray):(amX s sep).1.size≤s.size∧(amX s sep).2.1.size≤s.size:=by
 have e2:s.data.toList.length=s.size:=ZE4
 unfold amX Lib.cut
 by_cases h:0≤Lib.index s.data.toList sep.data.toList
 ·rw [if_pos h]
  refine⟨?_,?_⟩
  ·show (List.take _ s.data.toList).length≤s.size
   rw [ZB9];omega
  ·show (List.drop _ s.data.toList).length≤s.size
   rw [ZC8];omega
 ·rw [if_neg h]
  exact⟨ZA8 e2,ZA7 _⟩
theorem ap4 {s:ByteArray}{c:UInt8}(h:(amX s ⟨#[c]⟩).2.2=true):(amX s ⟨#[c]⟩).2.1.size<s.size:=by
 have h1:=congrArg List.length (apy h)
 rw [ZA0,ZA1,←fo,←fo,←fo] at h1
 omega
theorem aoP:∀{l:List ByteArray}{out:ByteArray},out.size+(C8 l).length≤2048→(dB l out).2=true
 |[],_,_=>rfl
 |x::l,out,h=>by
  simp only [C8,ZA0,ZA1,←fo] at h
  have dj:(out++bX x.size++⟨#[58]⟩++x).size=out.size+(bX x.size).size+1+x.size:=by
   simp only [ZB2];rfl
  unfold dB
  rw [decide_eq_false (by omega),cond_false,decide_eq_false (by rw [dj];omega),cond_false]
  exact aoP (by rw [dj];omega)
theorem aq4 {s:ByteArray}{l:List ByteArray}(h:lb s=C8 l) (hs:s.size≤2048) (hl:l.length≤60):cE l=(s,true):=by
 have h60:decide ((l.length:Int)≤60)=true:=decide_eq_true (by omega)
 have hy:(dB l ⟨#[]⟩).2=true:=aoP (by show 0+_≤_;rw [←h,←fo];omega)
 rw [gE h60]
 refine Prod.ext (vx ?_) hy
 rw [(D9 hy).1,h];rfl
theorem apv {s:ByteArray}{l:List ByteArray}(h:lb s=C8 l) (hs:s.size≤2048) (hl:l.length≤60):bq s=(l,true):=by
 have e:=aq4 h hs hl
 have:=I9 (l:=l) (by rw [e])
 rw [e] at this;exact this
theorem apu {s:ByteArray}(h:(bq s).2=true):lb s=C8 (bq s).1∧s.size≤2048∧(bq s).1.length≤60∧∀x∈(bq s).1,x.size≤2048:=by
 cases h48:decide ((s.size:Int)≤2048) with
 |false=>rw [oW h48] at h;cases h
 |true=>
  have hs:s.size≤2048:=by have:=aJ h48;omega
  cases hf:JB (s.size+1) s 0 [] with
  |none=>rw [gF h48 hf] at h;cases h
  |some out=>
   rw [jW h48 hf] at h ⊢
   cases h1: !(cE out).2 with
   |true=>rw [Z7 h1] at h;cases h
   |false=>
    cases h2:decide ((cE out).1≠s) with
    |true=>rw [Z6 h2] at h;cases h
    |false=>
     rw [Z5 h1 h2]
     have e1:(cE out).1=s:=Classical.not_not.1 (aA h2)
     have e2:(cE out).2=true:=by simpa using h1
     cases h60:decide ((out.length:Int)≤60) with
     |false=>rw [tP h60] at e2;cases e2
     |true=>
      rw [gE h60] at e1 e2
      have h3:=D9 e2
      rw [e1] at h3
      exact⟨h3.1,hs,by show out.length≤60;have:=aJ h60;omega,h3.2.1⟩
theorem apt {s:ByteArray}(h:(bq s).2=false):bq s=([],false):=by
 cases h48:decide ((s.size:Int)≤2048) with
 |false=>exact oW h48
 |true=>
  cases hf:JB (s.size+1) s 0 [] with
  |none=>exact gF h48 hf
  |some out=>
   rw [jW h48 hf] at h ⊢
   cases h1: !(cE out).2 with
   |true=>exact Z7 h1
   |false=>
    cases h2:decide ((cE out).1≠s) with
    |true=>exact Z6 h2
    |false=>rw [Z5 h1 h2] at h;cases h
theorem ard (s:ByteArray):0≤(aD s).1:=by
 cases h:(aD s).2 with
 |true=>exact (num_inv (show aD s=((aD s).1,true) by rw [←h])).2.1
 |false=>
  unfold aD at h ⊢
  cases hc:decide ((CN s).2=0)||decide ((CN s).2≠(s.size:Int)) with
  |true=>exact ZC1 _
  |false=>rw [hc] at h;cases h
structure FgS (s:ByteArray) (out:List ByteArray) (rest:ByteArray):Prop where
 sz:s.size≤2048
 len:out.length≤60
 e:lb s=C8 out++lb rest
 all:∀l,lb s=C8 l→l.length≤60→∃r,l=out++r∧lb rest=C8 r
theorem aqo:∀(a b:List ByteArray),C8 (a++b)=C8 a++C8 b
 |[],_=>rfl
 |x::a,b=>by rw [ZG7,C8,C8,aqo a b];simp
theorem FgS.z {s:ByteArray}(h:s.size≤2048):FgS s [] s:=⟨h,ZA7 _,rfl,λl h _=>⟨l,rfl,h⟩⟩
theorem FgS.rest {s rest:ByteArray}{out:List ByteArray}(h:FgS s out rest):rest.size≤2048:=by
 have h1:=congrArg List.length h.e
 rw [ZA0,←fo,←fo] at h1
 have:=h.sz;omega
theorem FgS.y {s rest:ByteArray}{out:List ByteArray}(h:FgS s out rest) (h1:(amX rest ⟨#[58]⟩).2.2=true) (h2:(aD (amX rest ⟨#[58]⟩).1).2=true) (h3:(aD (amX rest ⟨#[58]⟩).1).1≤(amX rest ⟨#[58]⟩).2.1.size) (h4:out.length≠60):
  FgS s (out++[(amX rest ⟨#[58]⟩).2.1.extract 0 (aD (amX rest ⟨#[58]⟩).1).1.toNat]) ((amX rest ⟨#[58]⟩).2.1.extract (aD (amX rest ⟨#[58]⟩).1).1.toNat (amX rest ⟨#[58]⟩).2.1.size):=by
 have hi:=apy h1
 obtain⟨q1,q2,q3⟩:=num_inv (show aD (amX rest ⟨#[58]⟩).1=((aD (amX rest ⟨#[58]⟩).1).1,true) by rw [←h2])
 generalize hn:(aD (amX rest ⟨#[58]⟩).1).1=n at *
 generalize hT:(amX rest ⟨#[58]⟩).2.1=t at *
 have hi:lb rest=lb (bX n)++58::lb t:=by rw [←q1];exact hi
 have xC:List.take t.size (lb t)=lb t:=ZD1 (by rw [fo];exact ZB5 _)
 have dj:(t.extract 0 n.toNat).size=n.toNat:=by rw [ZC5];omega
 have hd:(((t.extract 0 n.toNat).size:Nat):Int)=n:=by rw [dj];omega
 have hsp:lb (t.extract 0 n.toNat)++lb (t.extract n.toNat t.size)=lb t:=by
  rw [mT,mT,ZF0,xC,ZG1]
 refine⟨h.sz,by rw [ZA0];have:=h.len;simp only [ZA1,ZA4];omega,?_,λl hl h60=>?_⟩
 ·rw [h.e,aqo,ZD2]
  congr 1
  show lb rest=(lb (bX _)++58::(lb _++[]))++_
  rw [hd,hi,ZE5,←hsp]
  simp
 ·obtain⟨r,rfl,hr⟩:=h.all l hl h60
  cases r with
  |nil=>rw [hi] at hr;have:=congrArg List.length hr;simp [C8] at this
  |cons x r=>
   have hr:lb rest=lb (bX x.size)++58::(lb x++C8 r):=hr
   have hc:=aoC (s:=rest) (c:=58) hr (po (by decide))
   have hc1:lb (bX n)=lb (bX x.size):=by
    rw [←q1]
    show lb (amX rest ⟨#[58]⟩).1=_
    rw [hc]
   have hxn:n=(x.size:Int):=by
    have hx9:x.size<1000000000:=by
     have h5:=congrArg List.length hr
     simp only [ZA0,ZA1,←fo] at h5
     have:=h.rest;omega
    have a1:=eu (n:=n) q2 (by omega)
    have a2:=eu (n:=(x.size:Int)) (by omega) (by omega)
    rw [vx hc1,a2] at a1
    exact (congrArg Prod.fst a1).symm
   have hc2:lb t=lb x++C8 r:=by
    rw [←hT]
    show lb (amX rest ⟨#[58]⟩).2.1=_
    rw [hc]
   have hxl:n.toNat=(lb x).length:=by rw [←fo];omega
   have hx:t.extract 0 n.toNat=x:=vx (by rw [mT,ZF0,hc2,hxl,List.take_left])
   refine⟨r,by rw [hx];simp,?_⟩
   rw [mT,xC,hc2,hxl,List.drop_left]
theorem FgS.n {s rest:ByteArray}{out:List ByteArray}(h:FgS s out rest) (hr:rest≠⟨#[]⟩) (hb:(amX rest ⟨#[58]⟩).2.2=true→(aD (amX rest ⟨#[58]⟩).1).2=true→(aD (amX rest ⟨#[58]⟩).1).1≤(amX rest ⟨#[58]⟩).2.1.size→out.length≠60→False):bq s=([],false):=by
 cases hy:(bq s).2 with
 |false=>exact apt hy
 |true=>
  obtain⟨h1,_,h3,h4⟩:=apu hy
  generalize (bq s).1=l at *
  obtain⟨r,rfl,hr2⟩:=h.all l h1 h3
  cases r with
  |nil=>exact absurd (vx (hr2.trans rfl)) hr
  |cons x r=>
   have hr2:lb rest=lb (bX x.size)++58::(lb x++C8 r):=hr2
   have hc:=aoC (s:=rest) (c:=58) hr2 (po (by decide))
   have hx:=h4 x (by simp)
   have a2:=eu (n:=(x.size:Int)) (by omega) (by omega)
   have e1:(amX rest ⟨#[58]⟩).1=bX x.size:=vx (by show lb (amX rest ⟨#[58]⟩).1=_;rw [hc])
   have e2:lb (amX rest ⟨#[58]⟩).2.1=lb x++C8 r:=by show lb (amX rest ⟨#[58]⟩).2.1=_;rw [hc]
   refine (hb (by show (amX rest ⟨#[58]⟩).2.2=true;rw [hc]) (by rw [e1,a2]) ?_ ?_).elim
   ·rw [e1,a2]
    have:=congrArg List.length e2
    rw [ZA0,←fo,←fo] at this
    show (x.size:Int)≤_
    omega
   ·rw [ZA0,ZA1] at h3;omega
theorem FgS.f {s rest:ByteArray}{out:List ByteArray}(h:FgS s out rest) (hr:rest=⟨#[]⟩):bq s=(out,true):=by
 subst hr
 exact apv (by rw [h.e,adI,ZE5]) h.sz h.len
end GL
namespace GL
noncomputable section
theorem vwS {x:ByteArray}{l:List ByteArray}{b:Bool}:AV.t [.s (.vw ab (List.take (l.length+1) (x::l))),.s (.q b)]= .t [.s (.vw ab (x::l)),.s (.q b)]:=by rw [show List.take (l.length+1) (x::l)=x::l from ZD1 (ZB5 _)]
def am1 (s:ByteArray):Prop:=s.size≤1000000
def amW (s:ByteArray):AV:=.t [.s (.vw ab (bq s).1),.s (.q (bq s).2)]
def apn (s:ByteArray):List AV:=[]
def am6:cn where
 A:=[.s .str]
 B:=[]
 pre:=λx b=>am1 x
 r:=λx b _=>amW x
 o:=λx b _=>apn x
theorem aov:Has Tryz.prog 163 am6:=by
 refine Has.al9 zT zF zF (l:=[(197,arn),(164,iT),(198,api)]) ⟨arK,MG,aql,aa⟩ Tryz.func163 ?_
 rintro (s:ByteArray) _ (hp:am1 s)
 show vc _ _ _ _ (entry [.str s] []) _
 unfold am1 at hp
 refine⟨λw1=>?_,λw2=>?_⟩
 all_goals first|refine aw ?_|refine ax ?_|exact a8|(dsimp only [iT,gw];omega)|exact a7|skip
 ·have e:bq s=([],false):=oW (decide_eq_false (by have:=aJ w1;omega))
  refine⟨[],[],_,_,_,ζ,cf,(),0,trivial,by show Wk (amW s) _;unfold amW;rw [e];exact Wk.tup ⟨Wk.nil _,Wk.refl _,trivial⟩,ζ,ζ⟩
 ·have hs:s.size≤2048:=by have:=aA (p:=(s.size:Int)>2048) w2;omega
  refine lW (l:=[(197,arn),(164,iT),(198,api)]) (ex:=zT) (wr:=zF) (pt:=zF) ⟨arK,MG,aql,aa⟩ [.s 0] (λy:List ByteArray×ByteArray=>match y.1 with |[]=>[(.s 4,.s (.v (.slice none 0 0))),(.s 5,.str y.2)] |x::l=>[(.s 4,.s (.xs 1007 1 0 (l.length+1))),(.s 5,.str y.2),(.b 1007,.rs ab (x::l))]) (λy=>FgS s y.1 y.2) (λy=>y.2.size) ([],s) [] (FgS.z hs) dM ?_
  rintro⟨out,rest⟩ (hF:FgS s out rest)
  have hrs:=hF.rest
  have hlen:=hF.len
  have hct:=aq6 rest ⟨#[58]⟩
  have hnb:0≤(aD (amX rest ⟨#[58]⟩).1).1:=ard _
  cases out with
  |nil=>
   refine⟨λw1=>⟨⟨tv3,?_⟩,λx2 w3=>⟨⟨tv2,?_⟩,λx4 w5=>⟨aa,λw6=>?_,λw7=>⟨aa,λw8=>?_,λw9=>⟨aa,λdy=>?_,λkA=>⟨λdJ=>?_,λiU=>⟨⟨?_,?_,?_⟩,⟨tv2,?_⟩,λx14 qK=>⟨aa,⟨⟨?_,?_⟩,?_,?_⟩,⟨?_,?_,?_⟩,?_⟩⟩⟩⟩⟩⟩⟩⟩,λkg=>?_⟩
   all_goals first|refine aw ?_|refine ax ?_|exact a8|(dsimp only [iT,gw];omega)|exact a7|(show rest.size≤1000000;omega)|(show (amX rest ⟨#[58]⟩).1.size≤1000000;omega)|exact hnb|skip
   ·have e:=hF.n (aJ w1) (λa _ _ _=>absurd ((xm w6).symm.trans a) Bool.noConfusion)
    refine⟨[],[],_,_,_,ζ,cf,(),0,trivial,by show Wk (amW s) _;unfold amW;rw [e];exact Wk.tup ⟨Wk.nil _,Wk.refl _,trivial⟩,ζ,ζ⟩
   ·have e:=hF.n (aJ w1) (λ_ a _ _=>absurd ((xm w8).symm.trans a) Bool.noConfusion)
    refine⟨[],[],_,_,_,ζ,cf,(),0,trivial,by show Wk (amW s) _;unfold amW;rw [e];exact Wk.tup ⟨Wk.nil _,Wk.refl _,trivial⟩,ζ,ζ⟩
   ·have e:=hF.n (aJ w1) (λ_ _ a _=>by have h:=aJ dy;exact absurd h (ZH1.2 a))
    refine⟨[],[],_,_,_,ζ,cf,(),0,trivial,by show Wk (amW s) _;unfold amW;rw [e];exact Wk.tup ⟨Wk.nil _,Wk.refl _,trivial⟩,ζ,ζ⟩
   ·have e:=hF.n (aJ w1) (λ_ _ _ a=>absurd dJ (by decide))
    refine⟨[],[],_,_,_,ζ,cf,(),0,trivial,by show Wk (amW s) _;unfold amW;rw [e];exact Wk.tup ⟨Wk.nil _,Wk.refl _,trivial⟩,ζ,ζ⟩
   ·show ((amX rest ⟨#[58]⟩).2.1.extract 0 (aD (amX rest ⟨#[58]⟩).1).1.toNat).size≤1000000
    rw [ZC5];omega
   ·refine⟨([(amX rest ⟨#[58]⟩).2.1.extract 0 (aD (amX rest ⟨#[58]⟩).1).1.toNat],(amX rest ⟨#[58]⟩).2.1.extract (aD (amX rest ⟨#[58]⟩).1).1.toNat (amX rest ⟨#[58]⟩).2.1.size),[(1007,1051)],?_,?_,?_⟩
    rotate_right
    ·exact bV
    ·exact hF.y (cL w7) (cL w9) (ZH1.1 (aA kA)) (by decide)
    ·have h1:(amX rest ⟨#[58]⟩).2.1.size<rest.size:=ap4 (cL w7)
     show ((amX rest ⟨#[58]⟩).2.1.extract (aD (amX rest ⟨#[58]⟩).1).1.toNat (amX rest ⟨#[58]⟩).2.1.size).size<rest.size
     rw [ZC5];omega
   ·have e:=hF.f (Classical.not_not.1 (aA kg))
    refine⟨[],[],_,_,_,ζ,cf,(),0,trivial,by show Wk (amW s) _;unfold amW;rw [e];exact Wk.tup ⟨Wk.nil _,Wk.refl _,trivial⟩,ζ,ζ⟩
  |cons z l=>
   refine⟨λw1=>⟨⟨tv3,?_⟩,λx2 w3=>⟨⟨tv2,?_⟩,λx4 w5=>⟨aa,λw6=>?_,λw7=>⟨aa,λw8=>?_,λw9=>⟨aa,λdy=>?_,λkA=>⟨λdJ=>?_,λiU=>⟨⟨?_,?_,?_⟩,⟨tv2,?_⟩,λx14 qK=>⟨aa,⟨⟨?_,?_⟩,?_,?_⟩,⟨?_,?_,?_⟩,?_⟩⟩⟩⟩⟩⟩⟩⟩,λkg=>?_⟩
   all_goals first|refine aw ?_|refine ax ?_|exact a8|(dsimp only [iT,gw];omega)|exact a7|(show rest.size≤1000000;omega)|(show (amX rest ⟨#[58]⟩).1.size≤1000000;omega)|exact hnb|skip
   ·have e:=hF.n (aJ w1) (λa _ _ _=>absurd ((xm w6).symm.trans a) Bool.noConfusion)
    refine⟨[],[],_,_,_,ζ,cf,(),0,trivial,by show Wk (amW s) _;unfold amW;rw [e];exact Wk.tup ⟨Wk.nil _,Wk.refl _,trivial⟩,ζ,ζ⟩
   ·have e:=hF.n (aJ w1) (λ_ a _ _=>absurd ((xm w8).symm.trans a) Bool.noConfusion)
    refine⟨[],[],_,_,_,ζ,cf,(),0,trivial,by show Wk (amW s) _;unfold amW;rw [e];exact Wk.tup ⟨Wk.nil _,Wk.refl _,trivial⟩,ζ,ζ⟩
   ·have e:=hF.n (aJ w1) (λ_ _ a _=>by have h:=aJ dy;exact absurd h (ZH1.2 a))
    refine⟨[],[],_,_,_,ζ,cf,(),0,trivial,by show Wk (amW s) _;unfold amW;rw [e];exact Wk.tup ⟨Wk.nil _,Wk.refl _,trivial⟩,ζ,ζ⟩
   ·have e:=hF.n (aJ w1) (λ_ _ _ a=>a (by have h:=aJ dJ;show l.length+1=60;omega))
    refine⟨[],[],_,_,_,ζ,cf,(),0,trivial,by show Wk (amW s) _;unfold amW;rw [e];exact Wk.tup ⟨Wk.nil _,Wk.refl _,trivial⟩,ζ,ζ⟩
   ·show ((amX rest ⟨#[58]⟩).2.1.extract 0 (aD (amX rest ⟨#[58]⟩).1).1.toNat).size≤1000000
    rw [ZC5];omega
   ·refine⟨(z::(l++[(amX rest ⟨#[58]⟩).2.1.extract 0 (aD (amX rest ⟨#[58]⟩).1).1.toNat]),(amX rest ⟨#[58]⟩).2.1.extract (aD (amX rest ⟨#[58]⟩).1).1.toNat (amX rest ⟨#[58]⟩).2.1.size),[(1007,1051)],?_,?_,?_⟩
    rotate_right
    ·exact bV
    ·exact hF.y (cL w7) (cL w9) (ZH1.1 (aA kA)) (λh=>aA iU (by show ((l.length+1:Nat):Int)=60;have h:l.length+1=60:=h;omega))
    ·have h1:(amX rest ⟨#[58]⟩).2.1.size<rest.size:=ap4 (cL w7)
     show ((amX rest ⟨#[58]⟩).2.1.extract (aD (amX rest ⟨#[58]⟩).1).1.toNat (amX rest ⟨#[58]⟩).2.1.size).size<rest.size
     rw [ZC5];omega
   ·have e:=hF.f (Classical.not_not.1 (aA kg))
    refine⟨[],[],_,_,_,ζ,cf,(),0,trivial,by show Wk (amW s) _;unfold amW;rw [e];exact Wk.of_eq vwS.symm,ζ,ζ⟩
def am9 (f:List ByteArray):Prop:=f.length=3∧∀k,(nth ab f k).size≤1000000
def am8 (f:List ByteArray):AV:=.t [trA ((bP (nth ab f 0)).1.1,(bP (nth ab f 0)).1.2.1,(bP (nth ab f 0)).1.2.2.1,(bP (nth ab f 0)).1.2.2.2.1,(bP (nth ab f 0)).1.2.2.2.2,(aD (nth ab f 1)).1,(aD (nth ab f 2)).1),.s (.q ((bP (nth ab f 0)).2&&(aD (nth ab f 1)).2&&(aD (nth ab f 2)).2))]
def aqx (f:List ByteArray):List AV:=[]
def anb:cn where
 A:=[.s (.vw ab)]
 B:=[]
 pre:=λx b=>am9 x
 r:=λx b _=>am8 x
 o:=λx b _=>aqx x
theorem apA:Has Tryz.prog 165 anb:=by
 refine Has.zB zT zF zF (l:=[(193,pq),(164,iT)]) ⟨MF,MG,aa⟩ Tryz.func165 ?_
 rintro (f:List ByteArray) _ (hp:am9 f)
 show vc _ _ _ _ (entry [.s (.vw ab f)] []) _
 obtain⟨h3,dj⟩:=hp
 refine⟨⟨?_,?_⟩,⟨tv2,?_⟩,λx1 w2=>⟨⟨?_,?_⟩,⟨tv2,?_⟩,λx3 w4=>⟨⟨?_,?_⟩,⟨tv2,?_⟩,λx5 w6=>⟨aa,λw7=>⟨aa,λw8=>?_,λw9=>?_⟩,λdy=>?_⟩⟩⟩⟩
 all_goals first|refine aw ?_|refine ax ?_|exact a8|(dsimp only [pq,ld,iT,gw];omega)|exact a7|exact dj _|skip
 ·have e:((bP (nth ab f 0)).2&&(aD (nth ab f 1)).2&&(aD (nth ab f 2)).2)=(aD (nth ab f 2)).2:=by rw [show (bP (nth ab f 0)).2=true from w7,show (aD (nth ab f 1)).2=true from w8];rfl
  refine⟨[],[],_,_,_,ζ,az,(),aa,?_,?_,ζ⟩
  ·(show _=am8 f);unfold am8;first|(rw [e];rfl)|rfl
  ·rfl
 ·have e:((bP (nth ab f 0)).2&&(aD (nth ab f 1)).2&&(aD (nth ab f 2)).2)=false:=by rw [show (aD (nth ab f 1)).2=false from w9,ZD7];rfl
  refine⟨[],[],_,_,_,ζ,az,(),aa,?_,?_,ζ⟩
  ·(show _=am8 f);unfold am8;first|(rw [e];rfl)|rfl
  ·rfl
 ·have e:((bP (nth ab f 0)).2&&(aD (nth ab f 1)).2&&(aD (nth ab f 2)).2)=false:=by rw [show (bP (nth ab f 0)).2=false from dy];rfl
  refine⟨[],[],_,_,_,ζ,az,(),aa,?_,?_,ζ⟩
  ·(show _=am8 f);unfold am8;first|(rw [e];rfl)|rfl
  ·rfl
