/- A drawn law returns true for every code (its row lists package variables, tied by the card): part 34. -/
import Derived.Test.YtnkbdhldiinfdaaGreatDoorPav
import Derived.Test.YtnkbdhldiinfdaaGreatDoorPbg
set_option maxHeartbeats 20000000
set_option maxRecDepth 100000
set_option linter.all false
namespace Go.Proofs.YtnkbdhldiinfdaaGreatDoor
namespace GL
structure Hur (s:ay):Prop where
 wg:s.wg 20000
 cg:0≤s.cg
 rf:∀k,(0:Int)≤nth ag s.refs k∧nth ag s.refs k≤(1000000:Int)
def nL (r:List Int×Int) (S:ay):Prop:=Rdr r 970000∧Hur S
def RR (r:List Int×Int) (S:ay) (z:ay×Nat×Int):Prop:=(z.1.gone.length≤20001∧z.1.dead.length≤20001)∧(r.2≤z.2.2∧z.2.2≤r.2+1100)∧z.2.1≤z.1.rows.length
def dY (r:List Int×Int) (S:ay) (z:ay×Nat×Int):AV:=.a [.xs 1 1 z.2.1 (z.1.rows.length-z.2.1),.xs 2 1 0 z.1.refs.length,.xs 3 1 0 z.1.last.length,.int z.1.cg,.xs 4 5 0 z.1.gone.length,.int z.1.bZ,.xs 5 5 0 z.1.dead.length,.q z.1.same]
def VX (r:List Int×Int) (S:ay) (z:ay×Nat×Int):List AV:=[.a [.vw mf r.1,.int z.2.2],.rs ab z.1.rows,.rs ag z.1.refs,.rs ag z.1.last,.rs ae z.1.gone,.rs ae z.1.dead]
def na:cn where
 A:=[.b 0,.a xv]
 B:=[.a [.vw mf,.int]]
 pre:=fun x b=>nL b (x.2)
 α:=fun _ _=>ay×Nat×Int
 φ:=fun x b z=>RR b (x.2) z
 r:=fun x b z=>dY b (x.2) z
 o:=fun x b z=>VX b (x.2) z
 nf:=5
theorem CO:Has Tryz.prog 64 na:=by
 refine Has.fm zT zF zF (l:=[(99,jD),(58,ba),(61,cS),(97,jC)]) ⟨IH,dh,pc,IF,aa⟩ Tryz.func64 ?_
 rintro⟨_,⟨(aj:List ByteArray),(ak:List Int),(an:List Int),(ao:Int),(ah:List Pt),(aq:Int),(ai:List Pt),(ar:Bool)⟩⟩ ⟨(rb:List Int),(rp:Int)⟩ (hp:nL (rb,rp) (aj,ak,an,ao,ah,aq,ai,ar))
 show vc _ _ _ _ (entry [.s (.bp 0 0),.a [.vz ab aj,.vz ag ak,.vz ag an,.int ao,.vz ae ah,.int aq,.vz ae ai,.q ar]] [.a [.vw mf rb,.int rp]]) _
 let g':=(aj,ak,an,ao,ah,aq,ai,ar)
 obtain⟨hr,hH⟩:=hp
 have ll:=hH.wg
 have akQ:0≤ao:=hH.cg
 have hrf:=hH.rf
 have hr1:∀k,(-9223372036854775808:Int)≤nth ag ak k+1:=fun k=>ZE0 (by decide) (Int.add_le_add_right (hrf k).1 1)
 have hr2:∀k,(nth ag ak k+1:Int)≤(9223372036854775807:Int):=fun k=>ZE0 (Int.add_le_add_right (hrf k).2 1) (by decide)
 have hr:Rdr (rb,rp) 970000:=hr
 have ll:ay.wg g' 20000:=ll
 have hp0:0≤rp:=hr.p0
 have hp1:rp≤970000:=hr.p1
 have hl:aj.length=64∧ak.length=64∧an.length=64:=ll.wf.n
 have hg:ah.length≤20000:=ll.g
 have htx:ao≤21000:=ll.t
 have hd:ai.length≤20000:=ll.d
 refine⟨⟨⟨tv9,aa⟩,?_,?_,?_,?_,?_⟩,fun x1 w2=>⟨⟨tv3,?_,?_⟩,fun x3 w4=>⟨⟨?_,?_⟩,⟨tv3,?_,?_⟩,fun x5 w6=>⟨fun w7=>⟨aa,⟨tv3,?_,?_⟩,fun x8 w9=>⟨⟨?_,?_⟩,?_,?_⟩⟩,fun dy=>⟨fun kA=>⟨Sq3,Sq26,rfl,[.s 26,.b 1003],Sq27,rfl,Sq3,Sq28,rfl,[.s 28,.b 1003],Sq29,rfl,Sq29,Sq30,rfl,⟨?_,?_⟩,[.s 27,.s 30,.b 1031],[.s 31,.b 1031],rfl,aa,Sq0,Sq32,rfl,[.s 32,.b 0],[.s 33,.b 0],rfl,⟨tv3,?_,?_⟩,?_,fun x12 iU=>⟨[.s 31,.s 33],Sq34,rfl,⟨?_,?_⟩,[.s 34,.b 1031],Sq35,rfl,?_,Sq3,Sq36,rfl,[.s 36,.s 35,.b 1003],[.b 1003],rfl,?_⟩⟩,fun gO=>⟨fun qK=>⟨Sq3,Sq39,rfl,[.s 39,.b 1003],Sq40,rfl,Sq5,Sq41,rfl,Sq0,Sq42,rfl,[.s 42,.b 0],[.s 43,.b 0],rfl,⟨tv3,?_,?_,?_⟩,?_,fun x16 xh=>⟨[.s 40,.s 41],Sq44,rfl,⟨?_,?_⟩,[.s 44,.s 43,.b 80000],[.b 80000],rfl,?_,?_⟩⟩,fun rS=>⟨fun oL=>⟨Sq3,Sq47,rfl,Sq47,Sq48,rfl,[.s 48,.b 1003],Sq49,rfl,Sq5,Sq50,rfl,Sq3,Sq51,rfl,Sq51,Sq52,rfl,[.s 52,.b 1003],Sq53,rfl,Sq5,Sq54,rfl,[.s 53,.s 54],Sq55,rfl,⟨?_,?_⟩,[.s 55,.b 80001],Sq56,rfl,?_,Sq56,Sq57,rfl,⟨?_,?_⟩,[.s 49,.s 50],Sq58,rfl,⟨?_,?_⟩,[.s 58,.s 57,.b 80001],[.b 80001],rfl,?_,?_⟩,fun uI=>⟨fun A4=>⟨Sq3,Sq61,rfl,[.s 61,.b 1003],Sq62,rfl,Sq0,Sq63,rfl,[.s 63,.b 0],[.s 64,.b 0],rfl,⟨tv2,?_⟩,?_,fun x22 xK=>⟨[.s 64,.b 1065],[.s 65,.b 1065],rfl,aa,[.s 62,.s 65,.b 80003,.b 1065,.b 1066],[.s 66,.b 1066,.b 80003],rfl,⟨⟨?_,?_⟩,?_,?_⟩,Sq3,Sq67,rfl,[.s 67,.s 66,.b 1003],[.b 1003],rfl,?_⟩⟩,fun rR=>⟨fun w25=>⟨Sq3,Sq70,rfl,[.s 70,.b 1003],Sq71,rfl,Sq0,Sq72,rfl,[.s 72,.b 0],[.s 73,.b 0],rfl,⟨tv2,?_⟩,?_,fun x26 w27=>⟨[.s 73,.b 1074],[.s 74,.b 1074],rfl,aa,[.s 71,.s 74,.b 80004,.b 1074,.b 1075],[.s 75,.b 1075,.b 80004],rfl,⟨⟨?_,?_⟩,?_,?_⟩,Sq3,Sq76,rfl,[.s 76,.s 75,.b 1003],[.b 1003],rfl,?_⟩⟩,fun w28=>⟨fun w29=>⟨⟨?_,?_,?_⟩,?_⟩,fun w30=>⟨fun w31=>⟨⟨?_,?_⟩,⟨?_,?_⟩,?_,?_⟩,fun w32=>⟨⟨?_,?_⟩,?_,?_⟩⟩⟩⟩⟩⟩⟩⟩⟩⟩⟩⟩
 all_goals first|refine aw ?_|refine ax ?_|exact a8|(dsimp only [jD,pX,ba,ck,cS,ie,jC,pV];omega)|exact a7|exact hr1 _|exact hr2 _|exact hr.at hp0 (by omega)|(refine hr.at ?_ ?_<;>(dsimp only [jD,ba,dO,cS,fg,jC,qh,dC,ay.rows,ay.refs,ay.last,ay.gone,ay.dead,ay.cg] at * <;>omega))|(show aj.length≤1000000;omega)|(show ak.length≤1000000;omega)|(show an.length≤1000000;omega)|(show ah.length≤1000000;omega)|(show ai.length≤1000000;omega)|(show (8+x3.1).toNat<aj.length;have h:=pk (n:=6) (by decide) w4;omega)|(show (8+x3.1).toNat<ak.length;have h:=pk (n:=6) (by decide) w4;omega)|(show (8+x3.1).toNat<an.length;have h:=pk (n:=6) (by decide) w4;omega)|(show 8+x3.1<(aj.length:Int);have h:=pk (n:=6) (by decide) w4;omega)|(show 8+x3.1<(ak.length:Int);have h:=pk (n:=6) (by decide) w4;omega)|(show 8+x3.1<(an.length:Int);have h:=pk (n:=6) (by decide) w4;omega)|(show 0≤8+x3.1;have h:=pk (n:=6) (by decide) w4;omega)|(simp only [gK];have h:=pk (n:=6) (by decide) w4;omega)|(simp only [imax];have h:=pk (n:=6) (by decide) w4;omega)|(show gK≤ao-1;simp only [gK];omega)|(show ao-1≤imax;simp only [imax];omega)|(show gK≤ao+1;simp only [gK];omega)|(show ao+1≤imax;simp only [imax];omega)|(show 2<aj.length;omega)|(show (2:Int)<(aj.length:Int);omega)|(show (1:Int)≤(aj.length:Int);omega)|(show ah.length+1≤1048576;omega)|(show ai.length+1≤1048576;omega)|(show _<((List.length _:Nat):Int);dsimp only [jD,ba,dO,cS,fg,jC,qh,dC,ay.rows,ay.refs,ay.last,ay.gone,ay.dead,ay.cg,List.length_cons,List.length_nil] at *;omega)|(show Int.toNat _<_;dsimp only [jD,ba,dO,cS,fg,jC,qh,dC,ay.rows,ay.refs,ay.last,ay.gone,ay.dead,ay.cg,List.length_cons,List.length_nil] at *;omega)|(dsimp only [jD,ba,dO,cS,fg,jC,qh,dC,ay.rows,ay.refs,ay.last,ay.gone,ay.dead,ay.cg] at *;omega)|exact⟨(0,_),.inl rfl,rfl⟩|exact⟨(⟨#[]⟩,x5.2),(by show ((0:Nat):Int)≤9;decide),ZC1 _,(by show x5.2≤x5.2+1000;omega)⟩|exact⟨((0,0,0,0,0),x5.2),ZC1 _,(by show x5.2≤x5.2+1010;omega)⟩|skip
 ·refine⟨[80000,80001,80002,80003,80004],[],_,_,_,rfl,cf,((aj,ak,an,(nth ag [0,900,901] x8.1.toNat:Int),ah,aq,ai,ar),0,x8.2),⟨⟨(by show List.length ah≤20001;omega),(by show List.length ai≤20001;omega)⟩,⟨(by have e3:x3.2=rp+1:=w4.2;have e5:x5.2=x3.2+1:=w6.2;have e8:x8.2=x5.2+1:=w9.2;show rp≤x8.2;omega),(by have e3:x3.2=rp+1:=w4.2;have e5:x5.2=x3.2+1:=w6.2;have e8:x8.2=x5.2+1:=w9.2;show x8.2≤rp+1100;omega)⟩,ZA7 _⟩,rfl,rfl,rfl⟩
 ·refine⟨[80000,80001,80002,80003,80004],[],_,_,_,rfl,cf,((aj,ak,an,ao,ah,(nth ag [-1,ao,ao-1] x12.1.toNat:Int),ai,ar),0,x12.2),⟨⟨(by show List.length ah≤20001;omega),(by show List.length ai≤20001;omega)⟩,⟨(by have e3:x3.2=rp+1:=w4.2;have e5:x5.2=x3.2+1:=w6.2;have e8:x12.2=x5.2+1:=iU.2;show rp≤x12.2;omega),(by have e3:x3.2=rp+1:=w4.2;have e5:x5.2=x3.2+1:=w6.2;have e8:x12.2=x5.2+1:=iU.2;show x12.2≤rp+1100;omega)⟩,ZA7 _⟩,rfl,rfl,rfl⟩
 ·refine⟨[80000,80001,80002,80003,80004],[],_,_,_,rfl,cf,((aj.set (8+x3.1).toNat x16.1,ak,an,ao,ah,aq,ai,ar),0,x16.2),⟨⟨(by show List.length ah≤20001;omega),(by show List.length ai≤20001;omega)⟩,⟨(by have e3:x3.2=rp+1:=w4.2;have e5:x5.2=x3.2+1:=w6.2;have e8:x5.2≤x16.2∧x16.2≤x5.2+1000:=xh.2;show rp≤x16.2;omega),(by have e3:x3.2=rp+1:=w4.2;have e5:x5.2=x3.2+1:=w6.2;have e8:x5.2≤x16.2∧x16.2≤x5.2+1000:=xh.2;show x16.2≤rp+1100;omega)⟩,ZA7 _⟩,(by show _=dY (rb,rp) g' _;unfold dY;dsimp only [ay.rows,ay.refs,ay.last,ay.gone,ay.dead];simp only [ZC3,ZA0];rfl),rfl,rfl⟩
 ·refine⟨[80000,80001,80002,80003,80004],[],_,_,_,rfl,cf,((aj,ak.set (8+x3.1).toNat (nth ag ak (8+x3.1).toNat+1:Int),an,ao,ah,aq,ai,ar),0,x5.2),⟨⟨(by show List.length ah≤20001;omega),(by show List.length ai≤20001;omega)⟩,⟨(by have e3:x3.2=rp+1:=w4.2;have e5:x5.2=x3.2+1:=w6.2;show rp≤x5.2;omega),(by have e3:x3.2=rp+1:=w4.2;have e5:x5.2=x3.2+1:=w6.2;show x5.2≤rp+1100;omega)⟩,ZA7 _⟩,(by show _=dY (rb,rp) g' _;unfold dY;dsimp only [ay.rows,ay.refs,ay.last,ay.gone,ay.dead];simp only [ZC3,ZA0];rfl),rfl,rfl⟩
 ·refine⟨[80000,80001,80002,1066,80004],[],_,_,_,rfl,cf,((aj,ak,an,ao,ah++[x22.1],aq,ai,ar),0,x22.2),⟨⟨(by show List.length (ah++[x22.1])≤20001;rw [ZA0];show ah.length+1≤20001;omega),(by show List.length ai≤20001;omega)⟩,⟨(by have e3:x3.2=rp+1:=w4.2;have e5:x5.2=x3.2+1:=w6.2;have e8:x5.2≤x22.2∧x22.2≤x5.2+1010:=xK;show rp≤x22.2;omega),(by have e3:x3.2=rp+1:=w4.2;have e5:x5.2=x3.2+1:=w6.2;have e8:x5.2≤x22.2∧x22.2≤x5.2+1010:=xK;show x22.2≤rp+1100;omega)⟩,ZA7 _⟩,(by show _=dY (rb,rp) g' _;unfold dY;dsimp only [ay.rows,ay.refs,ay.last,ay.gone,ay.dead];simp only [ZC3,ZA0];rfl),rfl,rfl⟩
 ·refine⟨[80000,80001,80002,80003,1075],[],_,_,_,rfl,cf,((aj,ak,an,ao,ah,aq,ai++[x26.1],ar),0,x26.2),⟨⟨(by show List.length ah≤20001;omega),(by show List.length (ai++[x26.1])≤20001;rw [ZA0];show ai.length+1≤20001;omega)⟩,⟨(by have e3:x3.2=rp+1:=w4.2;have e5:x5.2=x3.2+1:=w6.2;have e8:x5.2≤x26.2∧x26.2≤x5.2+1010:=w27;show rp≤x26.2;omega),(by have e3:x3.2=rp+1:=w4.2;have e5:x5.2=x3.2+1:=w6.2;have e8:x5.2≤x26.2∧x26.2≤x5.2+1010:=w27;show x26.2≤rp+1100;omega)⟩,ZA7 _⟩,(by show _=dY (rb,rp) g' _;unfold dY;dsimp only [ay.rows,ay.refs,ay.last,ay.gone,ay.dead];simp only [ZC3,ZA0];rfl),rfl,rfl⟩
 ·refine⟨[80000,80001,80002,80003,80004],[],_,_,_,rfl,cf,(g',1,x5.2),⟨⟨(by show List.length ah≤20001;omega),(by show List.length ai≤20001;omega)⟩,⟨(by have e3:x3.2=rp+1:=w4.2;have e5:x5.2=x3.2+1:=w6.2;show rp≤x5.2;omega),(by have e3:x3.2=rp+1:=w4.2;have e5:x5.2=x3.2+1:=w6.2;show x5.2≤rp+1100;omega)⟩,(by show 1≤aj.length;omega)⟩,rfl,rfl,rfl⟩
 ·refine⟨[80000,80001,80002,80003,80004],[],_,_,_,rfl,cf,((aj,ak,an.set (8+x3.1).toNat (ao+1),ao,ah,aq,ai,ar),0,x5.2),⟨⟨(by show List.length ah≤20001;omega),(by show List.length ai≤20001;omega)⟩,⟨(by have e3:x3.2=rp+1:=w4.2;have e5:x5.2=x3.2+1:=w6.2;show rp≤x5.2;omega),(by have e3:x3.2=rp+1:=w4.2;have e5:x5.2=x3.2+1:=w6.2;show x5.2≤rp+1100;omega)⟩,ZA7 _⟩,(by show _=dY (rb,rp) g' _;unfold dY;dsimp only [ay.rows,ay.refs,ay.last,ay.gone,ay.dead];simp only [ZC3,ZA0];rfl),rfl,rfl⟩
 ·refine⟨[80000,80001,80002,80003,80004],[],_,_,_,rfl,cf,((aj.set 2 ⟨#[108,111,119]⟩,ak,an,ao,ah,aq,ai,ar),0,x5.2),⟨⟨(by show List.length ah≤20001;omega),(by show List.length ai≤20001;omega)⟩,⟨(by have e3:x3.2=rp+1:=w4.2;have e5:x5.2=x3.2+1:=w6.2;show rp≤x5.2;omega),(by have e3:x3.2=rp+1:=w4.2;have e5:x5.2=x3.2+1:=w6.2;show x5.2≤rp+1100;omega)⟩,ZA7 _⟩,(by show _=dY (rb,rp) g' _;unfold dY;dsimp only [ay.rows,ay.refs,ay.last,ay.gone,ay.dead];simp only [ZC3,ZA0];rfl),rfl,rfl⟩
end GL
end Go.Proofs.YtnkbdhldiinfdaaGreatDoor
