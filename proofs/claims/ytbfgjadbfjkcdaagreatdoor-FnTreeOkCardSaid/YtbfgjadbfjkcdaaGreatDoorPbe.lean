/- FnTreeOk returns true for every code (its row lists package variables, tied by the card): part 31. -/
import Derived.Test.YtbfgjadbfjkcdaaGreatDoorPas
import Derived.Test.YtbfgjadbfjkcdaaGreatDoorPbd
set_option maxHeartbeats 20000000
set_option linter.all false
namespace Go.Proofs.YtbfgjadbfjkcdaaGreatDoor
namespace GL
structure Hur (s:ay):Prop where
 wg:s.wg 20000
 ck:0≤s.ck
 rf:∀k,(0:Int)≤nth ag s.refs k∧nth ag s.refs k≤(1000000:Int)
def nS (r:List Int×Int) (S:ay):Prop:=FD r 970000∧Hur S
def R6 (r:List Int×Int) (S:ay) (z:ay×Nat×Int):Prop:=(z.1.gone.length≤20001∧z.1.dead.length≤20001)∧(r.2≤z.2.2∧z.2.2≤r.2+1100)∧z.2.1≤z.1.rows.length
def dZ (r:List Int×Int) (S:ay) (z:ay×Nat×Int):AV:=.a [.xs 1 1 z.2.1 (z.1.rows.length-z.2.1),.xs 2 1 0 z.1.refs.length,.xs 3 1 0 z.1.last.length,.int z.1.ck,.xs 4 5 0 z.1.gone.length,.int z.1.bY,.xs 5 5 0 z.1.dead.length,.q z.1.same]
def WG (r:List Int×Int) (S:ay) (z:ay×Nat×Int):List AV:=[.a [.vw kL r.1,.int z.2.2],.rs ab z.1.rows,.rs ag z.1.refs,.rs ag z.1.last,.rs ae z.1.gone,.rs ae z.1.dead]
def np:Con where
 A:=[.b 0,.a xE]
 B:=[.a [.vw kL,.int]]
 pre:=fun x b=>nS b (x.2)
 α:=fun _ _=>ay×Nat×Int
 φ:=fun x b z=>R6 b (x.2) z
 r:=fun x b z=>dZ b (x.2) z
 o:=fun x b z=>WG b (x.2) z
 nf:=5
set_option maxRecDepth 100000 in
theorem CU:Has Tryz.prog 22 np:=by
 refine Has.ofE (fun _=>true) (fun _=>false) (fun _=>false) (l:=[(54,jF),(16,bb),(19,cT),(52,jE)]) ⟨IT,dh,pn,IQ,trivial⟩ (fn:=Tryz.f22) Tryz.func22 rfl (by decide) (aZ rfl) ?_
 rintro⟨_,⟨(aj:List ByteArray),(ak:List Int),(an:List Int),(ao:Int),(ah:List Pt),(aq:Int),(ai:List Pt),(ar:Bool)⟩⟩ ⟨(rb:List Int),(rp:Int)⟩ (hp:nS (rb,rp) (aj,ak,an,ao,ah,aq,ai,ar))
 show vc _ _ _ _ (entry [.s (.bp 0 0),.a [.vz ab aj,.vz ag ak,.vz ag an,.int ao,.vz ae ah,.int aq,.vz ae ai,.q ar]] [.a [.vw kL rb,.int rp]]) _
 obtain⟨hr,hH⟩:=hp
 have lB:=hH.wg
 have ak7:0≤ao:=hH.ck
 have hrf:=hH.rf
 have hr1:∀k,(-9223372036854775808:Int)≤nth ag ak k+1:=fun k=>ZE1 (by decide) (Int.add_le_add_right (hrf k).1 1)
 have hr2:∀k,(nth ag ak k+1:Int)≤(9223372036854775807:Int):=fun k=>ZE1 (Int.add_le_add_right (hrf k).2 1) (by decide)
 have hr:FD (rb,rp) 970000:=hr
 have lB:ay.wg (aj,ak,an,ao,ah,aq,ai,ar) 20000:=lB
 have hp0:0≤rp:=hr.p0
 have hp1:rp≤970000:=hr.p1
 have hl:aj.length=64∧ak.length=64∧an.length=64:=lB.wf.n
 have hg:ah.length≤20000:=lB.g
 have htx:ao≤21000:=lB.t
 have hd:ai.length≤20000:=lB.d
 refine⟨⟨⟨⟨aa,aa,aa,aa,aa,aa,aa,aa,aa⟩,aa⟩,?_,?_,?_,?_,?_⟩,fun x1 w2=>⟨⟨⟨aa,aa,aa⟩,?_,?_⟩,fun x3 w4=>⟨⟨?_,?_⟩,⟨⟨aa,aa,aa⟩,?_,?_⟩,fun x5 w6=>⟨fun w7=>⟨aa,⟨⟨aa,aa,aa⟩,?_,?_⟩,fun x8 w9=>⟨⟨?_,?_⟩,?_,?_⟩⟩,fun dq=>⟨fun kk=>⟨[.s 3],[.s 26],rfl,[.s 26,.b 1003],[.s 27],rfl,[.s 3],[.s 28],rfl,[.s 28,.b 1003],[.s 29],rfl,[.s 29],[.s 30],rfl,⟨?_,?_⟩,[.s 27,.s 30,.b 1031],[.s 31,.b 1031],rfl,aa,[.s 0],[.s 32],rfl,[.s 32,.b 0],[.s 33,.b 0],rfl,⟨⟨aa,aa,aa⟩,?_,?_⟩,?_,fun x12 iJ=>⟨[.s 31,.s 33],[.s 34],rfl,⟨?_,?_⟩,[.s 34,.b 1031],[.s 35],rfl,?_,[.s 3],[.s 36],rfl,[.s 36,.s 35,.b 1003],[.b 1003],rfl,?_⟩⟩,fun gI=>⟨fun pe=>⟨[.s 3],[.s 39],rfl,[.s 39,.b 1003],[.s 40],rfl,[.s 5],[.s 41],rfl,[.s 0],[.s 42],rfl,[.s 42,.b 0],[.s 43,.b 0],rfl,⟨⟨aa,aa,aa⟩,?_,?_,?_⟩,?_,fun x16 wC=>⟨[.s 40,.s 41],[.s 44],rfl,⟨?_,?_⟩,[.s 44,.s 43,.b 80000],[.b 80000],rfl,?_,?_⟩⟩,fun qX=>⟨fun oB=>⟨[.s 3],[.s 47],rfl,[.s 47],[.s 48],rfl,[.s 48,.b 1003],[.s 49],rfl,[.s 5],[.s 50],rfl,[.s 3],[.s 51],rfl,[.s 51],[.s 52],rfl,[.s 52,.b 1003],[.s 53],rfl,[.s 5],[.s 54],rfl,[.s 53,.s 54],[.s 55],rfl,⟨?_,?_⟩,[.s 55,.b 80001],[.s 56],rfl,?_,[.s 56],[.s 57],rfl,⟨?_,?_⟩,[.s 49,.s 50],[.s 58],rfl,⟨?_,?_⟩,[.s 58,.s 57,.b 80001],[.b 80001],rfl,?_,?_⟩,fun uw=>⟨fun zm=>⟨[.s 3],[.s 61],rfl,[.s 61,.b 1003],[.s 62],rfl,[.s 0],[.s 63],rfl,[.s 63,.b 0],[.s 64,.b 0],rfl,⟨⟨aa,aa⟩,?_⟩,?_,fun x22 xD=>⟨[.s 64,.b 1065],[.s 65,.b 1065],rfl,aa,[.s 62,.s 65,.b 80003,.b 1065,.b 1066],[.s 66,.b 1066,.b 80003],rfl,⟨⟨?_,?_⟩,?_,?_⟩,[.s 3],[.s 67],rfl,[.s 67,.s 66,.b 1003],[.b 1003],rfl,?_⟩⟩,fun rG=>⟨fun w25=>⟨[.s 3],[.s 70],rfl,[.s 70,.b 1003],[.s 71],rfl,[.s 0],[.s 72],rfl,[.s 72,.b 0],[.s 73,.b 0],rfl,⟨⟨aa,aa⟩,?_⟩,?_,fun x26 w27=>⟨[.s 73,.b 1074],[.s 74,.b 1074],rfl,aa,[.s 71,.s 74,.b 80004,.b 1074,.b 1075],[.s 75,.b 1075,.b 80004],rfl,⟨⟨?_,?_⟩,?_,?_⟩,[.s 3],[.s 76],rfl,[.s 76,.s 75,.b 1003],[.b 1003],rfl,?_⟩⟩,fun w28=>⟨fun w29=>⟨⟨?_,?_,?_⟩,?_⟩,fun w30=>⟨fun w31=>⟨⟨?_,?_⟩,⟨?_,?_⟩,?_,?_⟩,fun w32=>⟨⟨?_,?_⟩,?_,?_⟩⟩⟩⟩⟩⟩⟩⟩⟩⟩⟩⟩
 all_goals first|refine aw ?_|refine ax ?_|exact ba|(dsimp only [jF,p8];omega)|(dsimp only [bb,cn];omega)|(dsimp only [cT,ig];omega)|(dsimp only [jE,pZ];omega)|exact a8|exact hr1 _|exact hr2 _|exact hr.at hp0 (by omega)|(refine hr.at ?_ ?_<;>(dsimp only [jF,bb,dP,cT,fj,jE,qm,dj,ay.rows,ay.refs,ay.last,ay.gone,ay.dead,ay.ck] at * <;>omega))|(show aj.length≤1000000;omega)|(show ak.length≤1000000;omega)|(show an.length≤1000000;omega)|(show ah.length≤1000000;omega)|(show ai.length≤1000000;omega)|(show (8+x3.1).toNat<aj.length;have h:=pk (n:=6) (by decide) w4;omega)|(show (8+x3.1).toNat<ak.length;have h:=pk (n:=6) (by decide) w4;omega)|(show (8+x3.1).toNat<an.length;have h:=pk (n:=6) (by decide) w4;omega)|(show 8+x3.1<(aj.length:Int);have h:=pk (n:=6) (by decide) w4;omega)|(show 8+x3.1<(ak.length:Int);have h:=pk (n:=6) (by decide) w4;omega)|(show 8+x3.1<(an.length:Int);have h:=pk (n:=6) (by decide) w4;omega)|(show 0≤8+x3.1;have h:=pk (n:=6) (by decide) w4;omega)|(simp only [gO];have h:=pk (n:=6) (by decide) w4;omega)|(simp only [imax];have h:=pk (n:=6) (by decide) w4;omega)|(show gO≤ao-1;simp only [gO];omega)|(show ao-1≤imax;simp only [imax];omega)|(show gO≤ao+1;simp only [gO];omega)|(show ao+1≤imax;simp only [imax];omega)|(show 2<aj.length;omega)|(show (2:Int)<(aj.length:Int);omega)|(show (1:Int)≤(aj.length:Int);omega)|(show ah.length+1≤1048576;omega)|(show ai.length+1≤1048576;omega)|(show _<((List.length _:Nat):Int);dsimp only [jF,bb,dP,cT,fj,jE,qm,dj,ay.rows,ay.refs,ay.last,ay.gone,ay.dead,ay.ck,List.length_cons,List.length_nil] at *;omega)|(show Int.toNat _<_;dsimp only [jF,bb,dP,cT,fj,jE,qm,dj,ay.rows,ay.refs,ay.last,ay.gone,ay.dead,ay.ck,List.length_cons,List.length_nil] at *;omega)|(dsimp only [jF,bb,dP,cT,fj,jE,qm,dj,ay.rows,ay.refs,ay.last,ay.gone,ay.dead,ay.ck] at *;omega)|exact⟨(0,_),.inl rfl,rfl⟩|exact⟨(⟨#[]⟩,x5.2),(by show ((0:Nat):Int)≤9;decide),ZC1 _,(by show x5.2≤x5.2+1000;omega)⟩|exact⟨((0,0,0,0,0),x5.2),ZC1 _,(by show x5.2≤x5.2+1010;omega)⟩|skip
 ·refine⟨[80000,80001,80002,80003,80004],[],_,_,_,rfl,ch,((aj,ak,an,(nth ag [0,900,901] x8.1.toNat:Int),ah,aq,ai,ar),0,x8.2),⟨⟨(by show List.length ah≤20001;omega),(by show List.length ai≤20001;omega)⟩,⟨(by have e3:x3.2=rp+1:=w4.2;have e5:x5.2=x3.2+1:=w6.2;have e8:x8.2=x5.2+1:=w9.2;show rp≤x8.2;omega),(by have e3:x3.2=rp+1:=w4.2;have e5:x5.2=x3.2+1:=w6.2;have e8:x8.2=x5.2+1:=w9.2;show x8.2≤rp+1100;omega)⟩,ZA8 _⟩,rfl,rfl,rfl⟩
 ·refine⟨[80000,80001,80002,80003,80004],[],_,_,_,rfl,ch,((aj,ak,an,ao,ah,(nth ag [-1,ao,ao-1] x12.1.toNat:Int),ai,ar),0,x12.2),⟨⟨(by show List.length ah≤20001;omega),(by show List.length ai≤20001;omega)⟩,⟨(by have e3:x3.2=rp+1:=w4.2;have e5:x5.2=x3.2+1:=w6.2;have e8:x12.2=x5.2+1:=iJ.2;show rp≤x12.2;omega),(by have e3:x3.2=rp+1:=w4.2;have e5:x5.2=x3.2+1:=w6.2;have e8:x12.2=x5.2+1:=iJ.2;show x12.2≤rp+1100;omega)⟩,ZA8 _⟩,rfl,rfl,rfl⟩
 ·refine⟨[80000,80001,80002,80003,80004],[],_,_,_,rfl,ch,((aj.set (8+x3.1).toNat x16.1,ak,an,ao,ah,aq,ai,ar),0,x16.2),⟨⟨(by show List.length ah≤20001;omega),(by show List.length ai≤20001;omega)⟩,⟨(by have e3:x3.2=rp+1:=w4.2;have e5:x5.2=x3.2+1:=w6.2;have e8:x5.2≤x16.2∧x16.2≤x5.2+1000:=wC.2;show rp≤x16.2;omega),(by have e3:x3.2=rp+1:=w4.2;have e5:x5.2=x3.2+1:=w6.2;have e8:x5.2≤x16.2∧x16.2≤x5.2+1000:=wC.2;show x16.2≤rp+1100;omega)⟩,ZA8 _⟩,(by show _=dZ (rb,rp) (aj,ak,an,ao,ah,aq,ai,ar) _;unfold dZ;dsimp only [ay.rows,ay.refs,ay.last,ay.gone,ay.dead];simp only [ZC3,ZA0];rfl),rfl,rfl⟩
 ·refine⟨[80000,80001,80002,80003,80004],[],_,_,_,rfl,ch,((aj,ak.set (8+x3.1).toNat (nth ag ak (8+x3.1).toNat+1:Int),an,ao,ah,aq,ai,ar),0,x5.2),⟨⟨(by show List.length ah≤20001;omega),(by show List.length ai≤20001;omega)⟩,⟨(by have e3:x3.2=rp+1:=w4.2;have e5:x5.2=x3.2+1:=w6.2;show rp≤x5.2;omega),(by have e3:x3.2=rp+1:=w4.2;have e5:x5.2=x3.2+1:=w6.2;show x5.2≤rp+1100;omega)⟩,ZA8 _⟩,(by show _=dZ (rb,rp) (aj,ak,an,ao,ah,aq,ai,ar) _;unfold dZ;dsimp only [ay.rows,ay.refs,ay.last,ay.gone,ay.dead];simp only [ZC3,ZA0];rfl),rfl,rfl⟩
 ·refine⟨[80000,80001,80002,1066,80004],[],_,_,_,rfl,ch,((aj,ak,an,ao,ah++[x22.1],aq,ai,ar),0,x22.2),⟨⟨(by show List.length (ah++[x22.1])≤20001;rw [ZA0];show ah.length+1≤20001;omega),(by show List.length ai≤20001;omega)⟩,⟨(by have e3:x3.2=rp+1:=w4.2;have e5:x5.2=x3.2+1:=w6.2;have e8:x5.2≤x22.2∧x22.2≤x5.2+1010:=xD;show rp≤x22.2;omega),(by have e3:x3.2=rp+1:=w4.2;have e5:x5.2=x3.2+1:=w6.2;have e8:x5.2≤x22.2∧x22.2≤x5.2+1010:=xD;show x22.2≤rp+1100;omega)⟩,ZA8 _⟩,(by show _=dZ (rb,rp) (aj,ak,an,ao,ah,aq,ai,ar) _;unfold dZ;dsimp only [ay.rows,ay.refs,ay.last,ay.gone,ay.dead];simp only [ZC3,ZA0];rfl),rfl,rfl⟩
 ·refine⟨[80000,80001,80002,80003,1075],[],_,_,_,rfl,ch,((aj,ak,an,ao,ah,aq,ai++[x26.1],ar),0,x26.2),⟨⟨(by show List.length ah≤20001;omega),(by show List.length (ai++[x26.1])≤20001;rw [ZA0];show ai.length+1≤20001;omega)⟩,⟨(by have e3:x3.2=rp+1:=w4.2;have e5:x5.2=x3.2+1:=w6.2;have e8:x5.2≤x26.2∧x26.2≤x5.2+1010:=w27;show rp≤x26.2;omega),(by have e3:x3.2=rp+1:=w4.2;have e5:x5.2=x3.2+1:=w6.2;have e8:x5.2≤x26.2∧x26.2≤x5.2+1010:=w27;show x26.2≤rp+1100;omega)⟩,ZA8 _⟩,(by show _=dZ (rb,rp) (aj,ak,an,ao,ah,aq,ai,ar) _;unfold dZ;dsimp only [ay.rows,ay.refs,ay.last,ay.gone,ay.dead];simp only [ZC3,ZA0];rfl),rfl,rfl⟩
 ·refine⟨[80000,80001,80002,80003,80004],[],_,_,_,rfl,ch,((aj,ak,an,ao,ah,aq,ai,ar),1,x5.2),⟨⟨(by show List.length ah≤20001;omega),(by show List.length ai≤20001;omega)⟩,⟨(by have e3:x3.2=rp+1:=w4.2;have e5:x5.2=x3.2+1:=w6.2;show rp≤x5.2;omega),(by have e3:x3.2=rp+1:=w4.2;have e5:x5.2=x3.2+1:=w6.2;show x5.2≤rp+1100;omega)⟩,(by show 1≤aj.length;omega)⟩,rfl,rfl,rfl⟩
 ·refine⟨[80000,80001,80002,80003,80004],[],_,_,_,rfl,ch,((aj,ak,an.set (8+x3.1).toNat (ao+1),ao,ah,aq,ai,ar),0,x5.2),⟨⟨(by show List.length ah≤20001;omega),(by show List.length ai≤20001;omega)⟩,⟨(by have e3:x3.2=rp+1:=w4.2;have e5:x5.2=x3.2+1:=w6.2;show rp≤x5.2;omega),(by have e3:x3.2=rp+1:=w4.2;have e5:x5.2=x3.2+1:=w6.2;show x5.2≤rp+1100;omega)⟩,ZA8 _⟩,(by show _=dZ (rb,rp) (aj,ak,an,ao,ah,aq,ai,ar) _;unfold dZ;dsimp only [ay.rows,ay.refs,ay.last,ay.gone,ay.dead];simp only [ZC3,ZA0];rfl),rfl,rfl⟩
 ·refine⟨[80000,80001,80002,80003,80004],[],_,_,_,rfl,ch,((aj.set 2 ⟨#[108,111,119]⟩,ak,an,ao,ah,aq,ai,ar),0,x5.2),⟨⟨(by show List.length ah≤20001;omega),(by show List.length ai≤20001;omega)⟩,⟨(by have e3:x3.2=rp+1:=w4.2;have e5:x5.2=x3.2+1:=w6.2;show rp≤x5.2;omega),(by have e3:x3.2=rp+1:=w4.2;have e5:x5.2=x3.2+1:=w6.2;show x5.2≤rp+1100;omega)⟩,ZA8 _⟩,(by show _=dZ (rb,rp) (aj,ak,an,ao,ah,aq,ai,ar) _;unfold dZ;dsimp only [ay.rows,ay.refs,ay.last,ay.gone,ay.dead];simp only [ZC3,ZA0];rfl),rfl,rfl⟩
end GL
end Go.Proofs.YtbfgjadbfjkcdaaGreatDoor
