/- Part 19 of the proof of a drawn law. -/
import Derived.Test.YtnkbdhldiinfdaaGreatDoorPam
import Derived.Test.YtnkbdhldiinfdaaGreatDoorPan
import Derived.Test.YtnkbdhldiinfdaaGreatDoorPar
set_option maxHeartbeats 20000000
set_option maxRecDepth 100000
set_option linter.all false
namespace Go.Proofs.YtnkbdhldiinfdaaGreatDoor
namespace GL
def pV (r:List Int×Int):Prop:=Rdr r 980000
def qh (r:List Int×Int) (z:Pt×Int):Prop:=r.2≤z.2∧z.2≤r.2+1010
def U9 (r:List Int×Int) (z:Pt×Int):AV:=.o (ptA z.1)
def aa6 (r:List Int×Int) (z:Pt×Int):List AV:=[.a [.vw mf r.1,.int z.2]]
def jC:cn where
 A:=[.b 0]
 B:=[.a [.vw mf,.int]]
 pre:=λx b=>pV b
 α:=λ_ _=>Pt×Int
 φ:=λx b z=>qh b z
 r:=λx b z=>U9 b z
 o:=λx b z=>aa6 b z
theorem IF:Has Tryz.prog 97 jC:=by
 refine Has.fm zT zF zF (l:=[(58,ba),(61,cS),(98,o0),(147,JV)]) ⟨dh,pc,FJ,adQ,aa⟩ Tryz.func97 ?_
 rintro _ ⟨(rb:List Int),(rp:Int)⟩ (hp:pV (rb,rp))
 show vc _ _ _ _ (entry [.s (.bp 0 0)] [.a [.vw mf rb,.int rp]]) _
 have hr:Rdr (rb,rp) 980000:=hp
 have hp0:0≤rp:=hr.p0
 have hp1:rp≤980000:=hr.p1
 refine⟨⟨tv3,?_,?_⟩,λx1 w2=>⟨λw3=>?_,λw4=>⟨⟨tv3,?_,?_⟩,λx5 w6=>⟨⟨?_,?_⟩,⟨tv3,?_,?_⟩,λx7 w8=>⟨⟨?_,?_⟩,⟨tv3,?_,?_⟩,λx9 dy=>⟨⟨tv3,?_,?_,?_⟩,λkz dJ=>⟨?_,⟨tv5,?_⟩,λrW gO=>⟨⟨tv3,?_,?_⟩,λky kg=>⟨λxh=>⟨⟨tv2,?_⟩,λqH oL=>?_⟩,λuI=>⟨λA4=>⟨aa,⟨tv3,?_,?_⟩,λx22 xK=>⟨⟨?_,?_⟩,?_,?_⟩⟩,λrR=>⟨λw25=>⟨aa,⟨tv3,?_,?_⟩,λx26 w27=>⟨⟨?_,?_⟩,?_,?_⟩⟩,λw28=>⟨λw29=>⟨aa,⟨tv3,?_,?_⟩,λx30 w31=>⟨⟨?_,?_⟩,?_,?_⟩⟩,λw32=>⟨λw33=>⟨aa,⟨tv3,?_,?_⟩,λx34 w35=>⟨⟨?_,?_⟩,?_,?_⟩⟩,λw36=>?_⟩⟩⟩⟩⟩⟩⟩⟩⟩⟩⟩⟩⟩
 all_goals first|refine aw ?_|refine ax ?_|exact a8|(dsimp only [ba,ck,cS,ie,o0,mM,JV,yd];omega)|exact a7|(simp only [gK];have h:=pk (n:=12) (by decide) w6;omega)|(simp only [imax];have h:=pk (n:=12) (by decide) w6;omega)|(simp only [gK];have h:=pk (n:=9) (by decide) w8;omega)|(simp only [imax];have h:=pk (n:=9) (by decide) w8;omega)|(unfold imax;have h:(kz.1.size:Int)≤9:=dJ.1;have h2:(⟨#[116]⟩:ByteArray).size=1:=rfl;omega)|(have e1:x1.2=rp+1:=w2.2;have e5:x5.2=x1.2+1:=w6.2;have e7:x7.2=x5.2+1:=w8.2;have e9:x9.2=x7.2+1:=dy.2;have e11:x9.2≤kz.2∧kz.2≤x9.2+1000:=dJ.2;have e15:ky.2=kz.2+1:=kg.2;exact hr.at (by omega) (by omega))|(have e1:x1.2=rp+1:=w2.2;have e5:x5.2=x1.2+1:=w6.2;have e7:x7.2=x5.2+1:=w8.2;have e9:x9.2=x7.2+1:=dy.2;have e11:x9.2≤kz.2∧kz.2≤x9.2+1000:=dJ.2;exact hr.at (by omega) (by omega))|(have e1:x1.2=rp+1:=w2.2;have e5:x5.2=x1.2+1:=w6.2;have e7:x7.2=x5.2+1:=w8.2;have e9:x9.2=x7.2+1:=dy.2;exact hr.at (by omega) (by omega))|(have e1:x1.2=rp+1:=w2.2;have e5:x5.2=x1.2+1:=w6.2;have e7:x7.2=x5.2+1:=w8.2;exact hr.at (by omega) (by omega))|(have e1:x1.2=rp+1:=w2.2;have e5:x5.2=x1.2+1:=w6.2;exact hr.at (by omega) (by omega))|(have e1:x1.2=rp+1:=w2.2;exact hr.at (by omega) (by omega))|(exact hr.at (by omega) (by omega))|exact (pk (by decide) xK).1|exact (pk (by decide) xK).2|(show x22.1.toNat<4;have h:=pk (n:=4) (by decide) xK;omega)|exact (pk (by decide) w27).1|exact (pk (by decide) w27).2|(show x26.1.toNat<4;have h:=pk (n:=4) (by decide) w27;omega)|exact (pk (by decide) w31).1|exact (pk (by decide) w31).2|(show x30.1.toNat<4;have h:=pk (n:=4) (by decide) w31;omega)|exact (pk (by decide) w35).1|exact (pk (by decide) w35).2|(show x34.1.toNat<3;have h:=pk (n:=3) (by decide) w35;omega)|skip
 ·refine⟨[],[],_,_,_,ζ,cf,((_,_,_,_,_),x1.2),⟨(by have e1:x1.2=rp+1:=w2.2;show rp≤x1.2;omega),(by have e1:x1.2=rp+1:=w2.2;show x1.2≤rp+1010;omega)⟩,ζ,ζ,ζ⟩
 ·have h:(kz.1.size:Int)≤9:=dJ.1
  have h3:((⟨#[116]⟩++kz.1:ByteArray).size:Int)≤1000000000000:=by
   rw [ZB2]
   have h2:(⟨#[116]⟩:ByteArray).size=1:=rfl
   omega
  exact h3
 ·refine⟨[],[],_,_,_,ζ,cf,((_,_,_,_,_),qH.2),⟨(by have e1:x1.2=rp+1:=w2.2;have e5:x5.2=x1.2+1:=w6.2;have e7:x7.2=x5.2+1:=w8.2;have e9:x9.2=x7.2+1:=dy.2;have e11:x9.2≤kz.2∧kz.2≤x9.2+1000:=dJ.2;have e15:ky.2=kz.2+1:=kg.2;have e18:ky.2≤qH.2∧qH.2≤ky.2+2:=oL.2;show rp≤qH.2;omega),(by have e1:x1.2=rp+1:=w2.2;have e5:x5.2=x1.2+1:=w6.2;have e7:x7.2=x5.2+1:=w8.2;have e9:x9.2=x7.2+1:=dy.2;have e11:x9.2≤kz.2∧kz.2≤x9.2+1000:=dJ.2;have e15:ky.2=kz.2+1:=kg.2;have e18:ky.2≤qH.2∧qH.2≤ky.2+2:=oL.2;show qH.2≤rp+1010;omega)⟩,ζ,ζ,ζ⟩
 ·refine⟨[],[],_,_,_,ζ,cf,((_,(nth ag [0,-1,900,901] x22.1.toNat:Int),_,_,_),x22.2),⟨(by have e1:x1.2=rp+1:=w2.2;have e5:x5.2=x1.2+1:=w6.2;have e7:x7.2=x5.2+1:=w8.2;have e9:x9.2=x7.2+1:=dy.2;have e11:x9.2≤kz.2∧kz.2≤x9.2+1000:=dJ.2;have e15:ky.2=kz.2+1:=kg.2;have e22:x22.2=ky.2+1:=xK.2;show rp≤x22.2;omega),(by have e1:x1.2=rp+1:=w2.2;have e5:x5.2=x1.2+1:=w6.2;have e7:x7.2=x5.2+1:=w8.2;have e9:x9.2=x7.2+1:=dy.2;have e11:x9.2≤kz.2∧kz.2≤x9.2+1000:=dJ.2;have e15:ky.2=kz.2+1:=kg.2;have e22:x22.2=ky.2+1:=xK.2;show x22.2≤rp+1010;omega)⟩,ζ,ζ,ζ⟩
 ·refine⟨[],[],_,_,_,ζ,cf,((_,_,(nth ag [0,-1,128,129] x26.1.toNat:Int),_,_),x26.2),⟨(by have e1:x1.2=rp+1:=w2.2;have e5:x5.2=x1.2+1:=w6.2;have e7:x7.2=x5.2+1:=w8.2;have e9:x9.2=x7.2+1:=dy.2;have e11:x9.2≤kz.2∧kz.2≤x9.2+1000:=dJ.2;have e15:ky.2=kz.2+1:=kg.2;have e26:x26.2=ky.2+1:=w27.2;show rp≤x26.2;omega),(by have e1:x1.2=rp+1:=w2.2;have e5:x5.2=x1.2+1:=w6.2;have e7:x7.2=x5.2+1:=w8.2;have e9:x9.2=x7.2+1:=dy.2;have e11:x9.2≤kz.2∧kz.2≤x9.2+1000:=dJ.2;have e15:ky.2=kz.2+1:=kg.2;have e26:x26.2=ky.2+1:=w27.2;show x26.2≤rp+1010;omega)⟩,ζ,ζ,ζ⟩
 ·refine⟨[],[],_,_,_,ζ,cf,((_,_,_,(nth ag [-1,99460728,99460729,0] x30.1.toNat:Int),_),x30.2),⟨(by have e1:x1.2=rp+1:=w2.2;have e5:x5.2=x1.2+1:=w6.2;have e7:x7.2=x5.2+1:=w8.2;have e9:x9.2=x7.2+1:=dy.2;have e11:x9.2≤kz.2∧kz.2≤x9.2+1000:=dJ.2;have e15:ky.2=kz.2+1:=kg.2;have e30:x30.2=ky.2+1:=w31.2;show rp≤x30.2;omega),(by have e1:x1.2=rp+1:=w2.2;have e5:x5.2=x1.2+1:=w6.2;have e7:x7.2=x5.2+1:=w8.2;have e9:x9.2=x7.2+1:=dy.2;have e11:x9.2≤kz.2∧kz.2≤x9.2+1000:=dJ.2;have e15:ky.2=kz.2+1:=kg.2;have e30:x30.2=ky.2+1:=w31.2;show x30.2≤rp+1010;omega)⟩,ζ,ζ,ζ⟩
 ·refine⟨[],[],_,_,_,ζ,cf,((_,_,_,_,(nth ag [-1,3,2] x34.1.toNat:Int)),x34.2),⟨(by have e1:x1.2=rp+1:=w2.2;have e5:x5.2=x1.2+1:=w6.2;have e7:x7.2=x5.2+1:=w8.2;have e9:x9.2=x7.2+1:=dy.2;have e11:x9.2≤kz.2∧kz.2≤x9.2+1000:=dJ.2;have e15:ky.2=kz.2+1:=kg.2;have e34:x34.2=ky.2+1:=w35.2;show rp≤x34.2;omega),(by have e1:x1.2=rp+1:=w2.2;have e5:x5.2=x1.2+1:=w6.2;have e7:x7.2=x5.2+1:=w8.2;have e9:x9.2=x7.2+1:=dy.2;have e11:x9.2≤kz.2∧kz.2≤x9.2+1000:=dJ.2;have e15:ky.2=kz.2+1:=kg.2;have e34:x34.2=ky.2+1:=w35.2;show x34.2≤rp+1010;omega)⟩,ζ,ζ,ζ⟩
 ·refine⟨[],[],_,_,_,ζ,cf,((_,_,_,_,_),ky.2),⟨(by have e1:x1.2=rp+1:=w2.2;have e5:x5.2=x1.2+1:=w6.2;have e7:x7.2=x5.2+1:=w8.2;have e9:x9.2=x7.2+1:=dy.2;have e11:x9.2≤kz.2∧kz.2≤x9.2+1000:=dJ.2;have e15:ky.2=kz.2+1:=kg.2;show rp≤ky.2;omega),(by have e1:x1.2=rp+1:=w2.2;have e5:x5.2=x1.2+1:=w6.2;have e7:x7.2=x5.2+1:=w8.2;have e9:x9.2=x7.2+1:=dy.2;have e11:x9.2≤kz.2∧kz.2≤x9.2+1000:=dJ.2;have e15:ky.2=kz.2+1:=kg.2;show ky.2≤rp+1010;omega)⟩,ζ,ζ,ζ⟩
end GL
namespace GL
def sc (r:List Int×Int):Prop:=Rdr r 980000
def aaU (r:List Int×Int) (z:Opr×Int):Prop:=(z.1.2.1.size≤30∧z.1.2.2.1.size≤30∧z.1.2.2.2.2.size≤30)∧r.2≤z.2∧z.2≤r.2+1020
def aaL (r:List Int×Int) (z:Opr×Int):AV:=.o (.a [.int z.1.1,.str z.1.2.1,.str z.1.2.2.1,.int z.1.2.2.2.1,.str z.1.2.2.2.2])
def ac2 (r:List Int×Int) (z:Opr×Int):List AV:=[.a [.vw mf r.1,.int z.2]]
def tY:cn where
 A:=[.b 0]
 B:=[.a [.vw mf,.int]]
 pre:=λx b=>sc b
 α:=λ_ _=>Opr×Int
 φ:=λx b z=>aaU b z
 r:=λx b z=>aaL b z
 o:=λx b z=>ac2 b z
theorem O9:Has Tryz.prog 91 tY:=by
 refine Has.fm zT zF zF (l:=[(58,ba),(138,jZ),(61,cS),(139,mb)]) ⟨dh,abH,pc,adU,aa⟩ Tryz.func91 ?_
 rintro _ ⟨(rb:List Int),(rp:Int)⟩ (hp:sc (rb,rp))
 show vc _ _ _ _ (entry [.s (.bp 0 0)] [.a [.vw mf rb,.int rp]]) _
 have hr:Rdr (rb,rp) 980000:=hp
 have hp0:0≤rp:=hr.p0
 have hp1:rp≤980000:=hr.p1
 refine⟨[.b 1004],[.s 4,.b 1004],ζ,aa,Sq0,Sq5,ζ,[.s 5,.b 0],[.s 6,.b 0],ζ,⟨tv3,?_,?_⟩,?_,λx1 w2=>⟨[.s 4,.s 6],Sq7,ζ,⟨?_,?_⟩,[.s 7,.b 1004],Sq8,ζ,?_,Sq0,Sq9,ζ,[.s 9,.b 0],[.s 10,.b 0],ζ,⟨tv2,?_⟩,?_,λx3 w4=>⟨[.s 8,.s 10],Sq11,ζ,[.b 1003],[.s 3,.b 1003],ζ,[.s 3,.s 11,.b 1003],[.b 1003],ζ,λw5=>⟨aa,⟨tv3,?_,?_⟩,λx6 w7=>⟨⟨?_,?_⟩,?_,⟨tv3,?_,?_,?_⟩,λx8 w9=>⟨⟨tv3,?_,?_⟩,λx10 kA=>⟨λdJ=>⟨aa,⟨tv3,?_,?_⟩,λrW gO=>⟨⟨?_,?_⟩,?_,?_⟩⟩,λqK=>⟨λkg=>⟨aa,⟨tv3,?_,?_⟩,λx17 rS=>⟨⟨?_,?_⟩,?_,?_⟩⟩,λoL=>⟨λuI=>⟨⟨tv3,?_,?_⟩,λx21 A3=>⟨⟨?_,?_⟩,⟨tv3,?_,?_,?_⟩,λx23 rR=>?_⟩⟩,λw25=>⟨λw26=>⟨⟨tv2,?_⟩,λx27 w28=>?_⟩,λw29=>?_⟩⟩⟩⟩⟩⟩⟩,λw30=>⟨λw31=>⟨aa,⟨tv3,?_,?_⟩,λx32 w33=>⟨⟨?_,?_⟩,?_,⟨tv3,?_,?_⟩,λx34 w35=>⟨λw36=>⟨aa,⟨tv3,?_,?_⟩,λx37 w38=>⟨⟨?_,?_⟩,?_,?_⟩⟩,λw39=>⟨λw40=>⟨aa,⟨tv3,?_,?_⟩,λx41 w42=>⟨⟨?_,?_⟩,?_,?_⟩⟩,λw43=>⟨λw44=>⟨⟨tv3,?_,?_⟩,λx45 w46=>⟨⟨?_,?_⟩,⟨tv3,?_,?_,?_⟩,λx47 w48=>?_⟩⟩,λw49=>⟨λw50=>⟨⟨tv2,?_⟩,λx51 w52=>?_⟩,λw53=>?_⟩⟩⟩⟩⟩⟩,λw54=>⟨λw55=>⟨λw56=>⟨⟨tv2,?_⟩,λx57 w58=>⟨⟨tv3,?_,?_⟩,λx59 w60=>⟨λw61=>⟨aa,⟨tv3,?_,?_⟩,λx62 w63=>⟨⟨?_,?_⟩,?_,?_⟩⟩,λw64=>⟨λw65=>⟨aa,⟨tv3,?_,?_⟩,λx66 w67=>⟨⟨?_,?_⟩,?_,?_⟩⟩,λw68=>⟨λw69=>⟨⟨tv3,?_,?_⟩,λx70 w71=>⟨⟨?_,?_⟩,⟨tv3,?_,?_,?_⟩,λx72 w73=>?_⟩⟩,λw74=>⟨λw75=>⟨⟨tv2,?_⟩,λx76 w77=>?_⟩,λw78=>?_⟩⟩⟩⟩⟩⟩,λw79=>⟨⟨tv3,?_,?_⟩,λx80 w81=>⟨λw82=>⟨aa,⟨tv3,?_,?_⟩,λx83 w84=>⟨⟨?_,?_⟩,?_,?_⟩⟩,λw85=>⟨λw86=>⟨aa,⟨tv3,?_,?_⟩,λx87 w88=>⟨⟨?_,?_⟩,?_,?_⟩⟩,λw89=>⟨λw90=>⟨⟨tv3,?_,?_⟩,λx91 w92=>⟨⟨?_,?_⟩,⟨tv3,?_,?_,?_⟩,λx93 w94=>?_⟩⟩,λw95=>⟨λw96=>⟨⟨tv2,?_⟩,λx97 w98=>?_⟩,λw99=>?_⟩⟩⟩⟩⟩⟩,λal8=>⟨λaku=>⟨⟨tv2,?_⟩,λaks al6=>⟨⟨tv3,?_,?_⟩,λakr al5=>⟨λal4=>⟨aa,⟨tv3,?_,?_⟩,λakq al3=>⟨⟨?_,?_⟩,?_,?_⟩⟩,λal2=>⟨λal1=>⟨aa,⟨tv3,?_,?_⟩,λakp al0=>⟨⟨?_,?_⟩,?_,?_⟩⟩,λalZ=>⟨λalY=>⟨⟨tv3,?_,?_⟩,λako alX=>⟨⟨?_,?_⟩,⟨tv3,?_,?_,?_⟩,λakn alW=>?_⟩⟩,λalV=>⟨λalU=>⟨⟨tv2,?_⟩,λakm alT=>?_⟩,λalS=>?_⟩⟩⟩⟩⟩⟩,λalR=>⟨⟨tv3,?_,?_⟩,λakl alQ=>⟨λalP=>⟨aa,⟨tv3,?_,?_⟩,λakk alO=>⟨⟨?_,?_⟩,?_,?_⟩⟩,λalN=>⟨λalM=>⟨aa,⟨tv3,?_,?_⟩,λakj alL=>⟨⟨?_,?_⟩,?_,?_⟩⟩,λalK=>⟨λalJ=>⟨⟨tv3,?_,?_⟩,λaki alI=>⟨⟨?_,?_⟩,⟨tv3,?_,?_,?_⟩,λakh alH=>?_⟩⟩,λalG=>⟨λalF=>⟨⟨tv2,?_⟩,λakg alE=>?_⟩,λalD=>?_⟩⟩⟩⟩⟩⟩⟩⟩⟩⟩⟩
 all_goals first|refine aw ?_|refine ax ?_|exact a8|(dsimp only [ba,ck,jZ,vb,cS,ie,mb,yf];omega)|exact a7|exact hr.at hp0 (by omega)|(refine hr.at ?_ ?_<;>(dsimp only [ba,dO,jZ,jm,cS,fg,mb,kL,dC] at * <;>omega))|(show _<((List.length _:Nat):Int);dsimp only [ba,dO,jZ,jm,cS,fg,mb,kL,dC,List.length_cons,List.length_nil] at *;omega)|(show Int.toNat _<_;dsimp only [ba,dO,jZ,jm,cS,fg,mb,kL,dC,List.length_cons,List.length_nil] at *;omega)|(dsimp only [ba,dO,jZ,jm,cS,fg,mb,kL,dC] at *;omega)|exact⟨(0,rp+1),.inl rfl,rfl⟩|exact⟨(⟨#[]⟩,x1.2),ZA7 _,ZC1 _,(by show x1.2≤x1.2+2;omega)⟩|(simp only [gK,imax];dsimp only [ba,dO,jZ,jm,cS,fg,mb,kL,dC] at *;omega)|(show (1:Nat)≤1000;omega)|skip
 all_goals
  first
   |refine⟨[],[],_,_,_,rfl,az,(((_:EK.Ty ag),_,_,(_:EK.Ty ag),_),_),⟨⟨?_,?_,?_⟩,?_,?_⟩,rfl,rfl,rfl⟩
   |refine⟨[],[],_,_,_,rfl,az,(((_:EK.Ty ag),_,_,_,_),_),⟨⟨?_,?_,?_⟩,?_,?_⟩,rfl,rfl,rfl⟩
  all_goals
   try cases x1
   try cases x3
   try cases x6
   try cases x8
   try cases x10
   try cases rW
   try cases x17
   try cases x21
   try cases x23
   try cases x27
   try cases x32
   try cases x34
   try cases x37
   try cases x41
   try cases x45
   try cases x47
   try cases x51
   try cases x57
   try cases x59
   try cases x62
   try cases x66
   try cases x70
   try cases x72
   try cases x76
   try cases x80
   try cases x83
   try cases x87
   try cases x91
   try cases x93
   try cases x97
   try cases aks
   try cases akr
   try cases akq
   try cases akp
   try cases ako
   try cases akn
   try cases akm
   try cases akl
   try cases akk
   try cases akj
   try cases aki
   try cases akh
   try cases akg
  all_goals (dsimp only [ba,dO,jZ,jm,cS,fg,mb,kL,dC] at *;first|omega|exact ZA7 _|(simp only [show (⟨#[117]⟩:ByteArray).size=1 from rfl,Nat.one_mul] at *;omega))
end GL
namespace GL
structure akb (l:List Int):Prop where
 len:l.length≤2000000
 jK:∀b∈l,0≤b∧b≤255
def G7 (c:List Int):Prop:=akb c
def VQ (c:List Int) (z:List Int):Prop:=Rdr (z,0) 0
def VF (c:List Int) (z:List Int):AV:=.s (.bp 0 0)
def abc (c:List Int) (z:List Int):List AV:=[.a [.vw mf z,.int 0]]
def afg:cn where
 A:=[.s (.vw mf)]
 B:=[]
 pre:=λx b=>G7 x
 α:=λ_ _=>List Int
 φ:=λx b z=>VQ x z
 r:=λx b z=>VF x z
 o:=λx b z=>abc x z
 nf:=1
theorem ai5:Has Tryz.prog 28 afg:=by
 refine Has.fm zT zF zF (l:=[]) trivial Tryz.func28 ?_
 rintro (c:List Int) _ (hp:G7 c)
 show vc _ _ _ _ (entry [.s (.vw mf c)] []) _
 have hb:akb c:=hp
 refine⟨λw1=>⟨⟨?_,⟨?_,?_⟩⟩,?_⟩,λw2=>?_⟩
 all_goals first|refine aw ?_|refine ax ?_|exact a8|exact a7|skip
 ·refine⟨[1010],[],_,_,_,ζ,cf,List.take 2000 (List.drop 0 c),⟨by rw [ZB9];omega,λb h=>hb.jK b (ZF2 (ZE6 h)),ZC1 _,ZC1 _⟩,ζ,ζ,ζ⟩
 ·refine⟨[1010],[],_,_,_,ζ,cf,c,⟨by have:=aA (p:=(c.length:Int)>2000) w2;show c.length≤2000;omega,hb.jK,ZC1 _,ZC1 _⟩,ζ,ζ,ζ⟩
end GL
namespace GL
end GL
namespace GL
structure Hur (s:ay):Prop where
 wg:s.wg 20000
 cg:0≤s.cg
 rf:∀k,(0:Int)≤nth ag s.refs k∧nth ag s.refs k≤(1000000:Int)
def nL (r:List Int×Int) (S:ay):Prop:=Rdr r 970000∧Hur S
def RR (r:List Int×Int) (S:ay) (z:ay×Nat×Int):Prop:=(z.1.gone.length≤20001∧z.1.dead.length≤20001)∧(r.2≤z.2.2∧z.2.2≤r.2+1100)∧z.2.1≤z.1.rows.length
def dY (r:List Int×Int) (S:ay) (z:ay×Nat×Int):AV:=.a [.xs 1 1 z.2.1 (z.1.rows.length-z.2.1),.xs 2 1 0 z.1.refs.length,.xs 3 1 0 z.1.last.length,.int z.1.cg,.xs 4 5 0 z.1.gone.length,.int z.1.bZ,.xs 5 5 0 z.1.dead.length,.q z.1.same]
def VX (r:List Int×Int) (S:ay) (z:ay×Nat×Int):List AV:=[.a [.vw mf r.1,.int z.2.2],.rs ab z.1.rows,.rs ag z.1.refs,.rs ag z.1.last,.rs ae z.1.gone,.rs ae z.1.dead]
def na:cn where
 A:=[.b 0,.a xv]
 B:=[.a [.vw mf,.int]]
 pre:=λx b=>nL b (x.2)
 α:=λ_ _=>ay×Nat×Int
 φ:=λx b z=>RR b (x.2) z
 r:=λx b z=>dY b (x.2) z
 o:=λx b z=>VX b (x.2) z
 nf:=5
theorem CO:Has Tryz.prog 64 na:=by
 refine Has.fm zT zF zF (l:=[(99,jD),(58,ba),(61,cS),(97,jC)]) ⟨IH,dh,pc,IF,aa⟩ Tryz.func64 ?_
 rintro⟨_,⟨(aj:List ByteArray),(ak:List Int),(an:List Int),(ao:Int),(ah:List Pt),(aq:Int),(ai:List Pt),(ar:Bool)⟩⟩ ⟨(rb:List Int),(rp:Int)⟩ (hp:nL (rb,rp) (aj,ak,an,ao,ah,aq,ai,ar))
 show vc _ _ _ _ (entry [.s (.bp 0 0),.a [.vz ab aj,.vz ag ak,.vz ag an,.int ao,.vz ae ah,.int aq,.vz ae ai,.q ar]] [.a [.vw mf rb,.int rp]]) _
 let g':=(aj,ak,an,ao,ah,aq,ai,ar)
 obtain⟨hr,hH⟩:=hp
 have ll:=hH.wg
 have akQ:0≤ao:=hH.cg
 have hrf:=hH.rf
 have hr1:∀k,(-9223372036854775808:Int)≤nth ag ak k+1:=λk=>ZE0 (by decide) (Int.add_le_add_right (hrf k).1 1)
 have hr2:∀k,(nth ag ak k+1:Int)≤(9223372036854775807:Int):=λk=>ZE0 (Int.add_le_add_right (hrf k).2 1) (by decide)
 have hr:Rdr (rb,rp) 970000:=hr
 have ll:ay.wg g' 20000:=ll
 have hp0:0≤rp:=hr.p0
 have hp1:rp≤970000:=hr.p1
 have hl:aj.length=64∧ak.length=64∧an.length=64:=ll.wf.n
 have hg:ah.length≤20000:=ll.g
 have htx:ao≤21000:=ll.t
 have hd:ai.length≤20000:=ll.d
 refine⟨⟨⟨tv9,aa⟩,?_,?_,?_,?_,?_⟩,λx1 w2=>⟨⟨tv3,?_,?_⟩,λx3 w4=>⟨⟨?_,?_⟩,⟨tv3,?_,?_⟩,λx5 w6=>⟨λw7=>⟨aa,⟨tv3,?_,?_⟩,λx8 w9=>⟨⟨?_,?_⟩,?_,?_⟩⟩,λdy=>⟨λkA=>⟨Sq3,Sq26,ζ,[.s 26,.b 1003],Sq27,ζ,Sq3,Sq28,ζ,[.s 28,.b 1003],Sq29,ζ,Sq29,Sq30,ζ,⟨?_,?_⟩,[.s 27,.s 30,.b 1031],[.s 31,.b 1031],ζ,aa,Sq0,Sq32,ζ,[.s 32,.b 0],[.s 33,.b 0],ζ,⟨tv3,?_,?_⟩,?_,λx12 iU=>⟨[.s 31,.s 33],Sq34,ζ,⟨?_,?_⟩,[.s 34,.b 1031],Sq35,ζ,?_,Sq3,Sq36,ζ,[.s 36,.s 35,.b 1003],[.b 1003],ζ,?_⟩⟩,λgO=>⟨λqK=>⟨Sq3,Sq39,ζ,[.s 39,.b 1003],Sq40,ζ,Sq5,Sq41,ζ,Sq0,Sq42,ζ,[.s 42,.b 0],[.s 43,.b 0],ζ,⟨tv3,?_,?_,?_⟩,?_,λx16 xh=>⟨[.s 40,.s 41],Sq44,ζ,⟨?_,?_⟩,[.s 44,.s 43,.b 80000],[.b 80000],ζ,?_,?_⟩⟩,λrS=>⟨λoL=>⟨Sq3,Sq47,ζ,Sq47,Sq48,ζ,[.s 48,.b 1003],Sq49,ζ,Sq5,Sq50,ζ,Sq3,Sq51,ζ,Sq51,Sq52,ζ,[.s 52,.b 1003],Sq53,ζ,Sq5,Sq54,ζ,[.s 53,.s 54],Sq55,ζ,⟨?_,?_⟩,[.s 55,.b 80001],Sq56,ζ,?_,Sq56,Sq57,ζ,⟨?_,?_⟩,[.s 49,.s 50],Sq58,ζ,⟨?_,?_⟩,[.s 58,.s 57,.b 80001],[.b 80001],ζ,?_,?_⟩,λuI=>⟨λA4=>⟨Sq3,Sq61,ζ,[.s 61,.b 1003],Sq62,ζ,Sq0,Sq63,ζ,[.s 63,.b 0],[.s 64,.b 0],ζ,⟨tv2,?_⟩,?_,λx22 xK=>⟨[.s 64,.b 1065],[.s 65,.b 1065],ζ,aa,[.s 62,.s 65,.b 80003,.b 1065,.b 1066],[.s 66,.b 1066,.b 80003],ζ,⟨⟨?_,?_⟩,?_,?_⟩,Sq3,Sq67,ζ,[.s 67,.s 66,.b 1003],[.b 1003],ζ,?_⟩⟩,λrR=>⟨λw25=>⟨Sq3,Sq70,ζ,[.s 70,.b 1003],Sq71,ζ,Sq0,Sq72,ζ,[.s 72,.b 0],[.s 73,.b 0],ζ,⟨tv2,?_⟩,?_,λx26 w27=>⟨[.s 73,.b 1074],[.s 74,.b 1074],ζ,aa,[.s 71,.s 74,.b 80004,.b 1074,.b 1075],[.s 75,.b 1075,.b 80004],ζ,⟨⟨?_,?_⟩,?_,?_⟩,Sq3,Sq76,ζ,[.s 76,.s 75,.b 1003],[.b 1003],ζ,?_⟩⟩,λw28=>⟨λw29=>⟨⟨?_,?_,?_⟩,?_⟩,λw30=>⟨λw31=>⟨⟨?_,?_⟩,⟨?_,?_⟩,?_,?_⟩,λw32=>⟨⟨?_,?_⟩,?_,?_⟩⟩⟩⟩⟩⟩⟩⟩⟩⟩⟩⟩
 all_goals first|refine aw ?_|refine ax ?_|exact a8|(dsimp only [jD,pX,ba,ck,cS,ie,jC,pV];omega)|exact a7|exact hr1 _|exact hr2 _|exact hr.at hp0 (by omega)|(refine hr.at ?_ ?_<;>(dsimp only [jD,ba,dO,cS,fg,jC,qh,dC,ay.rows,ay.refs,ay.last,ay.gone,ay.dead,ay.cg] at * <;>omega))|(show aj.length≤1000000;omega)|(show ak.length≤1000000;omega)|(show an.length≤1000000;omega)|(show ah.length≤1000000;omega)|(show ai.length≤1000000;omega)|(show (8+x3.1).toNat<aj.length;have h:=pk (n:=6) (by decide) w4;omega)|(show (8+x3.1).toNat<ak.length;have h:=pk (n:=6) (by decide) w4;omega)|(show (8+x3.1).toNat<an.length;have h:=pk (n:=6) (by decide) w4;omega)|(show 8+x3.1<(aj.length:Int);have h:=pk (n:=6) (by decide) w4;omega)|(show 8+x3.1<(ak.length:Int);have h:=pk (n:=6) (by decide) w4;omega)|(show 8+x3.1<(an.length:Int);have h:=pk (n:=6) (by decide) w4;omega)|(show 0≤8+x3.1;have h:=pk (n:=6) (by decide) w4;omega)|(simp only [gK];have h:=pk (n:=6) (by decide) w4;omega)|(simp only [imax];have h:=pk (n:=6) (by decide) w4;omega)|(show gK≤ao-1;simp only [gK];omega)|(show ao-1≤imax;simp only [imax];omega)|(show gK≤ao+1;simp only [gK];omega)|(show ao+1≤imax;simp only [imax];omega)|(show 2<aj.length;omega)|(show (2:Int)<(aj.length:Int);omega)|(show (1:Int)≤(aj.length:Int);omega)|(show ah.length+1≤1048576;omega)|(show ai.length+1≤1048576;omega)|(show _<((List.length _:Nat):Int);dsimp only [jD,ba,dO,cS,fg,jC,qh,dC,ay.rows,ay.refs,ay.last,ay.gone,ay.dead,ay.cg,List.length_cons,List.length_nil] at *;omega)|(show Int.toNat _<_;dsimp only [jD,ba,dO,cS,fg,jC,qh,dC,ay.rows,ay.refs,ay.last,ay.gone,ay.dead,ay.cg,List.length_cons,List.length_nil] at *;omega)|(dsimp only [jD,ba,dO,cS,fg,jC,qh,dC,ay.rows,ay.refs,ay.last,ay.gone,ay.dead,ay.cg] at *;omega)|exact⟨(0,_),.inl rfl,rfl⟩|exact⟨(⟨#[]⟩,x5.2),(by show ((0:Nat):Int)≤9;decide),ZC1 _,(by show x5.2≤x5.2+1000;omega)⟩|exact⟨((0,0,0,0,0),x5.2),ZC1 _,(by show x5.2≤x5.2+1010;omega)⟩|skip
 ·refine⟨[80000,80001,80002,80003,80004],[],_,_,_,ζ,cf,((aj,ak,an,(nth ag [0,900,901] x8.1.toNat:Int),ah,aq,ai,ar),0,x8.2),⟨⟨(by show List.length ah≤20001;omega),(by show List.length ai≤20001;omega)⟩,⟨(by have e3:x3.2=rp+1:=w4.2;have e5:x5.2=x3.2+1:=w6.2;have e8:x8.2=x5.2+1:=w9.2;show rp≤x8.2;omega),(by have e3:x3.2=rp+1:=w4.2;have e5:x5.2=x3.2+1:=w6.2;have e8:x8.2=x5.2+1:=w9.2;show x8.2≤rp+1100;omega)⟩,ZA7 _⟩,ζ,ζ,ζ⟩
 ·refine⟨[80000,80001,80002,80003,80004],[],_,_,_,ζ,cf,((aj,ak,an,ao,ah,(nth ag [-1,ao,ao-1] x12.1.toNat:Int),ai,ar),0,x12.2),⟨⟨(by show List.length ah≤20001;omega),(by show List.length ai≤20001;omega)⟩,⟨(by have e3:x3.2=rp+1:=w4.2;have e5:x5.2=x3.2+1:=w6.2;have e8:x12.2=x5.2+1:=iU.2;show rp≤x12.2;omega),(by have e3:x3.2=rp+1:=w4.2;have e5:x5.2=x3.2+1:=w6.2;have e8:x12.2=x5.2+1:=iU.2;show x12.2≤rp+1100;omega)⟩,ZA7 _⟩,ζ,ζ,ζ⟩
 ·refine⟨[80000,80001,80002,80003,80004],[],_,_,_,ζ,cf,((aj.set (8+x3.1).toNat x16.1,ak,an,ao,ah,aq,ai,ar),0,x16.2),⟨⟨(by show List.length ah≤20001;omega),(by show List.length ai≤20001;omega)⟩,⟨(by have e3:x3.2=rp+1:=w4.2;have e5:x5.2=x3.2+1:=w6.2;have e8:x5.2≤x16.2∧x16.2≤x5.2+1000:=xh.2;show rp≤x16.2;omega),(by have e3:x3.2=rp+1:=w4.2;have e5:x5.2=x3.2+1:=w6.2;have e8:x5.2≤x16.2∧x16.2≤x5.2+1000:=xh.2;show x16.2≤rp+1100;omega)⟩,ZA7 _⟩,(by show _=dY (rb,rp) g' _;unfold dY;dsimp only [ay.rows,ay.refs,ay.last,ay.gone,ay.dead];simp only [ZC3,ZA0];rfl),ζ,ζ⟩
 ·refine⟨[80000,80001,80002,80003,80004],[],_,_,_,ζ,cf,((aj,ak.set (8+x3.1).toNat (nth ag ak (8+x3.1).toNat+1:Int),an,ao,ah,aq,ai,ar),0,x5.2),⟨⟨(by show List.length ah≤20001;omega),(by show List.length ai≤20001;omega)⟩,⟨(by have e3:x3.2=rp+1:=w4.2;have e5:x5.2=x3.2+1:=w6.2;show rp≤x5.2;omega),(by have e3:x3.2=rp+1:=w4.2;have e5:x5.2=x3.2+1:=w6.2;show x5.2≤rp+1100;omega)⟩,ZA7 _⟩,(by show _=dY (rb,rp) g' _;unfold dY;dsimp only [ay.rows,ay.refs,ay.last,ay.gone,ay.dead];simp only [ZC3,ZA0];rfl),ζ,ζ⟩
 ·refine⟨[80000,80001,80002,1066,80004],[],_,_,_,ζ,cf,((aj,ak,an,ao,ah++[x22.1],aq,ai,ar),0,x22.2),⟨⟨(by show List.length (ah++[x22.1])≤20001;rw [ZA0];show ah.length+1≤20001;omega),(by show List.length ai≤20001;omega)⟩,⟨(by have e3:x3.2=rp+1:=w4.2;have e5:x5.2=x3.2+1:=w6.2;have e8:x5.2≤x22.2∧x22.2≤x5.2+1010:=xK;show rp≤x22.2;omega),(by have e3:x3.2=rp+1:=w4.2;have e5:x5.2=x3.2+1:=w6.2;have e8:x5.2≤x22.2∧x22.2≤x5.2+1010:=xK;show x22.2≤rp+1100;omega)⟩,ZA7 _⟩,(by show _=dY (rb,rp) g' _;unfold dY;dsimp only [ay.rows,ay.refs,ay.last,ay.gone,ay.dead];simp only [ZC3,ZA0];rfl),ζ,ζ⟩
 ·refine⟨[80000,80001,80002,80003,1075],[],_,_,_,ζ,cf,((aj,ak,an,ao,ah,aq,ai++[x26.1],ar),0,x26.2),⟨⟨(by show List.length ah≤20001;omega),(by show List.length (ai++[x26.1])≤20001;rw [ZA0];show ai.length+1≤20001;omega)⟩,⟨(by have e3:x3.2=rp+1:=w4.2;have e5:x5.2=x3.2+1:=w6.2;have e8:x5.2≤x26.2∧x26.2≤x5.2+1010:=w27;show rp≤x26.2;omega),(by have e3:x3.2=rp+1:=w4.2;have e5:x5.2=x3.2+1:=w6.2;have e8:x5.2≤x26.2∧x26.2≤x5.2+1010:=w27;show x26.2≤rp+1100;omega)⟩,ZA7 _⟩,(by show _=dY (rb,rp) g' _;unfold dY;dsimp only [ay.rows,ay.refs,ay.last,ay.gone,ay.dead];simp only [ZC3,ZA0];rfl),ζ,ζ⟩
 ·refine⟨[80000,80001,80002,80003,80004],[],_,_,_,ζ,cf,(g',1,x5.2),⟨⟨(by show List.length ah≤20001;omega),(by show List.length ai≤20001;omega)⟩,⟨(by have e3:x3.2=rp+1:=w4.2;have e5:x5.2=x3.2+1:=w6.2;show rp≤x5.2;omega),(by have e3:x3.2=rp+1:=w4.2;have e5:x5.2=x3.2+1:=w6.2;show x5.2≤rp+1100;omega)⟩,(by show 1≤aj.length;omega)⟩,ζ,ζ,ζ⟩
 ·refine⟨[80000,80001,80002,80003,80004],[],_,_,_,ζ,cf,((aj,ak,an.set (8+x3.1).toNat (ao+1),ao,ah,aq,ai,ar),0,x5.2),⟨⟨(by show List.length ah≤20001;omega),(by show List.length ai≤20001;omega)⟩,⟨(by have e3:x3.2=rp+1:=w4.2;have e5:x5.2=x3.2+1:=w6.2;show rp≤x5.2;omega),(by have e3:x3.2=rp+1:=w4.2;have e5:x5.2=x3.2+1:=w6.2;show x5.2≤rp+1100;omega)⟩,ZA7 _⟩,(by show _=dY (rb,rp) g' _;unfold dY;dsimp only [ay.rows,ay.refs,ay.last,ay.gone,ay.dead];simp only [ZC3,ZA0];rfl),ζ,ζ⟩
 ·refine⟨[80000,80001,80002,80003,80004],[],_,_,_,ζ,cf,((aj.set 2 ⟨#[108,111,119]⟩,ak,an,ao,ah,aq,ai,ar),0,x5.2),⟨⟨(by show List.length ah≤20001;omega),(by show List.length ai≤20001;omega)⟩,⟨(by have e3:x3.2=rp+1:=w4.2;have e5:x5.2=x3.2+1:=w6.2;show rp≤x5.2;omega),(by have e3:x3.2=rp+1:=w4.2;have e5:x5.2=x3.2+1:=w6.2;show x5.2≤rp+1100;omega)⟩,ZA7 _⟩,(by show _=dY (rb,rp) g' _;unfold dY;dsimp only [ay.rows,ay.refs,ay.last,ay.gone,ay.dead];simp only [ZC3,ZA0];rfl),ζ,ζ⟩
