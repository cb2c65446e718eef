/- Part 48 of A drawn law. -/
import Derived.Test.YtkgpljpmdkflmaaGreatDoorPbu
set_option maxHeartbeats 20000000
set_option maxRecDepth 100000
set_option linter.all false
namespace Go.Proofs.YtkgpljpmdkflmaaGreatDoor
namespace GL
noncomputable section
structure anp (l:List Int):Prop where
 jL:∀b∈l,0≤b∧b≤255
theorem aom (s:ay) (a b:bf) (h:(anA s a b).2=true):(anA s b a).2=true∧(anA s a a).2=true∧(anA s b a).1=(anA s a b).1∧(anA s a a).1+(anP (pA s a).1:Int)=a.many∧(anA s a b).1≤a.many∧(anA s a b).1≤b.many∧((pA s a).1.length:Int)=a.many∧0≤(anA s a a).1∧(anA s a a).1≤a.many:=by
 have h1:(pA s a).2=true:=by
  cases h1:(pA s a).2 with
  |true=>rfl
  |false=>rw [anJ (.inl h1)] at h;cases h
 have h2:(pA s b).2=true:=by
  cases h2:(pA s b).2 with
  |true=>rfl
  |false=>rw [anJ (.inr h2)] at h;cases h
 rw [anN h1 h2,anN h2 h1,anN h1 h1]
 have ha:=(aoE h1).1
 have hb:=(aoE h2).1
 have h3:=an3 (pA s a).1
 have h4:=anK (pA s a).1 (pA s b).1
 have h5:=anK (pA s a).1 (pA s a).1
 refine⟨rfl,rfl,by rw [an2],?_,?_,?_,ha,Int.natCast_nonneg _,?_⟩
 ·show ((anx (pA s a).1 (pA s a).1:Nat):Int)+(anP (pA s a).1:Int)=_;omega
 ·show ((anx (pA s a).1 (pA s b).1:Nat):Int)≤_;omega
 ·show ((anx (pA s a).1 (pA s b).1:Nat):Int)≤_;omega
 ·show ((anx (pA s a).1 (pA s a).1:Nat):Int)≤_;omega
def anG (c:List Int):Prop:=aj5 c
def anV (c:List Int) (z:ay×Nat×bf×bf):Prop:=(z.1.gone.length≤1000000∧z.1.dead.length≤1000000)∧z.2.1≤z.1.rows.length
def anU (c:List Int) (z:ay×Nat×bf×bf):AV:=.t [.a [.xs 0 1 z.2.1 (z.1.rows.length-z.2.1),.xs 1 1 0 z.1.refs.length,.xs 2 1 0 z.1.last.length,.int z.1.cj,.xs 3 5 0 z.1.gone.length,.int z.1.ca,.xs 4 5 0 z.1.dead.length,.q z.1.same],trA z.2.2.1,trA z.2.2.2]
def an0 (c:List Int) (z:ay×Nat×bf×bf):List AV:=[.rs ab z.1.rows,.rs ag z.1.refs,.rs ag z.1.last,.rs ae z.1.gone,.rs ae z.1.dead]
def anF:ct where
 A:=[.s (.vw mj)]
 B:=[]
 pre:=fun x b=>anG x
 α:=fun _ _=>ay×Nat×bf×bf
 φ:=fun x b z=>anV x z
 r:=fun x b z=>anU x z
 o:=fun x b z=>an0 x z
 nf:=5
theorem anS:Has Tryz.prog 33 anF:=by
 refine Has.fu zT zF zF (l:=[(57,afc),(29,anQ)]) ⟨ai0,an9,aa⟩ Tryz.func33 ?_
 rintro (c:List Int) _ (hp:anG c)
 show vc _ _ _ _ (entry [.s (.vw mj c)] []) _
 have hb:aj5 c:=hp
 refine⟨⟨⟨aa,aa⟩,?_⟩,fun x1 w2=>⟨⟨⟨aa,aa⟩,?_⟩,fun x3 w4=>⟨[.s 6,.b 1006],Sq18,rfl,[.s 7,.b 1007],Sq19,rfl,[.s 8,.b 1008],Sq20,rfl,[.s 2,.s 18,.b 1002],[.b 1002],rfl,[.s 3,.s 19,.b 1003],[.b 1003],rfl,[.s 4,.s 20,.b 1004],[.b 1004],rfl,?_⟩⟩⟩
 all_goals first|refine aw ?_|refine ax ?_|exact a8|(dsimp only [afc,G6,anQ,anL];omega)|exact a7|exact hb|skip
 ·refine⟨[140000,140001,140002,140003,140004],[],_,_,_,rfl,cg,x3,w4,rfl,rfl,rfl⟩
theorem amZ (s:ay) (t:bf):(pA s t).1.length≤16:=by
 cases h:(pA s t).2 with
 |true=>exact amE h
 |false=>
  rw [YG] at h
  rw [amY h];exact ZA7 _
structure aoD (X:List Pt) (m0:Int) (i:Nat) (m:Int):Prop where
 x:i≤X.length
 m:m=m0+(anP (X.take i):Int)
theorem aoD.z (X:List Pt) (m0:Int):aoD X m0 0 m0:=⟨ZA7 _,(Int.add_zero _).symm⟩
theorem aoD.hit {X:List Pt}{m0 m:Int}{i:Nat}(h:aoD X m0 i m) (h1:i<X.length) (hp:au (nth ae X i)=true):aoD X m0 (i+1) (m+1):=
 ⟨h1,by rw [h.m];unfold anP;rw [GA h1,List.countP_append];simp [hp];omega⟩
theorem aoD.mi {X:List Pt}{m0 m:Int}{i:Nat}(h:aoD X m0 i m) (h1:i<X.length) (hp:au (nth ae X i)=false):aoD X m0 (i+1) m:=
 ⟨h1,by rw [h.m];unfold anP;rw [GA h1,List.countP_append];simp [hp]⟩
theorem aoD.aow {X:List Pt}{m0 m:Int}{i:Nat}(h:aoD X m0 i m) (hx:X.length≤16):m0≤m∧m≤m0+16:=by
 have h1:anP (X.take i)≤(X.take i).length:=List.countP_le_length ..
 rw [ZC0] at h1
 have:=h.m;omega
theorem aoD.fin {X:List Pt}{m0 m:Int}{i:Nat}(h:aoD X m0 i m) (hi:¬i<X.length):m=m0+(anP X:Int):=by
 have:=h.m
 rwa [ZD1 (by omega)] at this
def anR (c:List Int):Prop:=anp c
def anD (c:List Int):AV:=.s (.q true)
def an7 (c:List Int):List AV:=[]
def aod:ct where
 A:=[.s (.vw mj)]
 B:=[]
 pre:=fun x b=>anR x
 r:=fun x b _=>anD x
 o:=fun x b _=>an7 x
theorem aoc:Has Tryz.prog 7 aod:=by
 refine Has.zC zT zF (fun d=>d==31||d==38||d==60||d==67||d==73) (l:=[(33,anF),(34,anI),(35,anO),(15,amI),(23,bH)]) ⟨anS,anW,an4,am6,eP,aa⟩ Tryz.func7 ?_
 rintro (c:List Int) _ (hp:anR c)
 show vc _ _ _ _ (entry [.s (.vw mj c)] []) _
 have hb:anp c:=hp
 refine⟨fun w1=>?_,fun w2=>⟨⟨⟨aa,aa⟩,?_⟩,fun x3 w4=>⟨⟨⟨⟨?_,?_,?_,aa,?_,aa,?_,aa,aa⟩,⟨aa,aa,aa,aa,aa,aa,aa,aa⟩,⟨aa,aa,aa,aa,aa,aa,aa,aa⟩,aa⟩,?_,?_⟩,fun x5 w6=>⟨⟨⟨⟨?_,?_,?_,aa,?_,aa,?_,aa,aa⟩,⟨aa,aa,aa,aa,aa,aa,aa,aa⟩,⟨aa,aa,aa,aa,aa,aa,aa,aa⟩,aa⟩,?_,?_⟩,fun x7 w8=>⟨aa,fun w9=>⟨aa,fun dy=>?_,fun kC=>⟨fun dK=>?_,fun iV=>⟨⟨⟨⟨?_,?_,?_,aa,?_,aa,?_,aa,aa⟩,⟨aa,aa,aa,aa,aa,aa,aa,aa⟩,⟨aa,aa,aa,aa,aa,aa,aa,aa⟩,aa⟩,?_,?_⟩,fun x14 qN=>⟨⟨⟨⟨?_,?_,?_,aa,?_,aa,?_,aa,aa⟩,⟨aa,aa,aa,aa,aa,aa,aa,aa⟩,⟨aa,aa,aa,aa,aa,aa,aa,aa⟩,aa⟩,?_,?_⟩,fun x16 xk=>⟨⟨⟨⟨?_,?_,?_,aa,?_,aa,?_,aa,aa⟩,⟨aa,aa,aa,aa,aa,aa,aa,aa⟩,aa⟩,?_,?_⟩,fun qK oN=>?_⟩⟩⟩⟩⟩,fun uL=>⟨aa,fun A4=>?_,fun A3=>⟨fun xM=>?_,fun rU=>⟨⟨⟨⟨?_,?_,?_,aa,?_,aa,?_,aa,aa⟩,⟨aa,aa,aa,aa,aa,aa,aa,aa⟩,⟨aa,aa,aa,aa,aa,aa,aa,aa⟩,aa⟩,?_,?_⟩,fun x25 w26=>⟨⟨⟨⟨?_,?_,?_,aa,?_,aa,?_,aa,aa⟩,⟨aa,aa,aa,aa,aa,aa,aa,aa⟩,⟨aa,aa,aa,aa,aa,aa,aa,aa⟩,aa⟩,?_,?_⟩,fun x27 w28=>⟨⟨⟨⟨?_,?_,?_,aa,?_,aa,?_,aa,aa⟩,⟨aa,aa,aa,aa,aa,aa,aa,aa⟩,aa⟩,?_,?_⟩,fun x29 w30=>?_⟩⟩⟩⟩⟩⟩⟩⟩⟩⟩
 all_goals first|refine aw ?_|refine ax ?_|exact a8|(dsimp only [anF,anG,anI,anH,anO,anM,amI,amC,bH,cc];omega)|exact a7|(show x3.2.1+(x3.1.rows.length-x3.2.1)≤x3.1.rows.length;have h:x3.2.1≤x3.1.rows.length:=w4.2;omega)|exact ZB0 (an1 x3.1 x3.2.1).1 w4.1.1|exact ZB0 (an1 x3.1 x3.2.1).2 w4.1.2|skip
 ·refine⟨[],[],_,_,_,rfl,az,(),aa,?_,?_,rfl⟩
  ·(show _=anD c);unfold anD;first|rfl
  ·rfl
 ·have h:=aA (p:=(c.length:Int)>1048576) w2
  exact (aj5.mk (l:=c) (by omega) hb.jL)
 ·exact absurd (show (!((anA (anz x3.1 x3.2.1) x3.2.2.1 x3.2.2.2).2==(anA (anz x3.1 x3.2.1) x3.2.2.1 x3.2.2.2).2))=true from dy) (by simp)
 ·refine⟨[],[],_,_,_,rfl,az,(),aa,?_,?_,rfl⟩
  ·show AV.q _=anD c;unfold anD;refine congrArg AV.q ?_;simp
  ·rfl
 ·have hL:=aom (anz x3.1 x3.2.1) x3.2.2.1 x3.2.2.2 (cM iV)
  have h16:=amZ (anz x3.1 x3.2.1) x3.2.2.1
  refine l4 (l:=[(33,anF),(34,anI),(35,anO),(15,amI),(23,bH)]) (ex:=zT) (wr:=zF) (pt:=fun d=>d==31||d==38||d==60||d==67||d==73) ⟨anS,anW,an4,am6,eP,aa⟩ [.s 4,.s 5,.s 6,.s 11,.s 12,.s 14,.s 15,.b 1004,.b 1005] (fun y:Nat×Int=>[(.s 17,.int y.1),(.s 13,.int y.2)]) (fun y=>aoD (pA (anz x3.1 x3.2.1) x3.2.2.1).1 (anA (anz x3.1 x3.2.1) x3.2.2.1 x3.2.2.1).1 y.1 y.2) (fun y=>(pA (anz x3.1 x3.2.1) x3.2.2.1).1.length-y.1) (0,(anA (anz x3.1 x3.2.1) x3.2.2.1 x3.2.2.1).1) [] (aoD.z _ _) dN ?_
  rintro⟨i,m⟩ (hI:aoD (pA (anz x3.1 x3.2.1) x3.2.2.1).1 (anA (anz x3.1 x3.2.1) x3.2.2.1 x3.2.2.1).1 i m)
  have hbd:=hI.aow h16
  have hi:=hI.x
  have hb:=hL.2.2.2.2.2.2.2
  refine⟨fun w1=>⟨⟨?_,?_⟩,⟨⟨⟨aa,aa,aa,aa,aa,aa⟩,aa⟩,aa⟩,fun x2 w3=>⟨fun w4=>⟨⟨?_,?_⟩,⟨?_,?_⟩,?_⟩,fun w5=>⟨⟨?_,?_⟩,?_⟩⟩⟩,fun w6=>⟨aa,fun w7=>⟨aa,fun w8=>⟨aa,fun w9=>⟨aa,fun dy=>⟨aa,fun kC=>?_,fun dK=>?_⟩,fun iV=>?_⟩,fun gP=>?_⟩,fun qN=>?_⟩,fun ki=>?_⟩⟩
  all_goals first|refine aw ?_|refine ax ?_|exact a8|(dsimp only [anF,anG,anI,anH,anO,anM,amI,amC,bH,cc];omega)|exact a7|exact aJ w1|(unfold gL;omega)|(unfold imax;omega)|skip
  ·refine⟨(i+1,m+1),[],?_,?_,?_⟩
   rotate_right
   ·exact bW
   ·exact hI.hit (aox w1) w4
   ·exact Nat.sub_succ_lt_self _ _ (aox w1)
  ·refine⟨(i+1,m),[],?_,?_,?_⟩
   rotate_right
   ·exact bW
   ·exact hI.mi (aox w1) w5
   ·exact Nat.sub_succ_lt_self _ _ (aox w1)
  ·refine⟨[],[],_,_,_,rfl,az,(),aa,?_,?_,rfl⟩
   ·show AV.q _=anD c;unfold anD;refine congrArg AV.q ?_;exact decide_eq_true hL.2.2.2.2.2.1
   ·rfl
  ·exact absurd hL.2.2.2.2.1 (aA dK)
  ·exact absurd ((hI.fin (aoz w6)).trans hL.2.2.2.1) (aA iV)
  ·exact absurd hL.2.2.1 (aA gP)
  ·exact absurd (hL.2.1.symm.trans qN) (by decide)
  ·exact absurd (hL.1.symm.trans ki) (by decide)
 all_goals exact absurd rfl (aA uL)
end
end GL
end Go.Proofs.YtkgpljpmdkflmaaGreatDoor
