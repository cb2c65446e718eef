/- A drawn law returns true for every code (its row lists package variables, tied by the card): part 33. -/
import Derived.Test.YtkgpljpmdkflmaaGreatDoorPaw
import Derived.Test.YtkgpljpmdkflmaaGreatDoorPay
set_option maxHeartbeats 20000000
set_option maxRecDepth 100000
set_option linter.all false
namespace Go.Proofs.YtkgpljpmdkflmaaGreatDoor
namespace GL
structure Rdr (r:List Int×Int) (n:Int):Prop where
 len:r.1.length≤2000
 jL:∀b∈r.1,0≤b∧b≤255
 p0:0≤r.2
 p1:r.2≤n
abbrev byteOf (l:List Int) (k:Nat):Int:=nth mj l k
def cm (r:List Int×Int) (n:Int):Prop:=Rdr r 1000000∧n≤1000000
def dP (r:List Int×Int) (n:Int) (z:Int×Int):Prop:=(z.1=0∨(0≤z.1∧z.1<n))∧z.2=r.2+1
def KO (r:List Int×Int) (n:Int) (z:Int×Int):AV:=.s (.int z.1)
def OK (r:List Int×Int) (n:Int) (z:Int×Int):List AV:=[.a [.vw mj r.1,.int z.2]]
def ba:ct where
 A:=[.b 0,.s .int]
 B:=[.a [.vw mj,.int]]
 pre:=fun x b=>cm b (x.2)
 α:=fun _ _=>Int×Int
 φ:=fun x b z=>dP b (x.2) z
 r:=fun x b z=>KO b (x.2) z
 o:=fun x b z=>OK b (x.2) z
theorem dh:Has Tryz.prog 70 ba:=by
 refine Has.fu zT zF zF (l:=[]) trivial Tryz.func70 ?_
 rintro⟨_,(n:Int)⟩ ⟨(rb:List Int),(rp:Int)⟩ (hp:cm (rb,rp) n)
 show vc _ _ _ _ (entry [.s (.bp 0 0),.int n] [.a [.vw mj rb,.int rp]]) _
 obtain⟨hr,(hn:n≤1000000)⟩:=hp
 have hp0:0≤rp:=hr.p0
 have hp1:rp≤1000000:=hr.p1
 have hnb:∀k,0≤byteOf rb k∧byteOf rb k≤255:=fun k=>by
  by_cases hk:k<rb.length
  ·exact hr.jL _ (bS (ek:=mj) hk)
  ·show 0≤nth mj rb k∧nth mj rb k≤255;unfold nth;rw [ZD8 (by omega)];exact⟨ZC1 _,by decide⟩
 have hlp:decide ((rb.length:Int)=0)=false→0<(rb.length:Int):=fun h=>by have:=aA h;omega
 have hnp:decide (n<1)=false→0<n:=fun h=>by have:=aA h;omega
 have hnc:∀k,(0:Int)≤nth mj rb k∧(nth mj rb k:Int)≤(255:Int):=hnb
 have c1:=hnc (rp+1-1).toNat
 have c2:=hnc ((rp+1-1) % (rb.length:Int)).toNat
 have c3:=hnc (((rp+1-1)*7+3) % (rb.length:Int)).toNat
 have a1:=hnb (rp+1-1).toNat
 have a2:=hnb ((rp+1-1) % (rb.length:Int)).toNat
 have a3:=hnb (((rp+1-1)*7+3) % (rb.length:Int)).toNat
 have hl2:rb.length≤2000:=hr.len
 have a4:decide ((rb.length:Int)=0)=false→0≤(rp+1-1) / (rb.length:Int)∧(rp+1-1) / (rb.length:Int)≤rp+1-1:=fun h=>⟨Int.ediv_nonneg (by omega) (Int.le_of_lt (hlp h)),Int.ediv_le_self _ (by omega)⟩
 refine⟨⟨?_,?_⟩,aa,fun w1=>?_,fun w2=>⟨fun w3=>?_,fun w4=>⟨⟨?_,?_⟩,fun w5=>⟨⟨?_,?_⟩,⟨?_,?_⟩,⟨?_,?_⟩,?_⟩,fun w6=>⟨Sq0,Sq47,rfl,Sq47,Sq48,rfl,Sq48,Sq49,rfl,[.s 49,.b 0],Sq50,rfl,Sq5,Sq51,rfl,Sq0,Sq52,rfl,Sq52,Sq53,rfl,Sq53,Sq54,rfl,[.s 54,.b 0],Sq55,rfl,Sq55,Sq56,rfl,[.s 51,.s 56],Sq57,rfl,⟨?_,?_⟩,[.s 50,.s 57],Sq58,rfl,⟨?_,?_⟩,Sq58,Sq59,rfl,Sq59,Sq60,rfl,⟨?_,?_⟩,Sq60,Sq61,rfl,⟨?_,?_⟩,Sq0,Sq62,rfl,Sq62,Sq63,rfl,Sq63,Sq64,rfl,[.s 64,.b 0],Sq65,rfl,Sq5,Sq66,rfl,Sq66,Sq67,rfl,⟨?_,?_⟩,Sq67,Sq68,rfl,⟨?_,?_⟩,Sq0,Sq69,rfl,Sq69,Sq70,rfl,Sq70,Sq71,rfl,[.s 71,.b 0],Sq72,rfl,Sq72,Sq73,rfl,[.s 68,.s 73],Sq74,rfl,⟨?_,?_⟩,[.s 65,.s 74],Sq75,rfl,⟨?_,?_⟩,Sq75,Sq76,rfl,Sq76,Sq77,rfl,⟨?_,?_⟩,Sq77,Sq78,rfl,⟨?_,?_⟩,[.s 61,.s 78],Sq79,rfl,⟨?_,?_⟩,Sq5,Sq80,rfl,Sq80,Sq81,rfl,⟨?_,?_⟩,[.s 79,.s 81],Sq82,rfl,⟨?_,?_⟩,Sq5,Sq83,rfl,Sq0,Sq84,rfl,Sq84,Sq85,rfl,Sq85,Sq86,rfl,[.s 86,.b 0],Sq87,rfl,Sq87,Sq88,rfl,[.s 83,.s 88],Sq89,rfl,⟨?_,?_,?_⟩,Sq89,Sq90,rfl,⟨?_,?_⟩,[.s 82,.s 90],Sq91,rfl,⟨?_,?_⟩,Sq91,Sq6,rfl,⟨?_,?_,?_⟩,⟨?_,?_,?_,?_⟩,⟨?_,?_⟩,?_⟩⟩⟩⟩
 all_goals first|refine aw ?_|refine ax ?_|exact a8|exact a7|exact Int.emod_nonneg _ (Int.ne_of_gt (hlp w4))|exact Int.emod_lt_of_pos _ (hlp w4)|(simp only [gL,imax];omega)|(simp only [gL,imax];have:=a4 w4;omega)|exact a1.1|exact aJ w5|exact ZE0 a1.2 (by decide)|exact ZE0 a2.2 (by decide)|exact ZE0 a3.2 (by decide)|(show byteOf rb ((rp+1-1) % (rb.length:Int)).toNat*131≤imax;unfold imax;omega)|(show byteOf rb (((rp+1-1)*7+3) % (rb.length:Int)).toNat*1117≤imax;unfold imax;omega)|(show byteOf rb ((rp+1-1) % (rb.length:Int)).toNat*131+byteOf rb (((rp+1-1)*7+3) % (rb.length:Int)).toNat*1117≤imax;unfold imax;omega)|(have:=a4 w4;show (byteOf rb ((rp+1-1) % (rb.length:Int)).toNat*131+byteOf rb (((rp+1-1)*7+3) % (rb.length:Int)).toNat*1117+(rp+1-1)*29+(rp+1-1) / (rb.length:Int)*53) / 64≤imax;unfold imax;omega)|skip
 ·refine⟨[],[],_,_,_,rfl,cg,(0,rp+1),⟨.inl rfl,rfl⟩,rfl,rfl,rfl⟩
 ·refine⟨[],[],_,_,_,rfl,cg,(0,rp+1),⟨.inl rfl,rfl⟩,rfl,rfl,rfl⟩
 ·refine⟨[],[],_,_,_,rfl,cg,(byteOf rb (rp+1-1).toNat % n,rp+1),⟨.inr ⟨Int.emod_nonneg _ (Int.ne_of_gt (hnp w2)),Int.emod_lt_of_pos _ (hnp w2)⟩,rfl⟩,rfl,rfl,rfl⟩
 all_goals first
  |(have:=a4 w4;have h:(byteOf rb ((rp+1-1) % (rb.length:Int)).toNat*131+byteOf rb (((rp+1-1)*7+3) % (rb.length:Int)).toNat*1117+(rp+1-1)*29+(rp+1-1) / (rb.length:Int)*53)≤imax:=by unfold imax;omega
    exact h)
  |(have:=a4 w4;have h:(byteOf rb ((rp+1-1) % (rb.length:Int)).toNat*131+byteOf rb (((rp+1-1)*7+3) % (rb.length:Int)).toNat*1117+(rp+1-1)*29+(rp+1-1) / (rb.length:Int)*53) / 64≤imax:=by unfold imax;omega
    exact h)
  |(have h:byteOf rb ((rp+1-1) % (rb.length:Int)).toNat*131+byteOf rb (((rp+1-1)*7+3) % (rb.length:Int)).toNat*1117+(rp+1-1)*29≤imax:=by unfold imax;omega
    exact h)
  |skip
 ·have hx:=hnp w2
  refine⟨[],[],_,_,_,rfl,az,(_,rp+1),⟨.inr ⟨?_,?_⟩,rfl⟩,rfl,rfl,rfl⟩
  ·exact Int.emod_nonneg _ (Int.ne_of_gt hx)
  ·exact Int.emod_lt_of_pos _ hx
def ie (r:List Int×Int) (n:Int):Prop:=Rdr r 990000∧0≤n∧n≤100
def fh (r:List Int×Int) (n:Int) (z:ByteArray×Int):Prop:=(z.1.size:Int)≤n∧r.2≤z.2∧z.2≤r.2+1000
def QW (r:List Int×Int) (n:Int) (z:ByteArray×Int):AV:=.s (.str z.1)
def VV (r:List Int×Int) (n:Int) (z:ByteArray×Int):List AV:=[.a [.vw mj r.1,.int z.2]]
def cT:ct where
 A:=[.b 0,.s .int]
 B:=[.a [.vw mj,.int]]
 pre:=fun x b=>ie b (x.2)
 α:=fun _ _=>ByteArray×Int
 φ:=fun x b z=>fh b (x.2) z
 r:=fun x b z=>QW b (x.2) z
 o:=fun x b z=>VV b (x.2) z
theorem pe:Has Tryz.prog 76 cT:=by
 refine Has.fu (fun d=> !(Nat.beq d 40)) zF zF (l:=[(70,ba)]) ⟨dh,aa⟩ Tryz.func76 ?_
 rintro⟨_,(n:Int)⟩ ⟨(rb:List Int),(rp:Int)⟩ (hp:ie (rb,rp) n)
 show vc _ _ _ _ (entry [.s (.bp 0 0),.int n] [.a [.vw mj rb,.int rp]]) _
 obtain⟨hr,(hn0:0≤n),(hn1:n≤100)⟩:=hp
 have hp0:0≤rp:=hr.p0
 have hp1:rp≤990000:=hr.p1
 have dG:∀p:Int,0≤p→p≤1000000→Rdr (rb,p) 1000000:=fun p h0 h1=>⟨hr.len,hr.jL,h0,h1⟩
 refine⟨aa,⟨?_,?_⟩,⟨⟨aa,aa,aa⟩,?_,?_⟩,fun x1 w2=>⟨⟨⟨aa,aa,aa⟩,?_,?_⟩,fun x3 w4=>?_⟩⟩
 all_goals first|refine aw ?_|refine ax ?_|exact a8|(dsimp only [ba,cm];omega)|exact a7|skip
 ·exact dG rp hp0 (by omega)
 ·have e1:x1.2=rp+1:=w2.2
  exact dG x1.2 (by omega) (by omega)
 ·obtain⟨mv,p1⟩:=x1
  obtain⟨kv,p2⟩:=x3
  have e1:p1=rp+1:=w2.2
  have e2:p2=p1+1:=w4.2
  have hm:mv=0∨(0≤mv∧mv<n+1):=w2.1
  refine cO (l:=[(70,ba)]) (ex:=fun d=> !(Nat.beq d 40)) (wr:=zF) (pt:=zF) ⟨dh,trivial⟩ [.s 0,.s 1,.s 6,.s 7] (fun y:List Int×Int=>[(.s 5,.s (.xs 1010 1 0 y.1.length)),(.b 1010,.rs mj y.1),(.b 0,.a [.vw mj rb,.int y.2])]) (fun y=>y.1.length≤mv.toNat∧rp≤y.2∧y.2≤rp+2+3*(y.1.length:Int)) (fun y=>mv.toNat-y.1.length) ([],p2) [] ⟨ZA7 _,by show rp≤p2;omega,by show p2≤rp+2+3*((0:Nat):Int);omega⟩ dN ?_
  rintro⟨out,p⟩ ⟨(ho:out.length≤mv.toNat),(hq0:rp≤p),(hq1:p≤rp+2+3*(out.length:Int))⟩
  refine⟨fun w1=>⟨fun w2=>⟨⟨⟨aa,aa,aa⟩,?_,?_⟩,fun x3 w4=>⟨⟨?_,?_⟩,aa,⟨⟨?_,?_⟩,?_,?_⟩,?_⟩⟩,fun w5=>⟨fun w6=>⟨⟨aa,⟨?_,?_⟩,⟨?_,?_⟩,⟨?_,?_⟩,⟨?_,?_⟩,⟨?_,?_⟩,⟨?_,?_⟩,⟨?_,?_⟩,aa⟩,?_,⟨⟨aa,aa,aa⟩,?_,?_⟩,fun x7 w8=>⟨⟨?_,?_⟩,aa,fun x9 dy=>⟨aa,⟨⟨?_,?_⟩,?_,?_⟩,?_⟩⟩⟩,fun kC=>⟨fun dK=>⟨⟨⟨aa,aa,aa⟩,?_,?_⟩,fun rZ gP=>⟨⟨?_,?_⟩,⟨?_,?_⟩,⟨⟨aa,aa,aa⟩,?_,?_⟩,fun kA ki=>?_⟩⟩,fun xk=>⟨⟨⟨aa,aa,aa⟩,?_,?_⟩,fun qK oN=>⟨⟨?_,?_⟩,⟨?_,?_⟩,aa,⟨⟨?_,?_⟩,?_,?_⟩,?_⟩⟩⟩⟩⟩,fun uL=>⟨⟨?_,?_⟩,?_⟩⟩
  all_goals first|refine aw ?_|refine ax ?_|exact a8|(dsimp only [ba,cm];omega)|exact a7|exact dG p (by omega) (by omega)|decide|skip
  ·have h:x3.1=0∨(0≤x3.1∧x3.1<256):=w4.1
   show 0≤x3.1;omega
  ·have h:x3.1=0∨(0≤x3.1∧x3.1<256):=w4.1
   show x3.1≤255;omega
  ·have hl:=aJ (p:=(out.length:Int)<mv) w1
   have e3:x3.2=p+1:=w4.2
   have hlen:(out++[x3.1]).length=out.length+1:=by rw [ZA0];rfl
   refine⟨(out++[x3.1],x3.2),[(1010,1036)],?_,?_,?_⟩
   rotate_right
   ·exact bW
   ·exact⟨by show (out++[x3.1]).length≤mv.toNat;omega,by show rp≤x3.2;omega,by show x3.2≤rp+2+3*((out++[x3.1]).length:Int);omega⟩
   ·show mv.toNat-(out++[x3.1]).length<mv.toNat-out.length;omega
  ·have h:x7.1=0∨(0≤x7.1∧x7.1<7):=w8.1
   show 0≤x7.1;omega
  ·have h:x7.1=0∨(0≤x7.1∧x7.1<7):=w8.1
   show x7.1<7;omega
  ·have hl:=aJ (p:=(out.length:Int)<mv) w1
   have e3:x7.2=p+1:=w8.2
   have hlen:(out++[x9]).length=out.length+1:=by rw [ZA0];rfl
   refine⟨(out++[x9],x7.2),[(1010,1047)],?_,?_,?_⟩
   rotate_right
   ·exact bW
   ·exact⟨by show (out++[x9]).length≤mv.toNat;omega,by show rp≤x7.2;omega,by show x7.2≤rp+2+3*((out++[x9]).length:Int);omega⟩
   ·show mv.toNat-(out++[x9]).length<mv.toNat-out.length;omega
  ·have h:rZ.1=0∨(0≤rZ.1∧rZ.1<3):=gP.1
   show gL≤97+rZ.1;unfold gL;omega
  ·have h:rZ.1=0∨(0≤rZ.1∧rZ.1<3):=gP.1
   show 97+rZ.1≤imax;unfold imax;omega
  ·have h:rZ.1=0∨(0≤rZ.1∧rZ.1<3):=gP.1
   show 0≤97+rZ.1;omega
  ·have h:rZ.1=0∨(0≤rZ.1∧rZ.1<3):=gP.1
   show 97+rZ.1≤255;omega
  ·have e3:rZ.2=p+1:=gP.2
   exact dG rZ.2 (by omega) (by omega)
  ·have hl:=aJ (p:=(out.length:Int)<mv) w1
   have e3:rZ.2=p+1:=gP.2
   have e4:kA.2=rZ.2+1:=ki.2
   have h5:kA.1=0∨(0≤kA.1∧kA.1<6):=ki.1
   refine cO (l:=[(70,ba)]) (ex:=fun d=> !(Nat.beq d 40)) (wr:=zF) (pt:=zF) ⟨dh,trivial⟩ [.s 0,.s 1,.s 6,.s 7,.s 8,.b 0] (fun y:List Int×Int=>[(.s 5,.s (.xs 1010 1 0 y.1.length)),(.s 9,.int y.2),(.b 1010,.rs mj y.1)]) (fun y=>y.1.length≤mv.toNat∧(out.length+1≤y.1.length∨(y.1.length=out.length∧0≤y.2))∧-1≤y.2∧y.2≤6) (fun y=>(y.2+1).toNat) (out,kA.1) [] ⟨ho,.inr ⟨rfl,by show 0≤kA.1;omega⟩,by show -1≤kA.1;omega,by show kA.1≤6;omega⟩ dN ?_
   rintro⟨o2,k⟩ ⟨(g1:o2.length≤mv.toNat),(g2:out.length+1≤o2.length∨(o2.length=out.length∧0≤k)),(g3: -1≤k),(g4:k≤6)⟩
   have hlen:∀z:Int,(o2++[z]).length=o2.length+1:=fun z=>by rw [ZA0];rfl
   refine⟨aa,fun w1=>⟨fun w2=>⟨aa,⟨⟨?_,?_⟩,?_,?_⟩,⟨?_,?_⟩,?_⟩,fun w3=>?_⟩,fun w4=>?_⟩
   all_goals first|refine aw ?_|refine ax ?_|exact a8|(dsimp only [ba,cm];omega)|exact a7|skip
   ·have hm2:=aJ (p:=(o2.length:Int)<mv) w2
    have hk2:=aJ (p:=k≥0) w1
    have hle:=hlen (97+rZ.1)
    refine⟨(o2++[97+rZ.1],k-1),[(1010,1069)],?_,?_,?_⟩
    rotate_right
    ·exact bW
    ·exact⟨by show (o2++[97+rZ.1]).length≤mv.toNat;omega,.inl (by show out.length+1≤(o2++[97+rZ.1]).length;omega),by show -1≤k-1;omega,by show k-1≤6;omega⟩
    ·show (k-1+1).toNat<(k+1).toNat;omega
   ·have hm2:=aA (p:=(o2.length:Int)<mv) w3
    have hg:out.length+1≤o2.length:=by omega
    refine⟨(o2,kA.2),[],?_,?_,?_⟩
    rotate_right
    ·exact bW
    ·exact⟨by show (o2).length≤mv.toNat;omega,by show rp≤kA.2;omega,by show kA.2≤rp+2+3*((o2).length:Int);omega⟩
    ·show mv.toNat-(o2).length<mv.toNat-out.length;omega
   ·have hk2:=aA (p:=k≥0) w4
    have hg:out.length+1≤o2.length:=by omega
    refine⟨(o2,kA.2),[],?_,?_,?_⟩
    rotate_right
    ·exact bW
    ·exact⟨by show (o2).length≤mv.toNat;omega,by show rp≤kA.2;omega,by show kA.2≤rp+2+3*((o2).length:Int);omega⟩
    ·show mv.toNat-(o2).length<mv.toNat-out.length;omega
  ·have h:qK.1=0∨(0≤qK.1∧qK.1<2):=oN.1
   show gL≤qK.1*97;unfold gL;omega
  ·have h:qK.1=0∨(0≤qK.1∧qK.1<2):=oN.1
   show qK.1*97≤imax;unfold imax;omega
  ·have h:qK.1=0∨(0≤qK.1∧qK.1<2):=oN.1
   show 0≤qK.1*97;omega
  ·have h:qK.1=0∨(0≤qK.1∧qK.1<2):=oN.1
   show qK.1*97≤255;omega
  ·have hl:=aJ (p:=(out.length:Int)<mv) w1
   have e3:qK.2=p+1:=oN.2
   have hlen:(out++[qK.1*97]).length=out.length+1:=by rw [ZA0];rfl
   refine⟨(out++[qK.1*97],qK.2),[(1010,1028)],?_,?_,?_⟩
   rotate_right
   ·exact bW
   ·exact⟨by show (out++[qK.1*97]).length≤mv.toNat;omega,by show rp≤qK.2;omega,by show qK.2≤rp+2+3*((out++[qK.1*97]).length:Int);omega⟩
   ·show mv.toNat-(out++[qK.1*97]).length<mv.toNat-out.length;omega
  ·have hl:=aA (p:=(out.length:Int)<mv) (by assumption)
   have hs:(fb out).size=out.length:=by rw [fb,nF];simp
   refine⟨[],[],_,_,_,rfl,cg,(fb out,p),⟨by show ((fb out).size:Int)≤n;omega,hq0,by show p≤rp+1000;omega⟩,rfl,rfl,rfl⟩
end GL
namespace GL
theorem Rdr.at {r:List Int×Int}{n m p:Int}(h:Rdr r n) (h0:0≤p) (h1:p≤m):Rdr (r.1,p) m:=⟨h.len,h.jL,h0,h1⟩
theorem pk {z:Int×Int}{n p:Int}(hn:0<n) (h:(z.1=0∨(0≤z.1∧z.1<n))∧z.2=p+1):0≤z.1∧z.1<n:=by
 rcases h.1 with h |h
 ·rw [h];exact⟨ZC1 _,hn⟩
 ·exact h
theorem FB {ek:EK}{l:List (EK.Ty ek)}{P:EK.Ty ek→Prop}(h0:P (EK.zero ek)) (h:∀x∈l,P x) (k:Nat):P (nth ek l k):=by
 by_cases hk:k<l.length
 ·exact h _ (bS hk)
 ·unfold nth;rw [ZD8 (by omega)];exact h0
def yf (r:List Int×Int):Prop:=Rdr r 990000
def VM (r:List Int×Int) (z:Int×Int):Prop:=(-1≤z.1∧z.1≤64)∧r.2≤z.2∧z.2≤r.2+2
def U5 (r:List Int×Int) (z:Int×Int):AV:=.s (.int z.1)
def aa2 (r:List Int×Int) (z:Int×Int):List AV:=[.a [.vw mj r.1,.int z.2]]
def JU:ct where
 A:=[.b 0]
 B:=[.a [.vw mj,.int]]
 pre:=fun x b=>yf b
 α:=fun _ _=>Int×Int
 φ:=fun x b z=>VM b z
 r:=fun x b z=>U5 b z
 o:=fun x b z=>aa2 b z
theorem adM:Has Tryz.prog 189 JU:=by
 refine Has.fu zT zF zF (l:=[(70,ba)]) ⟨dh,aa⟩ Tryz.func189 ?_
 rintro _ ⟨(rb:List Int),(rp:Int)⟩ (hp:yf (rb,rp))
 show vc _ _ _ _ (entry [.s (.bp 0 0)] [.a [.vw mj rb,.int rp]]) _
 have hr:Rdr (rb,rp) 990000:=hp
 have hp0:0≤rp:=hr.p0
 have hp1:rp≤990000:=hr.p1
 refine⟨⟨⟨aa,aa,aa⟩,?_,?_⟩,fun x1 w2=>⟨fun w3=>⟨aa,⟨⟨aa,aa,aa⟩,?_,?_⟩,fun x4 w5=>⟨⟨?_,?_⟩,?_,?_⟩⟩,fun w6=>⟨⟨⟨aa,aa,aa⟩,?_,?_⟩,fun x7 w8=>⟨⟨?_,?_⟩,?_⟩⟩⟩⟩
 all_goals first|refine aw ?_|refine ax ?_|exact a8|(dsimp only [ba,cm];omega)|exact a7|(have e:x1.2=rp+1:=w2.2;exact hr.at (by omega) (by omega))|exact hr.at hp0 (by omega)|exact (pk (by decide) w5).1|exact (pk (by decide) w5).2|(show x4.1.toNat<6;have h:=pk (n:=6) (by decide) w5;omega)|(show (-9223372036854775808:Int)≤8+x7.1;have h:=pk (n:=12) (by decide) w8;omega)|(show 8+x7.1≤(9223372036854775807:Int);have h:=pk (n:=12) (by decide) w8;omega)|skip
 ·have e1:x1.2=rp+1:=w2.2
  have e2:x4.2=x1.2+1:=w5.2
  refine⟨[],[],_,_,_,rfl,cg,(nth ag [-1,0,3,7,64,63] x4.1.toNat,x4.2),⟨FB (ek:=ag) (P:=fun x:Int=> -1≤x∧x≤64) (by decide) (by decide) _,by show rp≤x4.2;omega,by show x4.2≤rp+2;omega⟩,rfl,rfl,rfl⟩
 ·have e1:x1.2=rp+1:=w2.2
  have e2:x7.2=x1.2+1:=w8.2
  have h:=pk (n:=12) (by decide) w8
  refine⟨[],[],_,_,_,rfl,cg,(8+x7.1,x7.2),⟨⟨by show -1≤8+x7.1;omega,by show 8+x7.1≤64;omega⟩,by show rp≤x7.2;omega,by show x7.2≤rp+2;omega⟩,rfl,rfl,rfl⟩
def ahg:List ByteArray:=[⟨#[]⟩,⟨#[97]⟩,⟨#[47,47]⟩,⟨#[47,97,47]⟩,⟨#[47,65]⟩,⟨#[47,97,47,98,47,99,47,97,47,98]⟩,⟨#[47,97,98,99,100,101]⟩,⟨#[47,97,47,47,98]⟩]
def ahf:List ByteArray:=[⟨#[47,97]⟩,⟨#[47,98]⟩,⟨#[47,97,47,98]⟩,⟨#[47,97,47,99]⟩,⟨#[47,98,47,97]⟩,⟨#[47,99]⟩,⟨#[47,97,47,98,47,99]⟩,⟨#[47,99,47,97]⟩,⟨#[47,97,98]⟩,⟨#[47]⟩]
def vf (r:List Int×Int):Prop:=Rdr r 990000
def jo (r:List Int×Int) (z:ByteArray×Int):Prop:=z.1.size≤12∧r.2≤z.2∧z.2≤r.2+2
def QV (r:List Int×Int) (z:ByteArray×Int):AV:=.s (.str z.1)
def VT (r:List Int×Int) (z:ByteArray×Int):List AV:=[.a [.vw mj r.1,.int z.2]]
def j1:ct where
 A:=[.b 0]
 B:=[.a [.vw mj,.int]]
 pre:=fun x b=>vf b
 α:=fun _ _=>ByteArray×Int
 φ:=fun x b z=>jo b z
 r:=fun x b z=>QV b z
 o:=fun x b z=>VT b z
theorem abE:Has Tryz.prog 187 j1:=by
 refine Has.fu zT zF zF (l:=[(70,ba)]) ⟨dh,aa⟩ Tryz.func187 ?_
 rintro _ ⟨(rb:List Int),(rp:Int)⟩ (hp:vf (rb,rp))
 show vc _ _ _ _ (entry [.s (.bp 0 0)] [.a [.vw mj rb,.int rp]]) _
 have hr:Rdr (rb,rp) 990000:=hp
 have hp0:0≤rp:=hr.p0
 have hp1:rp≤990000:=hr.p1
 refine⟨⟨⟨aa,aa,aa⟩,?_,?_⟩,fun x1 w2=>⟨fun w3=>⟨aa,⟨⟨aa,aa,aa⟩,?_,?_⟩,fun x4 w5=>⟨⟨?_,?_⟩,?_,?_⟩⟩,fun w6=>⟨aa,⟨⟨aa,aa,aa⟩,?_,?_⟩,fun x7 w8=>⟨⟨?_,?_⟩,?_,?_⟩⟩⟩⟩
 all_goals first|refine aw ?_|refine ax ?_|exact a8|(dsimp only [ba,cm];omega)|exact a7|(have e:x1.2=rp+1:=w2.2;exact hr.at (by omega) (by omega))|exact hr.at hp0 (by omega)|exact (pk (by decide) w5).1|exact (pk (by decide) w5).2|exact (pk (by decide) w8).1|exact (pk (by decide) w8).2|(show x4.1.toNat<8;have h:=pk (n:=8) (by decide) w5;omega)|(show x7.1.toNat<10;have h:=pk (n:=10) (by decide) w8;omega)|skip
 ·have e1:x1.2=rp+1:=w2.2
  have e2:x4.2=x1.2+1:=w5.2
  refine⟨[],[],_,_,_,rfl,cg,(nth ab ahg x4.1.toNat,x4.2),⟨FB (ek:=ab) (P:=fun x:ByteArray=>x.size≤12) (by decide) (by decide) _,by show rp≤x4.2;omega,by show x4.2≤rp+2;omega⟩,rfl,rfl,rfl⟩
 ·have e1:x1.2=rp+1:=w2.2
  have e2:x7.2=x1.2+1:=w8.2
  refine⟨[],[],_,_,_,rfl,cg,(nth ab ahf x7.1.toNat,x7.2),⟨FB (ek:=ab) (P:=fun x:ByteArray=>x.size≤12) (by decide) (by decide) _,by show rp≤x7.2;omega,by show x7.2≤rp+2;omega⟩,rfl,rfl,rfl⟩
def yh (s:ByteArray) (n:Int):Prop:=s.size≤1000∧0≤n∧n≤1000
def kN (s:ByteArray) (n:Int) (z:ByteArray):Prop:=z.size=s.size*n.toNat
def VD (s:ByteArray) (n:Int) (z:ByteArray):AV:=.s (.str z)
def aba (s:ByteArray) (n:Int) (z:ByteArray):List AV:=[]
def mf:ct where
 A:=[.s .str,.s .int]
 B:=[]
 pre:=fun x b=>yh (x.1) (x.2)
 α:=fun _ _=>ByteArray
 φ:=fun x b z=>kN (x.1) (x.2) z
 r:=fun x b z=>VD (x.1) (x.2) z
 o:=fun x b z=>aba (x.1) (x.2) z
theorem adQ:Has Tryz.prog 79 mf:=by
 refine Has.fu zT zF zF (l:=[]) trivial Tryz.func79 ?_
 rintro⟨(s:ByteArray),(n:Int)⟩ _ (hp:yh s n)
 show vc _ _ _ _ (entry [.str s,.int n] []) _
 obtain⟨hs,(h0:0≤n),(h1:n≤1000)⟩:=hp
 have hb:s.size*n.toNat≤1000000:=ZB0 (Nat.mul_le_mul hs (show n.toNat≤1000 by omega)) (by decide)
 refine ?_
 all_goals first|refine aw ?_|refine ax ?_|exact a8|exact a7|skip
 refine cO (l:=[]) (ex:=zT) (wr:=zF) (pt:=zF) trivial [] (fun y:ByteArray×Int×ByteArray=>[(.s 0,.str y.1),(.s 1,.int y.2.1),(.s 5,.str y.2.2)]) (fun y=>0≤y.2.1∧y.2.1≤1000∧y.2.2.size+y.1.size*y.2.1.toNat=s.size*n.toNat) (fun y=>y.2.1.toNat) (s,n,⟨#[]⟩) [] ⟨h0,h1,by show 0+s.size*n.toNat=s.size*n.toNat;omega⟩ dN ?_
 rintro⟨t,m,out⟩ ⟨(g0:0≤m),(g1:m≤1000),(g2:out.size+t.size*m.toNat=s.size*n.toNat)⟩
 have hm:decide (m>0)=true→t.size≤1000000:=fun h=>by
  have h3:=aJ h
  have:t.size*1≤t.size*m.toNat:=Nat.mul_le_mul_left _ (by omega)
  omega
 have ho:out.size≤1000000:=by omega
 have e2:∀q:Nat,t.size*(2*q)=(t.size+t.size)*q:=fun q=>by rw [Nat.mul_comm 2 q,←Nat.mul_assoc,ZE3];omega
 refine⟨fun w1=>⟨⟨?_,?_⟩,⟨fun w2=>⟨?_,⟨?_,⟨⟨?_,⟨?_,?_⟩⟩,?_⟩⟩⟩,fun w3=>⟨?_,⟨⟨?_,⟨?_,?_⟩⟩,?_⟩⟩⟩⟩,fun w4=>?_⟩
 all_goals first|refine aw ?_|refine ax ?_|exact a8|exact a7|(show ((out.size+t.size:Nat):Int)≤9223372036854775807;have:=hm w1;omega)|(show ((t.size+t.size:Nat):Int)≤9223372036854775807;have:=hm w1;omega)|skip
 ·have h1:=aJ (p:=m>0) w1
  have h2:=aJ (p:=m % 2=1) w2
  have e:m.tdiv 2=m / 2:=Int.tdiv_eq_ediv_of_nonneg g0
  refine⟨(t++t,m / 2,out++t),[],?_,?_,?_⟩
  rotate_right
  ·exact bW
  ·refine⟨by show 0≤m / 2;omega,by show m / 2≤1000;omega,?_⟩
   show (out++t).size+(t++t).size*(m / 2).toNat=_
   rw [ZB2,ZB2,←g2,←e2,show m.toNat=2*(m / 2).toNat+1 by omega,Nat.mul_add];omega
  ·show (m / 2).toNat<m.toNat;omega
 ·have h1:=aJ (p:=m>0) w1
  have h2:=aA (p:=m % 2=1) w3
  refine⟨(t++t,m / 2,out),[],?_,?_,?_⟩
  rotate_right
  ·exact bW
  ·refine⟨by show 0≤m / 2;omega,by show m / 2≤1000;omega,?_⟩
   show out.size+(t++t).size*(m / 2).toNat=_
   rw [ZB2,←g2,←e2,show m.toNat=2*(m / 2).toNat by omega]
  ·show (m / 2).toNat<m.toNat;omega
 ·have h1:=aA (p:=m>0) w4
  refine⟨[],[],_,_,_,rfl,cg,out,show out.size=s.size*n.toNat by rw [←g2,show m.toNat=0 by omega];omega,rfl,rfl,rfl⟩
end GL
namespace GL
def pX (r:List Int×Int):Prop:=Rdr r 980000
def qj (r:List Int×Int) (z:Pt×Int):Prop:=r.2≤z.2∧z.2≤r.2+1010
def U6 (r:List Int×Int) (z:Pt×Int):AV:=.o (ptA z.1)
def aa3 (r:List Int×Int) (z:Pt×Int):List AV:=[.a [.vw mj r.1,.int z.2]]
def jE:ct where
 A:=[.b 0]
 B:=[.a [.vw mj,.int]]
 pre:=fun x b=>pX b
 α:=fun _ _=>Pt×Int
 φ:=fun x b z=>qj b z
 r:=fun x b z=>U6 b z
 o:=fun x b z=>aa3 b z
theorem IE:Has Tryz.prog 152 jE:=by
 refine Has.fu zT zF zF (l:=[(70,ba),(76,cT),(153,o7),(189,JU)]) ⟨dh,pe,FH,adM,aa⟩ Tryz.func152 ?_
 rintro _ ⟨(rb:List Int),(rp:Int)⟩ (hp:pX (rb,rp))
 show vc _ _ _ _ (entry [.s (.bp 0 0)] [.a [.vw mj rb,.int rp]]) _
 have hr:Rdr (rb,rp) 980000:=hp
 have hp0:0≤rp:=hr.p0
 have hp1:rp≤980000:=hr.p1
 refine⟨⟨⟨aa,aa,aa⟩,?_,?_⟩,fun x1 w2=>⟨fun w3=>?_,fun w4=>⟨⟨⟨aa,aa,aa⟩,?_,?_⟩,fun x5 w6=>⟨⟨?_,?_⟩,⟨⟨aa,aa,aa⟩,?_,?_⟩,fun x7 w8=>⟨⟨?_,?_⟩,⟨⟨aa,aa,aa⟩,?_,?_⟩,fun x9 dy=>⟨⟨⟨aa,aa,aa⟩,?_,?_,?_⟩,fun kB dK=>⟨?_,⟨⟨aa,aa,aa,aa,aa⟩,?_⟩,fun rZ gP=>⟨⟨⟨aa,aa,aa⟩,?_,?_⟩,fun kA ki=>⟨fun xk=>⟨⟨⟨aa,aa⟩,?_⟩,fun qK oN=>?_⟩,fun uL=>⟨fun A4=>⟨aa,⟨⟨aa,aa,aa⟩,?_,?_⟩,fun x22 xM=>⟨⟨?_,?_⟩,?_,?_⟩⟩,fun rU=>⟨fun w25=>⟨aa,⟨⟨aa,aa,aa⟩,?_,?_⟩,fun x26 w27=>⟨⟨?_,?_⟩,?_,?_⟩⟩,fun w28=>⟨fun w29=>⟨aa,⟨⟨aa,aa,aa⟩,?_,?_⟩,fun x30 w31=>⟨⟨?_,?_⟩,?_,?_⟩⟩,fun w32=>⟨fun w33=>⟨aa,⟨⟨aa,aa,aa⟩,?_,?_⟩,fun x34 w35=>⟨⟨?_,?_⟩,?_,?_⟩⟩,fun w36=>?_⟩⟩⟩⟩⟩⟩⟩⟩⟩⟩⟩⟩⟩
 all_goals first|refine aw ?_|refine ax ?_|exact a8|(dsimp only [ba,cm,cT,ie,o7,mP,JU,yf];omega)|exact a7|(simp only [gL];have h:=pk (n:=12) (by decide) w6;omega)|(simp only [imax];have h:=pk (n:=12) (by decide) w6;omega)|(simp only [gL];have h:=pk (n:=9) (by decide) w8;omega)|(simp only [imax];have h:=pk (n:=9) (by decide) w8;omega)|(unfold imax;have h:(kB.1.size:Int)≤9:=dK.1;have h2:(⟨#[116]⟩:ByteArray).size=1:=rfl;omega)|(have e1:x1.2=rp+1:=w2.2;have e5:x5.2=x1.2+1:=w6.2;have e7:x7.2=x5.2+1:=w8.2;have e9:x9.2=x7.2+1:=dy.2;have e11:x9.2≤kB.2∧kB.2≤x9.2+1000:=dK.2;have e15:kA.2=kB.2+1:=ki.2;exact hr.at (by omega) (by omega))|(have e1:x1.2=rp+1:=w2.2;have e5:x5.2=x1.2+1:=w6.2;have e7:x7.2=x5.2+1:=w8.2;have e9:x9.2=x7.2+1:=dy.2;have e11:x9.2≤kB.2∧kB.2≤x9.2+1000:=dK.2;exact hr.at (by omega) (by omega))|(have e1:x1.2=rp+1:=w2.2;have e5:x5.2=x1.2+1:=w6.2;have e7:x7.2=x5.2+1:=w8.2;have e9:x9.2=x7.2+1:=dy.2;exact hr.at (by omega) (by omega))|(have e1:x1.2=rp+1:=w2.2;have e5:x5.2=x1.2+1:=w6.2;have e7:x7.2=x5.2+1:=w8.2;exact hr.at (by omega) (by omega))|(have e1:x1.2=rp+1:=w2.2;have e5:x5.2=x1.2+1:=w6.2;exact hr.at (by omega) (by omega))|(have e1:x1.2=rp+1:=w2.2;exact hr.at (by omega) (by omega))|(exact hr.at (by omega) (by omega))|exact (pk (by decide) xM).1|exact (pk (by decide) xM).2|(show x22.1.toNat<4;have h:=pk (n:=4) (by decide) xM;omega)|exact (pk (by decide) w27).1|exact (pk (by decide) w27).2|(show x26.1.toNat<4;have h:=pk (n:=4) (by decide) w27;omega)|exact (pk (by decide) w31).1|exact (pk (by decide) w31).2|(show x30.1.toNat<4;have h:=pk (n:=4) (by decide) w31;omega)|exact (pk (by decide) w35).1|exact (pk (by decide) w35).2|(show x34.1.toNat<3;have h:=pk (n:=3) (by decide) w35;omega)|skip
 ·refine⟨[],[],_,_,_,rfl,cg,((_,_,_,_,_),x1.2),⟨(by have e1:x1.2=rp+1:=w2.2;show rp≤x1.2;omega),(by have e1:x1.2=rp+1:=w2.2;show x1.2≤rp+1010;omega)⟩,rfl,rfl,rfl⟩
 ·have h:(kB.1.size:Int)≤9:=dK.1
  have h3:((⟨#[116]⟩++kB.1:ByteArray).size:Int)≤1000000000000:=by
   rw [ZB2]
   have h2:(⟨#[116]⟩:ByteArray).size=1:=rfl
   omega
  exact h3
 ·refine⟨[],[],_,_,_,rfl,cg,((_,_,_,_,_),qK.2),⟨(by have e1:x1.2=rp+1:=w2.2;have e5:x5.2=x1.2+1:=w6.2;have e7:x7.2=x5.2+1:=w8.2;have e9:x9.2=x7.2+1:=dy.2;have e11:x9.2≤kB.2∧kB.2≤x9.2+1000:=dK.2;have e15:kA.2=kB.2+1:=ki.2;have e18:kA.2≤qK.2∧qK.2≤kA.2+2:=oN.2;show rp≤qK.2;omega),(by have e1:x1.2=rp+1:=w2.2;have e5:x5.2=x1.2+1:=w6.2;have e7:x7.2=x5.2+1:=w8.2;have e9:x9.2=x7.2+1:=dy.2;have e11:x9.2≤kB.2∧kB.2≤x9.2+1000:=dK.2;have e15:kA.2=kB.2+1:=ki.2;have e18:kA.2≤qK.2∧qK.2≤kA.2+2:=oN.2;show qK.2≤rp+1010;omega)⟩,rfl,rfl,rfl⟩
 ·refine⟨[],[],_,_,_,rfl,cg,((_,(nth ag [0,-1,900,901] x22.1.toNat:Int),_,_,_),x22.2),⟨(by have e1:x1.2=rp+1:=w2.2;have e5:x5.2=x1.2+1:=w6.2;have e7:x7.2=x5.2+1:=w8.2;have e9:x9.2=x7.2+1:=dy.2;have e11:x9.2≤kB.2∧kB.2≤x9.2+1000:=dK.2;have e15:kA.2=kB.2+1:=ki.2;have e22:x22.2=kA.2+1:=xM.2;show rp≤x22.2;omega),(by have e1:x1.2=rp+1:=w2.2;have e5:x5.2=x1.2+1:=w6.2;have e7:x7.2=x5.2+1:=w8.2;have e9:x9.2=x7.2+1:=dy.2;have e11:x9.2≤kB.2∧kB.2≤x9.2+1000:=dK.2;have e15:kA.2=kB.2+1:=ki.2;have e22:x22.2=kA.2+1:=xM.2;show x22.2≤rp+1010;omega)⟩,rfl,rfl,rfl⟩
 ·refine⟨[],[],_,_,_,rfl,cg,((_,_,(nth ag [0,-1,128,129] x26.1.toNat:Int),_,_),x26.2),⟨(by have e1:x1.2=rp+1:=w2.2;have e5:x5.2=x1.2+1:=w6.2;have e7:x7.2=x5.2+1:=w8.2;have e9:x9.2=x7.2+1:=dy.2;have e11:x9.2≤kB.2∧kB.2≤x9.2+1000:=dK.2;have e15:kA.2=kB.2+1:=ki.2;have e26:x26.2=kA.2+1:=w27.2;show rp≤x26.2;omega),(by have e1:x1.2=rp+1:=w2.2;have e5:x5.2=x1.2+1:=w6.2;have e7:x7.2=x5.2+1:=w8.2;have e9:x9.2=x7.2+1:=dy.2;have e11:x9.2≤kB.2∧kB.2≤x9.2+1000:=dK.2;have e15:kA.2=kB.2+1:=ki.2;have e26:x26.2=kA.2+1:=w27.2;show x26.2≤rp+1010;omega)⟩,rfl,rfl,rfl⟩
 ·refine⟨[],[],_,_,_,rfl,cg,((_,_,_,(nth ag [-1,99460728,99460729,0] x30.1.toNat:Int),_),x30.2),⟨(by have e1:x1.2=rp+1:=w2.2;have e5:x5.2=x1.2+1:=w6.2;have e7:x7.2=x5.2+1:=w8.2;have e9:x9.2=x7.2+1:=dy.2;have e11:x9.2≤kB.2∧kB.2≤x9.2+1000:=dK.2;have e15:kA.2=kB.2+1:=ki.2;have e30:x30.2=kA.2+1:=w31.2;show rp≤x30.2;omega),(by have e1:x1.2=rp+1:=w2.2;have e5:x5.2=x1.2+1:=w6.2;have e7:x7.2=x5.2+1:=w8.2;have e9:x9.2=x7.2+1:=dy.2;have e11:x9.2≤kB.2∧kB.2≤x9.2+1000:=dK.2;have e15:kA.2=kB.2+1:=ki.2;have e30:x30.2=kA.2+1:=w31.2;show x30.2≤rp+1010;omega)⟩,rfl,rfl,rfl⟩
 ·refine⟨[],[],_,_,_,rfl,cg,((_,_,_,_,(nth ag [-1,3,2] x34.1.toNat:Int)),x34.2),⟨(by have e1:x1.2=rp+1:=w2.2;have e5:x5.2=x1.2+1:=w6.2;have e7:x7.2=x5.2+1:=w8.2;have e9:x9.2=x7.2+1:=dy.2;have e11:x9.2≤kB.2∧kB.2≤x9.2+1000:=dK.2;have e15:kA.2=kB.2+1:=ki.2;have e34:x34.2=kA.2+1:=w35.2;show rp≤x34.2;omega),(by have e1:x1.2=rp+1:=w2.2;have e5:x5.2=x1.2+1:=w6.2;have e7:x7.2=x5.2+1:=w8.2;have e9:x9.2=x7.2+1:=dy.2;have e11:x9.2≤kB.2∧kB.2≤x9.2+1000:=dK.2;have e15:kA.2=kB.2+1:=ki.2;have e34:x34.2=kA.2+1:=w35.2;show x34.2≤rp+1010;omega)⟩,rfl,rfl,rfl⟩
 ·refine⟨[],[],_,_,_,rfl,cg,((_,_,_,_,_),kA.2),⟨(by have e1:x1.2=rp+1:=w2.2;have e5:x5.2=x1.2+1:=w6.2;have e7:x7.2=x5.2+1:=w8.2;have e9:x9.2=x7.2+1:=dy.2;have e11:x9.2≤kB.2∧kB.2≤x9.2+1000:=dK.2;have e15:kA.2=kB.2+1:=ki.2;show rp≤kA.2;omega),(by have e1:x1.2=rp+1:=w2.2;have e5:x5.2=x1.2+1:=w6.2;have e7:x7.2=x5.2+1:=w8.2;have e9:x9.2=x7.2+1:=dy.2;have e11:x9.2≤kB.2∧kB.2≤x9.2+1000:=dK.2;have e15:kA.2=kB.2+1:=ki.2;show kA.2≤rp+1010;omega)⟩,rfl,rfl,rfl⟩
end GL
namespace GL
def sf (r:List Int×Int):Prop:=Rdr r 980000
def aaR (r:List Int×Int) (z:Opr×Int):Prop:=(z.1.2.1.size≤30∧z.1.2.2.1.size≤30∧z.1.2.2.2.2.size≤30)∧r.2≤z.2∧z.2≤r.2+1020
def aaI (r:List Int×Int) (z:Opr×Int):AV:=.o (.a [.int z.1.1,.str z.1.2.1,.str z.1.2.2.1,.int z.1.2.2.2.1,.str z.1.2.2.2.2])
def acY (r:List Int×Int) (z:Opr×Int):List AV:=[.a [.vw mj r.1,.int z.2]]
def ua:ct where
 A:=[.b 0]
 B:=[.a [.vw mj,.int]]
 pre:=fun x b=>sf b
 α:=fun _ _=>Opr×Int
 φ:=fun x b z=>aaR b z
 r:=fun x b z=>aaI b z
 o:=fun x b z=>acY b z
theorem O7:Has Tryz.prog 150 ua:=by
 refine Has.fu zT zF zF (l:=[(70,ba),(187,j1),(76,cT),(79,mf)]) ⟨dh,abE,pe,adQ,aa⟩ Tryz.func150 ?_
 rintro _ ⟨(rb:List Int),(rp:Int)⟩ (hp:sf (rb,rp))
 show vc _ _ _ _ (entry [.s (.bp 0 0)] [.a [.vw mj rb,.int rp]]) _
 have hr:Rdr (rb,rp) 980000:=hp
 have hp0:0≤rp:=hr.p0
 have hp1:rp≤980000:=hr.p1
 refine⟨[.b 1004],[.s 4,.b 1004],rfl,aa,Sq0,Sq5,rfl,[.s 5,.b 0],[.s 6,.b 0],rfl,⟨⟨aa,aa,aa⟩,?_,?_⟩,?_,fun x1 w2=>⟨[.s 4,.s 6],Sq7,rfl,⟨?_,?_⟩,[.s 7,.b 1004],Sq8,rfl,?_,Sq0,Sq9,rfl,[.s 9,.b 0],[.s 10,.b 0],rfl,⟨⟨aa,aa⟩,?_⟩,?_,fun x3 w4=>⟨[.s 8,.s 10],Sq11,rfl,[.b 1003],[.s 3,.b 1003],rfl,[.s 3,.s 11,.b 1003],[.b 1003],rfl,fun w5=>⟨aa,⟨⟨aa,aa,aa⟩,?_,?_⟩,fun x6 w7=>⟨⟨?_,?_⟩,?_,⟨⟨aa,aa,aa⟩,?_,?_,?_⟩,fun x8 w9=>⟨⟨⟨aa,aa,aa⟩,?_,?_⟩,fun x10 kC=>⟨fun dK=>⟨aa,⟨⟨aa,aa,aa⟩,?_,?_⟩,fun rZ gP=>⟨⟨?_,?_⟩,?_,?_⟩⟩,fun qN=>⟨fun ki=>⟨aa,⟨⟨aa,aa,aa⟩,?_,?_⟩,fun x17 rV=>⟨⟨?_,?_⟩,?_,?_⟩⟩,fun oN=>⟨fun uL=>⟨⟨⟨aa,aa,aa⟩,?_,?_⟩,fun x21 A3=>⟨⟨?_,?_⟩,⟨⟨aa,aa,aa⟩,?_,?_,?_⟩,fun x23 rU=>?_⟩⟩,fun w25=>⟨fun w26=>⟨⟨⟨aa,aa⟩,?_⟩,fun x27 w28=>?_⟩,fun w29=>?_⟩⟩⟩⟩⟩⟩⟩,fun w30=>⟨fun w31=>⟨aa,⟨⟨aa,aa,aa⟩,?_,?_⟩,fun x32 w33=>⟨⟨?_,?_⟩,?_,⟨⟨aa,aa,aa⟩,?_,?_⟩,fun x34 w35=>⟨fun w36=>⟨aa,⟨⟨aa,aa,aa⟩,?_,?_⟩,fun x37 w38=>⟨⟨?_,?_⟩,?_,?_⟩⟩,fun w39=>⟨fun w40=>⟨aa,⟨⟨aa,aa,aa⟩,?_,?_⟩,fun x41 w42=>⟨⟨?_,?_⟩,?_,?_⟩⟩,fun w43=>⟨fun w44=>⟨⟨⟨aa,aa,aa⟩,?_,?_⟩,fun x45 w46=>⟨⟨?_,?_⟩,⟨⟨aa,aa,aa⟩,?_,?_,?_⟩,fun x47 w48=>?_⟩⟩,fun w49=>⟨fun w50=>⟨⟨⟨aa,aa⟩,?_⟩,fun x51 w52=>?_⟩,fun w53=>?_⟩⟩⟩⟩⟩⟩,fun w54=>⟨fun w55=>⟨fun w56=>⟨⟨⟨aa,aa⟩,?_⟩,fun x57 w58=>⟨⟨⟨aa,aa,aa⟩,?_,?_⟩,fun x59 w60=>⟨fun w61=>⟨aa,⟨⟨aa,aa,aa⟩,?_,?_⟩,fun x62 w63=>⟨⟨?_,?_⟩,?_,?_⟩⟩,fun w64=>⟨fun w65=>⟨aa,⟨⟨aa,aa,aa⟩,?_,?_⟩,fun x66 w67=>⟨⟨?_,?_⟩,?_,?_⟩⟩,fun w68=>⟨fun w69=>⟨⟨⟨aa,aa,aa⟩,?_,?_⟩,fun x70 w71=>⟨⟨?_,?_⟩,⟨⟨aa,aa,aa⟩,?_,?_,?_⟩,fun x72 w73=>?_⟩⟩,fun w74=>⟨fun w75=>⟨⟨⟨aa,aa⟩,?_⟩,fun x76 w77=>?_⟩,fun w78=>?_⟩⟩⟩⟩⟩⟩,fun w79=>⟨⟨⟨aa,aa,aa⟩,?_,?_⟩,fun x80 w81=>⟨fun w82=>⟨aa,⟨⟨aa,aa,aa⟩,?_,?_⟩,fun x83 w84=>⟨⟨?_,?_⟩,?_,?_⟩⟩,fun w85=>⟨fun w86=>⟨aa,⟨⟨aa,aa,aa⟩,?_,?_⟩,fun x87 w88=>⟨⟨?_,?_⟩,?_,?_⟩⟩,fun w89=>⟨fun w90=>⟨⟨⟨aa,aa,aa⟩,?_,?_⟩,fun x91 w92=>⟨⟨?_,?_⟩,⟨⟨aa,aa,aa⟩,?_,?_,?_⟩,fun x93 w94=>?_⟩⟩,fun w95=>⟨fun w96=>⟨⟨⟨aa,aa⟩,?_⟩,fun x97 w98=>?_⟩,fun w99=>?_⟩⟩⟩⟩⟩⟩,fun al2=>⟨fun ako=>⟨⟨⟨aa,aa⟩,?_⟩,fun akm al0=>⟨⟨⟨aa,aa,aa⟩,?_,?_⟩,fun akl alZ=>⟨fun alY=>⟨aa,⟨⟨aa,aa,aa⟩,?_,?_⟩,fun akk alX=>⟨⟨?_,?_⟩,?_,?_⟩⟩,fun alW=>⟨fun alV=>⟨aa,⟨⟨aa,aa,aa⟩,?_,?_⟩,fun akj alU=>⟨⟨?_,?_⟩,?_,?_⟩⟩,fun alT=>⟨fun alS=>⟨⟨⟨aa,aa,aa⟩,?_,?_⟩,fun aki alR=>⟨⟨?_,?_⟩,⟨⟨aa,aa,aa⟩,?_,?_,?_⟩,fun akh alQ=>?_⟩⟩,fun alP=>⟨fun alO=>⟨⟨⟨aa,aa⟩,?_⟩,fun akg alN=>?_⟩,fun alM=>?_⟩⟩⟩⟩⟩⟩,fun alL=>⟨⟨⟨aa,aa,aa⟩,?_,?_⟩,fun akf alK=>⟨fun alJ=>⟨aa,⟨⟨aa,aa,aa⟩,?_,?_⟩,fun ake alI=>⟨⟨?_,?_⟩,?_,?_⟩⟩,fun alH=>⟨fun alG=>⟨aa,⟨⟨aa,aa,aa⟩,?_,?_⟩,fun akd alF=>⟨⟨?_,?_⟩,?_,?_⟩⟩,fun alE=>⟨fun alD=>⟨⟨⟨aa,aa,aa⟩,?_,?_⟩,fun akc alC=>⟨⟨?_,?_⟩,⟨⟨aa,aa,aa⟩,?_,?_,?_⟩,fun akb alB=>?_⟩⟩,fun alA=>⟨fun alz=>⟨⟨⟨aa,aa⟩,?_⟩,fun aka aly=>?_⟩,fun alx=>?_⟩⟩⟩⟩⟩⟩⟩⟩⟩⟩⟩
 all_goals first|refine aw ?_|refine ax ?_|exact a8|(dsimp only [ba,cm,j1,vf,cT,ie,mf,yh];omega)|exact a7|exact hr.at hp0 (by omega)|(refine hr.at ?_ ?_<;>(dsimp only [ba,dP,j1,jo,cT,fh,mf,kN,dC] at * <;>omega))|(show _<((List.length _:Nat):Int);dsimp only [ba,dP,j1,jo,cT,fh,mf,kN,dC,List.length_cons,List.length_nil] at *;omega)|(show Int.toNat _<_;dsimp only [ba,dP,j1,jo,cT,fh,mf,kN,dC,List.length_cons,List.length_nil] at *;omega)|(dsimp only [ba,dP,j1,jo,cT,fh,mf,kN,dC] at *;omega)|exact⟨(0,rp+1),.inl rfl,rfl⟩|exact⟨(⟨#[]⟩,x1.2),ZA7 _,ZC1 _,(by show x1.2≤x1.2+2;omega)⟩|(simp only [gL,imax];dsimp only [ba,dP,j1,jo,cT,fh,mf,kN,dC] at *;omega)|(show (1:Nat)≤1000;omega)|skip
 all_goals
  first
   |refine⟨[],[],_,_,_,rfl,az,(((_:EK.Ty ag),_,_,(_:EK.Ty ag),_),_),⟨⟨?_,?_,?_⟩,?_,?_⟩,rfl,rfl,rfl⟩
   |refine⟨[],[],_,_,_,rfl,az,(((_:EK.Ty ag),_,_,_,_),_),⟨⟨?_,?_,?_⟩,?_,?_⟩,rfl,rfl,rfl⟩
  all_goals
   try cases x1
   try cases x3
   try cases x6
   try cases x8
   try cases x10
   try cases rZ
   try cases x17
   try cases x21
   try cases x23
   try cases x27
   try cases x32
   try cases x34
   try cases x37
   try cases x41
   try cases x45
   try cases x47
   try cases x51
   try cases x57
   try cases x59
   try cases x62
   try cases x66
   try cases x70
   try cases x72
   try cases x76
   try cases x80
   try cases x83
   try cases x87
   try cases x91
   try cases x93
   try cases x97
   try cases akm
   try cases akl
   try cases akk
   try cases akj
   try cases aki
   try cases akh
   try cases akg
   try cases akf
   try cases ake
   try cases akd
   try cases akc
   try cases akb
   try cases aka
  all_goals (dsimp only [ba,dP,j1,jo,cT,fh,mf,kN,dC] at *;first|omega|exact ZA7 _|(simp only [show (⟨#[117]⟩:ByteArray).size=1 from rfl,Nat.one_mul] at *;omega))
end GL
namespace GL
structure aj5 (l:List Int):Prop where
 len:l.length≤2000000
 jL:∀b∈l,0≤b∧b≤255
def G6 (c:List Int):Prop:=aj5 c
def VN (c:List Int) (z:List Int):Prop:=Rdr (z,0) 0
def VC (c:List Int) (z:List Int):AV:=.s (.bp 0 0)
def aa9 (c:List Int) (z:List Int):List AV:=[.a [.vw mj z,.int 0]]
def afc:ct where
 A:=[.s (.vw mj)]
 B:=[]
 pre:=fun x b=>G6 x
 α:=fun _ _=>List Int
 φ:=fun x b z=>VN x z
 r:=fun x b z=>VC x z
 o:=fun x b z=>aa9 x z
 nf:=1
theorem ai0:Has Tryz.prog 57 afc:=by
 refine Has.fu zT zF zF (l:=[]) trivial Tryz.func57 ?_
 rintro (c:List Int) _ (hp:G6 c)
 show vc _ _ _ _ (entry [.s (.vw mj c)] []) _
 have hb:aj5 c:=hp
 refine⟨fun w1=>⟨⟨?_,⟨?_,?_⟩⟩,?_⟩,fun w2=>?_⟩
 all_goals first|refine aw ?_|refine ax ?_|exact a8|exact a7|skip
 ·refine⟨[1010],[],_,_,_,rfl,cg,List.take 2000 (List.drop 0 c),⟨by rw [ZC0];omega,fun b h=>hb.jL b (ZF2 (ZE6 h)),ZC1 _,ZC1 _⟩,rfl,rfl,rfl⟩
 ·refine⟨[1010],[],_,_,_,rfl,cg,c,⟨by have:=aA (p:=(c.length:Int)>2000) w2;show c.length≤2000;omega,hb.jL,ZC1 _,ZC1 _⟩,rfl,rfl,rfl⟩
end GL
namespace GL
def lM (r:List Int×Int) (S:ay):Prop:=Rdr r 970000∧S.wf
def OD (r:List Int×Int) (S:ay) (z:Pt×Int):Prop:=r.2≤z.2∧z.2≤r.2+1020
def N2 (r:List Int×Int) (S:ay) (z:Pt×Int):AV:=.o (ptA z.1)
def RV (r:List Int×Int) (S:ay) (z:Pt×Int):List AV:=[.a [.vw mj r.1,.int z.2]]
def kP:ct where
 A:=[.b 0,.a xy]
 B:=[.a [.vw mj,.int]]
 pre:=fun x b=>lM b (x.2)
 α:=fun _ _=>Pt×Int
 φ:=fun x b z=>OD b (x.2) z
 r:=fun x b z=>N2 b (x.2) z
 o:=fun x b z=>RV b (x.2) z
theorem yD:Has Tryz.prog 102 kP:=by
 refine Has.fu zT zF zF (l:=[(70,ba),(152,jE),(153,o7)]) ⟨dh,IE,FH,aa⟩ Tryz.func102 ?_
 rintro⟨_,⟨(aj:List ByteArray),(ak:List Int),(an:List Int),(ao:Int),(ah:List Pt),(aq:Int),(ai:List Pt),(ar:Bool)⟩⟩ ⟨(rb:List Int),(rp:Int)⟩ (hp:lM (rb,rp) (aj,ak,an,ao,ah,aq,ai,ar))
 show vc _ _ _ _ (entry [.s (.bp 0 0),.a [.vz ab aj,.vz ag ak,.vz ag an,.int ao,.vz ae ah,.int aq,.vz ae ai,.q ar]] [.a [.vw mj rb,.int rp]]) _
 obtain⟨hr,oP⟩:=hp
 have hr:Rdr (rb,rp) 970000:=hr
 have oP:ay.wf (aj,ak,an,ao,ah,aq,ai,ar):=oP
 have hp0:0≤rp:=hr.p0
 have hp1:rp≤970000:=hr.p1
 have hl:aj.length=64∧ak.length=64∧an.length=64:=oP.n
 refine⟨⟨⟨aa,aa,aa⟩,?_,?_⟩,fun x1 w2=>⟨fun w3=>⟨⟨⟨aa,aa⟩,?_⟩,fun x4 w5=>?_⟩,fun w6=>⟨⟨⟨aa,aa,aa⟩,?_,?_⟩,fun x7 w8=>?_⟩⟩⟩
 all_goals first|refine aw ?_|refine ax ?_|exact a8|(dsimp only [ba,cm,jE,pX,o7,mP];omega)|exact a7|exact hr.at hp0 (by omega)|(have e:x1.2=rp+1:=w2.2;exact hr.at (by omega) (by omega))|skip
 ·have e1:x1.2=rp+1:=w2.2
  have e2:x1.2≤x4.2∧x4.2≤x1.2+1010:=w5
  refine⟨[],[],_,_,_,rfl,cg,((_,_,_,_,_),x4.2),⟨by show rp≤x4.2;omega,by show x4.2≤rp+1020;omega⟩,rfl,rfl,rfl⟩
 ·have e1:x1.2=rp+1:=w2.2
  have f7:=pk (n:=64) (by decide) w8
  obtain⟨f0,p7⟩:=x7
  have e7:p7=x1.2+1:=w8.2
  have hn0:((aj.length:Nat):Int)≠0:=by rw [hl.1];decide
  have hnp:(0:Int)<(aj.length:Int):=by rw [hl.1];decide
  have dj:∀k,(nth ab aj k).size≤1000000:=fun k=>FB (ek:=ab) (P:=fun x:ByteArray=>x.size≤1000000) (ZA7 _) oP.sz k
  refine cO (l:=[(70,ba),(152,jE),(153,o7)]) (ex:=zT) (wr:=zF) (pt:=zF) ⟨dh,IE,FH,aa⟩ [.s 0,.s 3,.b 1003,.s 4,.b 1004,.s 5,.b 0] (fun i:Nat=>[(.s 6,.int i)]) (fun i=>i≤64) (fun i=>64-i) 0 [] (ZA7 _) dN ?_
  rintro i (hi:i≤64)
  have cq:decide ((i:Int)<(aj.length:Int))=true→i<64:=fun h=>by have:=aJ h;omega
  refine⟨fun w1=>⟨⟨?_,?_⟩,⟨?_,?_⟩,⟨?_,?_⟩,aa,fun w2=>⟨aa,fun w3=>⟨fun w4=>⟨Sq7,Sq50,rfl,Sq3,Sq51,rfl,Sq51,Sq52,rfl,[.s 52,.b 1003],Sq53,rfl,Sq7,Sq54,rfl,[.s 53,.s 54],Sq55,rfl,⟨?_,?_⟩,Sq55,Sq56,rfl,Sq56,Sq57,rfl,Sq3,Sq58,rfl,[.s 58,.b 1003],Sq59,rfl,Sq7,Sq60,rfl,[.s 59,.s 60],Sq61,rfl,⟨?_,?_⟩,Sq61,Sq62,rfl,[.s 50,.s 57,.s 62],Sq63,rfl,⟨⟨aa,aa,aa,aa,aa⟩,?_⟩,?_,fun x5 w6=>⟨Sq63,Sq49,rfl,Sq49,Sq64,rfl,Sq49,Sq65,rfl,[.b 1008],[.s 8,.b 1008],rfl,[.s 8,.s 64,.b 1008],[.b 1008],rfl,Sq65,Sq9,rfl,⟨⟨aa,aa,aa⟩,?_,?_⟩,fun x7 w8=>⟨fun w9=>⟨⟨⟨aa,aa,aa⟩,?_,?_⟩,fun x10 kC=>⟨⟨?_,?_⟩,?_⟩⟩,fun dK=>?_⟩⟩⟩,fun iV=>⟨⟨?_,?_⟩,?_⟩⟩,fun gP=>⟨⟨?_,?_⟩,?_⟩⟩,fun qN=>⟨⟨?_,?_⟩,?_⟩⟩,fun ki=>?_⟩
  all_goals first|refine aw ?_|refine ax ?_|exact a8|(dsimp only [ba,cm,jE,pX,o7,mP];omega)|exact a7|exact Int.emod_nonneg _ hn0|exact Int.emod_lt_of_pos _ hnp|exact ZE0 (Int.ofNat_le.2 (dj _)) (by decide)|exact aJ w4|(have e8:x7.2=p7+1:=w8.2;exact hr.at (by omega) (by omega))|exact hr.at (show 0≤p7 by omega) (by omega)|(simp only [gL];have h:=pk (n:=9) (by decide) kC;omega)|(simp only [imax];have h:=pk (n:=9) (by decide) kC;omega)|skip
  ·have e8:x7.2=p7+1:=w8.2
   have e10:x10.2=x7.2+1:=kC.2
   refine⟨[],[],_,_,_,rfl,cg,(((gw ((f0+(i:Int)) % (aj.length:Int)) (max (1:Int) (nth ag an ((f0+(i:Int)) % (aj.length:Int)).toNat)) 0 (nth ab aj ((f0+(i:Int)) % (aj.length:Int)).toNat)).1.1,1+x10.1,(gw ((f0+(i:Int)) % (aj.length:Int)) (max (1:Int) (nth ag an ((f0+(i:Int)) % (aj.length:Int)).toNat)) 0 (nth ab aj ((f0+(i:Int)) % (aj.length:Int)).toNat)).1.2.2.1,(gw ((f0+(i:Int)) % (aj.length:Int)) (max (1:Int) (nth ag an ((f0+(i:Int)) % (aj.length:Int)).toNat)) 0 (nth ab aj ((f0+(i:Int)) % (aj.length:Int)).toNat)).1.2.2.2.1,(gw ((f0+(i:Int)) % (aj.length:Int)) (max (1:Int) (nth ag an ((f0+(i:Int)) % (aj.length:Int)).toNat)) 0 (nth ab aj ((f0+(i:Int)) % (aj.length:Int)).toNat)).1.2.2.2.2),x10.2),⟨by show rp≤x10.2;omega,by show x10.2≤rp+1020;omega⟩,rfl,rfl,rfl⟩
  ·have e8:x7.2=p7+1:=w8.2
   refine⟨[],[],_,_,_,rfl,cg,((gw ((f0+(i:Int)) % (aj.length:Int)) (max (1:Int) (nth ag an ((f0+(i:Int)) % (aj.length:Int)).toNat)) 0 (nth ab aj ((f0+(i:Int)) % (aj.length:Int)).toNat)).1,x7.2),⟨by show rp≤x7.2;omega,by show x7.2≤rp+1020;omega⟩,rfl,rfl,rfl⟩
  ·refine⟨(i+1),[],?_,?_,?_⟩
   rotate_right
   ·exact bW
   ·exact cq w1
   ·show 64-(i+1)<64-i;have:=cq w1;omega
  ·refine⟨(i+1),[],?_,?_,?_⟩
   rotate_right
   ·exact bW
   ·exact cq w1
   ·show 64-(i+1)<64-i;have:=cq w1;omega
  ·refine⟨(i+1),[],?_,?_,?_⟩
   rotate_right
   ·exact bW
   ·exact cq w1
   ·show 64-(i+1)<64-i;have:=cq w1;omega
  ·refine⟨[],[],_,_,_,rfl,cg,((_,_,_,_,_),p7),⟨by show rp≤p7;omega,by show p7≤rp+1020;omega⟩,rfl,rfl,rfl⟩
end GL
end Go.Proofs.YtkgpljpmdkflmaaGreatDoor
