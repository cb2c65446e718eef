/- A drawn law returns true for every code (its row lists package variables, tied by the card): part 33. -/
import Derived.Test.YtclcgjhhehbdeaaGreatDoorPaw
import Derived.Test.YtclcgjhhehbdeaaGreatDoorPay
set_option maxHeartbeats 20000000
set_option maxRecDepth 100000
set_option linter.all false
namespace Go.Proofs.YtclcgjhhehbdeaaGreatDoor
namespace GL
structure Rdr (r:List Int×Int) (n:Int):Prop where
 len:r.1.length≤2000
 jH:∀b∈r.1,0≤b∧b≤255
 p0:0≤r.2
 p1:r.2≤n
abbrev byteOf (l:List Int) (k:Nat):Int:=nth ma l k
def ck (r:List Int×Int) (n:Int):Prop:=Rdr r 1000000∧n≤1000000
def dN (r:List Int×Int) (n:Int) (z:Int×Int):Prop:=(z.1=0∨(0≤z.1∧z.1<n))∧z.2=r.2+1
def KK (r:List Int×Int) (n:Int) (z:Int×Int):AV:=.s (.int z.1)
def OG (r:List Int×Int) (n:Int) (z:Int×Int):List AV:=[.a [.vw ma r.1,.int z.2]]
def ba:cn where
 A:=[.b 0,.s .int]
 B:=[.a [.vw ma,.int]]
 pre:=fun x b=>ck b (x.2)
 α:=fun _ _=>Int×Int
 φ:=fun x b z=>dN b (x.2) z
 r:=fun x b z=>KK b (x.2) z
 o:=fun x b z=>OG b (x.2) z
theorem dh:Has Tryz.prog 21 ba:=by
 refine Has.fl zT zF zF (l:=[]) trivial Tryz.func21 ?_
 rintro⟨_,(n:Int)⟩ ⟨(rb:List Int),(rp:Int)⟩ (hp:ck (rb,rp) n)
 show vc _ _ _ _ (entry [.s (.bp 0 0),.int n] [.a [.vw ma rb,.int rp]]) _
 obtain⟨hr,(hn:n≤1000000)⟩:=hp
 have hp0:0≤rp:=hr.p0
 have hp1:rp≤1000000:=hr.p1
 have hnb:∀k,0≤byteOf rb k∧byteOf rb k≤255:=fun k=>by
  by_cases hk:k<rb.length
  ·exact hr.jH _ (bR (ek:=ma) hk)
  ·show 0≤nth ma rb k∧nth ma rb k≤255;unfold nth;rw [ZD8 (by omega)];exact⟨ZC1 _,by decide⟩
 have hlp:decide ((rb.length:Int)=0)=false→0<(rb.length:Int):=fun h=>by have:=aA h;omega
 have hnp:decide (n<1)=false→0<n:=fun h=>by have:=aA h;omega
 have hnc:∀k,(0:Int)≤nth ma rb k∧(nth ma rb k:Int)≤(255:Int):=hnb
 have c1:=hnc (rp+1-1).toNat
 have c2:=hnc ((rp+1-1) % (rb.length:Int)).toNat
 have c3:=hnc (((rp+1-1)*7+3) % (rb.length:Int)).toNat
 have a1:=hnb (rp+1-1).toNat
 have a2:=hnb ((rp+1-1) % (rb.length:Int)).toNat
 have a3:=hnb (((rp+1-1)*7+3) % (rb.length:Int)).toNat
 have hl2:rb.length≤2000:=hr.len
 have a4:decide ((rb.length:Int)=0)=false→0≤(rp+1-1) / (rb.length:Int)∧(rp+1-1) / (rb.length:Int)≤rp+1-1:=fun h=>⟨Int.ediv_nonneg (by omega) (Int.le_of_lt (hlp h)),Int.ediv_le_self _ (by omega)⟩
 refine⟨⟨?_,?_⟩,aa,fun w1=>?_,fun w2=>⟨fun w3=>?_,fun w4=>⟨⟨?_,?_⟩,fun w5=>⟨⟨?_,?_⟩,⟨?_,?_⟩,⟨?_,?_⟩,?_⟩,fun w6=>⟨Sq0,Sq47,rfl,Sq47,Sq48,rfl,Sq48,Sq49,rfl,[.s 49,.b 0],Sq50,rfl,Sq5,Sq51,rfl,Sq0,Sq52,rfl,Sq52,Sq53,rfl,Sq53,Sq54,rfl,[.s 54,.b 0],Sq55,rfl,Sq55,Sq56,rfl,[.s 51,.s 56],Sq57,rfl,⟨?_,?_⟩,[.s 50,.s 57],Sq58,rfl,⟨?_,?_⟩,Sq58,Sq59,rfl,Sq59,Sq60,rfl,⟨?_,?_⟩,Sq60,Sq61,rfl,⟨?_,?_⟩,Sq0,Sq62,rfl,Sq62,Sq63,rfl,Sq63,Sq64,rfl,[.s 64,.b 0],Sq65,rfl,Sq5,Sq66,rfl,Sq66,Sq67,rfl,⟨?_,?_⟩,Sq67,Sq68,rfl,⟨?_,?_⟩,Sq0,Sq69,rfl,Sq69,Sq70,rfl,Sq70,Sq71,rfl,[.s 71,.b 0],Sq72,rfl,Sq72,Sq73,rfl,[.s 68,.s 73],Sq74,rfl,⟨?_,?_⟩,[.s 65,.s 74],Sq75,rfl,⟨?_,?_⟩,Sq75,Sq76,rfl,Sq76,Sq77,rfl,⟨?_,?_⟩,Sq77,Sq78,rfl,⟨?_,?_⟩,[.s 61,.s 78],Sq79,rfl,⟨?_,?_⟩,Sq5,Sq80,rfl,Sq80,Sq81,rfl,⟨?_,?_⟩,[.s 79,.s 81],Sq82,rfl,⟨?_,?_⟩,Sq5,Sq83,rfl,Sq0,Sq84,rfl,Sq84,Sq85,rfl,Sq85,Sq86,rfl,[.s 86,.b 0],Sq87,rfl,Sq87,Sq88,rfl,[.s 83,.s 88],Sq89,rfl,⟨?_,?_,?_⟩,Sq89,Sq90,rfl,⟨?_,?_⟩,[.s 82,.s 90],Sq91,rfl,⟨?_,?_⟩,Sq91,Sq6,rfl,⟨?_,?_,?_⟩,⟨?_,?_,?_,?_⟩,⟨?_,?_⟩,?_⟩⟩⟩⟩
 all_goals first|refine aw ?_|refine ax ?_|exact a8|exact a7|exact Int.emod_nonneg _ (Int.ne_of_gt (hlp w4))|exact Int.emod_lt_of_pos _ (hlp w4)|(simp only [gJ,imax];omega)|(simp only [gJ,imax];have:=a4 w4;omega)|exact a1.1|exact aJ w5|exact ZE0 a1.2 (by decide)|exact ZE0 a2.2 (by decide)|exact ZE0 a3.2 (by decide)|(show byteOf rb ((rp+1-1) % (rb.length:Int)).toNat*131≤imax;unfold imax;omega)|(show byteOf rb (((rp+1-1)*7+3) % (rb.length:Int)).toNat*1117≤imax;unfold imax;omega)|(show byteOf rb ((rp+1-1) % (rb.length:Int)).toNat*131+byteOf rb (((rp+1-1)*7+3) % (rb.length:Int)).toNat*1117≤imax;unfold imax;omega)|(have:=a4 w4;show (byteOf rb ((rp+1-1) % (rb.length:Int)).toNat*131+byteOf rb (((rp+1-1)*7+3) % (rb.length:Int)).toNat*1117+(rp+1-1)*29+(rp+1-1) / (rb.length:Int)*53) / 64≤imax;unfold imax;omega)|skip
 ·refine⟨[],[],_,_,_,rfl,cf,(0,rp+1),⟨.inl rfl,rfl⟩,rfl,rfl,rfl⟩
 ·refine⟨[],[],_,_,_,rfl,cf,(0,rp+1),⟨.inl rfl,rfl⟩,rfl,rfl,rfl⟩
 ·refine⟨[],[],_,_,_,rfl,cf,(byteOf rb (rp+1-1).toNat % n,rp+1),⟨.inr ⟨Int.emod_nonneg _ (Int.ne_of_gt (hnp w2)),Int.emod_lt_of_pos _ (hnp w2)⟩,rfl⟩,rfl,rfl,rfl⟩
 all_goals first
  |(have:=a4 w4;have h:(byteOf rb ((rp+1-1) % (rb.length:Int)).toNat*131+byteOf rb (((rp+1-1)*7+3) % (rb.length:Int)).toNat*1117+(rp+1-1)*29+(rp+1-1) / (rb.length:Int)*53)≤imax:=by unfold imax;omega
    exact h)
  |(have:=a4 w4;have h:(byteOf rb ((rp+1-1) % (rb.length:Int)).toNat*131+byteOf rb (((rp+1-1)*7+3) % (rb.length:Int)).toNat*1117+(rp+1-1)*29+(rp+1-1) / (rb.length:Int)*53) / 64≤imax:=by unfold imax;omega
    exact h)
  |(have h:byteOf rb ((rp+1-1) % (rb.length:Int)).toNat*131+byteOf rb (((rp+1-1)*7+3) % (rb.length:Int)).toNat*1117+(rp+1-1)*29≤imax:=by unfold imax;omega
    exact h)
  |skip
 ·have hx:=hnp w2
  refine⟨[],[],_,_,_,rfl,az,(_,rp+1),⟨.inr ⟨?_,?_⟩,rfl⟩,rfl,rfl,rfl⟩
  ·exact Int.emod_nonneg _ (Int.ne_of_gt hx)
  ·exact Int.emod_lt_of_pos _ hx
def ib (r:List Int×Int) (n:Int):Prop:=Rdr r 990000∧0≤n∧n≤100
def ff (r:List Int×Int) (n:Int) (z:ByteArray×Int):Prop:=(z.1.size:Int)≤n∧r.2≤z.2∧z.2≤r.2+1000
def QS (r:List Int×Int) (n:Int) (z:ByteArray×Int):AV:=.s (.str z.1)
def VS (r:List Int×Int) (n:Int) (z:ByteArray×Int):List AV:=[.a [.vw ma r.1,.int z.2]]
def cS:cn where
 A:=[.b 0,.s .int]
 B:=[.a [.vw ma,.int]]
 pre:=fun x b=>ib b (x.2)
 α:=fun _ _=>ByteArray×Int
 φ:=fun x b z=>ff b (x.2) z
 r:=fun x b z=>QS b (x.2) z
 o:=fun x b z=>VS b (x.2) z
theorem o7:Has Tryz.prog 27 cS:=by
 refine Has.fl (fun d=> !(Nat.beq d 40)) zF zF (l:=[(21,ba)]) ⟨dh,aa⟩ Tryz.func27 ?_
 rintro⟨_,(n:Int)⟩ ⟨(rb:List Int),(rp:Int)⟩ (hp:ib (rb,rp) n)
 show vc _ _ _ _ (entry [.s (.bp 0 0),.int n] [.a [.vw ma rb,.int rp]]) _
 obtain⟨hr,(hn0:0≤n),(hn1:n≤100)⟩:=hp
 have hp0:0≤rp:=hr.p0
 have hp1:rp≤990000:=hr.p1
 have dE:∀p:Int,0≤p→p≤1000000→Rdr (rb,p) 1000000:=fun p h0 h1=>⟨hr.len,hr.jH,h0,h1⟩
 refine⟨aa,⟨?_,?_⟩,⟨tv3,?_,?_⟩,fun x1 w2=>⟨⟨tv3,?_,?_⟩,fun x3 w4=>?_⟩⟩
 all_goals first|refine aw ?_|refine ax ?_|exact a8|(dsimp only [ba,ck];omega)|exact a7|skip
 ·exact dE rp hp0 (by omega)
 ·have e1:x1.2=rp+1:=w2.2
  exact dE x1.2 (by omega) (by omega)
 ·obtain⟨mv,p1⟩:=x1
  obtain⟨kv,p2⟩:=x3
  have e1:p1=rp+1:=w2.2
  have e2:p2=p1+1:=w4.2
  have hm:mv=0∨(0≤mv∧mv<n+1):=w2.1
  refine cN (l:=[(21,ba)]) (ex:=fun d=> !(Nat.beq d 40)) (wr:=zF) (pt:=zF) ⟨dh,trivial⟩ [.s 0,.s 1,.s 6,.s 7] (fun y:List Int×Int=>[(.s 5,.s (.xs 1010 1 0 y.1.length)),(.b 1010,.rs ma y.1),(.b 0,.a [.vw ma rb,.int y.2])]) (fun y=>y.1.length≤mv.toNat∧rp≤y.2∧y.2≤rp+2+3*(y.1.length:Int)) (fun y=>mv.toNat-y.1.length) ([],p2) [] ⟨ZA7 _,by show rp≤p2;omega,by show p2≤rp+2+3*((0:Nat):Int);omega⟩ dL ?_
  rintro⟨out,p⟩ ⟨(ho:out.length≤mv.toNat),(hq0:rp≤p),(hq1:p≤rp+2+3*(out.length:Int))⟩
  refine⟨fun w1=>⟨fun w2=>⟨⟨tv3,?_,?_⟩,fun x3 w4=>⟨⟨?_,?_⟩,aa,⟨⟨?_,?_⟩,?_,?_⟩,?_⟩⟩,fun w5=>⟨fun w6=>⟨⟨aa,⟨?_,?_⟩,⟨?_,?_⟩,⟨?_,?_⟩,⟨?_,?_⟩,⟨?_,?_⟩,⟨?_,?_⟩,⟨?_,?_⟩,aa⟩,?_,⟨tv3,?_,?_⟩,fun x7 w8=>⟨⟨?_,?_⟩,aa,fun x9 dx=>⟨aa,⟨⟨?_,?_⟩,?_,?_⟩,?_⟩⟩⟩,fun kx=>⟨fun dI=>⟨⟨tv3,?_,?_⟩,fun rS gN=>⟨⟨?_,?_⟩,⟨?_,?_⟩,⟨tv3,?_,?_⟩,fun kt kc=>?_⟩⟩,fun xd=>⟨⟨tv3,?_,?_⟩,fun qD oH=>⟨⟨?_,?_⟩,⟨?_,?_⟩,aa,⟨⟨?_,?_⟩,?_,?_⟩,?_⟩⟩⟩⟩⟩,fun uE=>⟨⟨?_,?_⟩,?_⟩⟩
  all_goals first|refine aw ?_|refine ax ?_|exact a8|(dsimp only [ba,ck];omega)|exact a7|exact dE p (by omega) (by omega)|decide|skip
  ·have h:x3.1=0∨(0≤x3.1∧x3.1<256):=w4.1
   show 0≤x3.1;omega
  ·have h:x3.1=0∨(0≤x3.1∧x3.1<256):=w4.1
   show x3.1≤255;omega
  ·have hl:=aJ (p:=(out.length:Int)<mv) w1
   have e3:x3.2=p+1:=w4.2
   have hlen:(out++[x3.1]).length=out.length+1:=by rw [ZA0];rfl
   refine⟨(out++[x3.1],x3.2),[(1010,1036)],?_,?_,?_⟩
   rotate_right
   ·exact bV
   ·exact⟨by show (out++[x3.1]).length≤mv.toNat;omega,by show rp≤x3.2;omega,by show x3.2≤rp+2+3*((out++[x3.1]).length:Int);omega⟩
   ·show mv.toNat-(out++[x3.1]).length<mv.toNat-out.length;omega
  ·have h:x7.1=0∨(0≤x7.1∧x7.1<7):=w8.1
   show 0≤x7.1;omega
  ·have h:x7.1=0∨(0≤x7.1∧x7.1<7):=w8.1
   show x7.1<7;omega
  ·have hl:=aJ (p:=(out.length:Int)<mv) w1
   have e3:x7.2=p+1:=w8.2
   have hlen:(out++[x9]).length=out.length+1:=by rw [ZA0];rfl
   refine⟨(out++[x9],x7.2),[(1010,1047)],?_,?_,?_⟩
   rotate_right
   ·exact bV
   ·exact⟨by show (out++[x9]).length≤mv.toNat;omega,by show rp≤x7.2;omega,by show x7.2≤rp+2+3*((out++[x9]).length:Int);omega⟩
   ·show mv.toNat-(out++[x9]).length<mv.toNat-out.length;omega
  ·have h:rS.1=0∨(0≤rS.1∧rS.1<3):=gN.1
   show gJ≤97+rS.1;unfold gJ;omega
  ·have h:rS.1=0∨(0≤rS.1∧rS.1<3):=gN.1
   show 97+rS.1≤imax;unfold imax;omega
  ·have h:rS.1=0∨(0≤rS.1∧rS.1<3):=gN.1
   show 0≤97+rS.1;omega
  ·have h:rS.1=0∨(0≤rS.1∧rS.1<3):=gN.1
   show 97+rS.1≤255;omega
  ·have e3:rS.2=p+1:=gN.2
   exact dE rS.2 (by omega) (by omega)
  ·have hl:=aJ (p:=(out.length:Int)<mv) w1
   have e3:rS.2=p+1:=gN.2
   have e4:kt.2=rS.2+1:=kc.2
   have h5:kt.1=0∨(0≤kt.1∧kt.1<6):=kc.1
   refine cN (l:=[(21,ba)]) (ex:=fun d=> !(Nat.beq d 40)) (wr:=zF) (pt:=zF) ⟨dh,trivial⟩ [.s 0,.s 1,.s 6,.s 7,.s 8,.b 0] (fun y:List Int×Int=>[(.s 5,.s (.xs 1010 1 0 y.1.length)),(.s 9,.int y.2),(.b 1010,.rs ma y.1)]) (fun y=>y.1.length≤mv.toNat∧(out.length+1≤y.1.length∨(y.1.length=out.length∧0≤y.2))∧-1≤y.2∧y.2≤6) (fun y=>(y.2+1).toNat) (out,kt.1) [] ⟨ho,.inr ⟨rfl,by show 0≤kt.1;omega⟩,by show -1≤kt.1;omega,by show kt.1≤6;omega⟩ dL ?_
   rintro⟨o2,k⟩ ⟨(g1:o2.length≤mv.toNat),(g2:out.length+1≤o2.length∨(o2.length=out.length∧0≤k)),(g3: -1≤k),(g4:k≤6)⟩
   have hlen:∀z:Int,(o2++[z]).length=o2.length+1:=fun z=>by rw [ZA0];rfl
   refine⟨aa,fun w1=>⟨fun w2=>⟨aa,⟨⟨?_,?_⟩,?_,?_⟩,⟨?_,?_⟩,?_⟩,fun w3=>?_⟩,fun w4=>?_⟩
   all_goals first|refine aw ?_|refine ax ?_|exact a8|(dsimp only [ba,ck];omega)|exact a7|skip
   ·have hm2:=aJ (p:=(o2.length:Int)<mv) w2
    have hk2:=aJ (p:=k≥0) w1
    have hle:=hlen (97+rS.1)
    refine⟨(o2++[97+rS.1],k-1),[(1010,1069)],?_,?_,?_⟩
    rotate_right
    ·exact bV
    ·exact⟨by show (o2++[97+rS.1]).length≤mv.toNat;omega,.inl (by show out.length+1≤(o2++[97+rS.1]).length;omega),by show -1≤k-1;omega,by show k-1≤6;omega⟩
    ·show (k-1+1).toNat<(k+1).toNat;omega
   ·have hm2:=aA (p:=(o2.length:Int)<mv) w3
    have hg:out.length+1≤o2.length:=by omega
    refine⟨(o2,kt.2),[],?_,?_,?_⟩
    rotate_right
    ·exact bV
    ·exact⟨by show (o2).length≤mv.toNat;omega,by show rp≤kt.2;omega,by show kt.2≤rp+2+3*((o2).length:Int);omega⟩
    ·show mv.toNat-(o2).length<mv.toNat-out.length;omega
   ·have hk2:=aA (p:=k≥0) w4
    have hg:out.length+1≤o2.length:=by omega
    refine⟨(o2,kt.2),[],?_,?_,?_⟩
    rotate_right
    ·exact bV
    ·exact⟨by show (o2).length≤mv.toNat;omega,by show rp≤kt.2;omega,by show kt.2≤rp+2+3*((o2).length:Int);omega⟩
    ·show mv.toNat-(o2).length<mv.toNat-out.length;omega
  ·have h:qD.1=0∨(0≤qD.1∧qD.1<2):=oH.1
   show gJ≤qD.1*97;unfold gJ;omega
  ·have h:qD.1=0∨(0≤qD.1∧qD.1<2):=oH.1
   show qD.1*97≤imax;unfold imax;omega
  ·have h:qD.1=0∨(0≤qD.1∧qD.1<2):=oH.1
   show 0≤qD.1*97;omega
  ·have h:qD.1=0∨(0≤qD.1∧qD.1<2):=oH.1
   show qD.1*97≤255;omega
  ·have hl:=aJ (p:=(out.length:Int)<mv) w1
   have e3:qD.2=p+1:=oH.2
   have hlen:(out++[qD.1*97]).length=out.length+1:=by rw [ZA0];rfl
   refine⟨(out++[qD.1*97],qD.2),[(1010,1028)],?_,?_,?_⟩
   rotate_right
   ·exact bV
   ·exact⟨by show (out++[qD.1*97]).length≤mv.toNat;omega,by show rp≤qD.2;omega,by show qD.2≤rp+2+3*((out++[qD.1*97]).length:Int);omega⟩
   ·show mv.toNat-(out++[qD.1*97]).length<mv.toNat-out.length;omega
  ·have hl:=aA (p:=(out.length:Int)<mv) (by assumption)
   have hs:(eZ out).size=out.length:=by rw [eZ,ny];simp
   refine⟨[],[],_,_,_,rfl,cf,(eZ out,p),⟨by show ((eZ out).size:Int)≤n;omega,hq0,by show p≤rp+1000;omega⟩,rfl,rfl,rfl⟩
end GL
namespace GL
theorem Rdr.at {r:List Int×Int}{n m p:Int}(h:Rdr r n) (h0:0≤p) (h1:p≤m):Rdr (r.1,p) m:=⟨h.len,h.jH,h0,h1⟩
theorem pk {z:Int×Int}{n p:Int}(hn:0<n) (h:(z.1=0∨(0≤z.1∧z.1<n))∧z.2=p+1):0≤z.1∧z.1<n:=by
 rcases h.1 with h |h
 ·rw [h];exact⟨ZC1 _,hn⟩
 ·exact h
theorem E7 {ek:EK}{l:List (EK.Ty ek)}{P:EK.Ty ek→Prop}(h0:P (EK.zero ek)) (h:∀x∈l,P x) (k:Nat):P (nth ek l k):=by
 by_cases hk:k<l.length
 ·exact h _ (bR hk)
 ·unfold nth;rw [ZD8 (by omega)];exact h0
def xY (r:List Int×Int):Prop:=Rdr r 990000
def VJ (r:List Int×Int) (z:Int×Int):Prop:=(-1≤z.1∧z.1≤64)∧r.2≤z.2∧z.2≤r.2+2
def U2 (r:List Int×Int) (z:Int×Int):AV:=.s (.int z.1)
def aaY (r:List Int×Int) (z:Int×Int):List AV:=[.a [.vw ma r.1,.int z.2]]
def JP:cn where
 A:=[.b 0]
 B:=[.a [.vw ma,.int]]
 pre:=fun x b=>xY b
 α:=fun _ _=>Int×Int
 φ:=fun x b z=>VJ b z
 r:=fun x b z=>U2 b z
 o:=fun x b z=>aaY b z
theorem adI:Has Tryz.prog 129 JP:=by
 refine Has.fl zT zF zF (l:=[(21,ba)]) ⟨dh,aa⟩ Tryz.func129 ?_
 rintro _ ⟨(rb:List Int),(rp:Int)⟩ (hp:xY (rb,rp))
 show vc _ _ _ _ (entry [.s (.bp 0 0)] [.a [.vw ma rb,.int rp]]) _
 have hr:Rdr (rb,rp) 990000:=hp
 have hp0:0≤rp:=hr.p0
 have hp1:rp≤990000:=hr.p1
 refine⟨⟨tv3,?_,?_⟩,fun x1 w2=>⟨fun w3=>⟨aa,⟨tv3,?_,?_⟩,fun x4 w5=>⟨⟨?_,?_⟩,?_,?_⟩⟩,fun w6=>⟨⟨tv3,?_,?_⟩,fun x7 w8=>⟨⟨?_,?_⟩,?_⟩⟩⟩⟩
 all_goals first|refine aw ?_|refine ax ?_|exact a8|(dsimp only [ba,ck];omega)|exact a7|(have e:x1.2=rp+1:=w2.2;exact hr.at (by omega) (by omega))|exact hr.at hp0 (by omega)|exact (pk (by decide) w5).1|exact (pk (by decide) w5).2|(show x4.1.toNat<6;have h:=pk (n:=6) (by decide) w5;omega)|(show (-9223372036854775808:Int)≤8+x7.1;have h:=pk (n:=12) (by decide) w8;omega)|(show 8+x7.1≤(9223372036854775807:Int);have h:=pk (n:=12) (by decide) w8;omega)|skip
 ·have e1:x1.2=rp+1:=w2.2
  have e2:x4.2=x1.2+1:=w5.2
  refine⟨[],[],_,_,_,rfl,cf,(nth ag [-1,0,3,7,64,63] x4.1.toNat,x4.2),⟨E7 (ek:=ag) (P:=fun x:Int=> -1≤x∧x≤64) (by decide) (by decide) _,by show rp≤x4.2;omega,by show x4.2≤rp+2;omega⟩,rfl,rfl,rfl⟩
 ·have e1:x1.2=rp+1:=w2.2
  have e2:x7.2=x1.2+1:=w8.2
  have h:=pk (n:=12) (by decide) w8
  refine⟨[],[],_,_,_,rfl,cf,(8+x7.1,x7.2),⟨⟨by show -1≤8+x7.1;omega,by show 8+x7.1≤64;omega⟩,by show rp≤x7.2;omega,by show x7.2≤rp+2;omega⟩,rfl,rfl,rfl⟩
def ahe:List ByteArray:=[⟨#[]⟩,⟨#[97]⟩,⟨#[47,47]⟩,⟨#[47,97,47]⟩,⟨#[47,65]⟩,⟨#[47,97,47,98,47,99,47,97,47,98]⟩,⟨#[47,97,98,99,100,101]⟩,⟨#[47,97,47,47,98]⟩]
def ahd:List ByteArray:=[⟨#[47,97]⟩,⟨#[47,98]⟩,⟨#[47,97,47,98]⟩,⟨#[47,97,47,99]⟩,⟨#[47,98,47,97]⟩,⟨#[47,99]⟩,⟨#[47,97,47,98,47,99]⟩,⟨#[47,99,47,97]⟩,⟨#[47,97,98]⟩,⟨#[47]⟩]
def u6 (r:List Int×Int):Prop:=Rdr r 990000
def jk (r:List Int×Int) (z:ByteArray×Int):Prop:=z.1.size≤12∧r.2≤z.2∧z.2≤r.2+2
def QR (r:List Int×Int) (z:ByteArray×Int):AV:=.s (.str z.1)
def VQ (r:List Int×Int) (z:ByteArray×Int):List AV:=[.a [.vw ma r.1,.int z.2]]
def jW:cn where
 A:=[.b 0]
 B:=[.a [.vw ma,.int]]
 pre:=fun x b=>u6 b
 α:=fun _ _=>ByteArray×Int
 φ:=fun x b z=>jk b z
 r:=fun x b z=>QR b z
 o:=fun x b z=>VQ b z
theorem abA:Has Tryz.prog 122 jW:=by
 refine Has.fl zT zF zF (l:=[(21,ba)]) ⟨dh,aa⟩ Tryz.func122 ?_
 rintro _ ⟨(rb:List Int),(rp:Int)⟩ (hp:u6 (rb,rp))
 show vc _ _ _ _ (entry [.s (.bp 0 0)] [.a [.vw ma rb,.int rp]]) _
 have hr:Rdr (rb,rp) 990000:=hp
 have hp0:0≤rp:=hr.p0
 have hp1:rp≤990000:=hr.p1
 refine⟨⟨tv3,?_,?_⟩,fun x1 w2=>⟨fun w3=>⟨aa,⟨tv3,?_,?_⟩,fun x4 w5=>⟨⟨?_,?_⟩,?_,?_⟩⟩,fun w6=>⟨aa,⟨tv3,?_,?_⟩,fun x7 w8=>⟨⟨?_,?_⟩,?_,?_⟩⟩⟩⟩
 all_goals first|refine aw ?_|refine ax ?_|exact a8|(dsimp only [ba,ck];omega)|exact a7|(have e:x1.2=rp+1:=w2.2;exact hr.at (by omega) (by omega))|exact hr.at hp0 (by omega)|exact (pk (by decide) w5).1|exact (pk (by decide) w5).2|exact (pk (by decide) w8).1|exact (pk (by decide) w8).2|(show x4.1.toNat<8;have h:=pk (n:=8) (by decide) w5;omega)|(show x7.1.toNat<10;have h:=pk (n:=10) (by decide) w8;omega)|skip
 ·have e1:x1.2=rp+1:=w2.2
  have e2:x4.2=x1.2+1:=w5.2
  refine⟨[],[],_,_,_,rfl,cf,(nth ab ahe x4.1.toNat,x4.2),⟨E7 (ek:=ab) (P:=fun x:ByteArray=>x.size≤12) (by decide) (by decide) _,by show rp≤x4.2;omega,by show x4.2≤rp+2;omega⟩,rfl,rfl,rfl⟩
 ·have e1:x1.2=rp+1:=w2.2
  have e2:x7.2=x1.2+1:=w8.2
  refine⟨[],[],_,_,_,rfl,cf,(nth ab ahd x7.1.toNat,x7.2),⟨E7 (ek:=ab) (P:=fun x:ByteArray=>x.size≤12) (by decide) (by decide) _,by show rp≤x7.2;omega,by show x7.2≤rp+2;omega⟩,rfl,rfl,rfl⟩
def ya (s:ByteArray) (n:Int):Prop:=s.size≤1000∧0≤n∧n≤1000
def kI (s:ByteArray) (n:Int) (z:ByteArray):Prop:=z.size=s.size*n.toNat
def VA (s:ByteArray) (n:Int) (z:ByteArray):AV:=.s (.str z)
def aa6 (s:ByteArray) (n:Int) (z:ByteArray):List AV:=[]
def l7:cn where
 A:=[.s .str,.s .int]
 B:=[]
 pre:=fun x b=>ya (x.1) (x.2)
 α:=fun _ _=>ByteArray
 φ:=fun x b z=>kI (x.1) (x.2) z
 r:=fun x b z=>VA (x.1) (x.2) z
 o:=fun x b z=>aa6 (x.1) (x.2) z
theorem adM:Has Tryz.prog 34 l7:=by
 refine Has.fl zT zF zF (l:=[]) trivial Tryz.func34 ?_
 rintro⟨(s:ByteArray),(n:Int)⟩ _ (hp:ya s n)
 show vc _ _ _ _ (entry [.str s,.int n] []) _
 obtain⟨hs,(h0:0≤n),(h1:n≤1000)⟩:=hp
 have hb:s.size*n.toNat≤1000000:=ZB0 (Nat.mul_le_mul hs (show n.toNat≤1000 by omega)) (by decide)
 refine ?_
 all_goals first|refine aw ?_|refine ax ?_|exact a8|exact a7|skip
 refine cN (l:=[]) (ex:=zT) (wr:=zF) (pt:=zF) trivial [] (fun y:ByteArray×Int×ByteArray=>[(.s 0,.str y.1),(.s 1,.int y.2.1),(.s 5,.str y.2.2)]) (fun y=>0≤y.2.1∧y.2.1≤1000∧y.2.2.size+y.1.size*y.2.1.toNat=s.size*n.toNat) (fun y=>y.2.1.toNat) (s,n,⟨#[]⟩) [] ⟨h0,h1,by show 0+s.size*n.toNat=s.size*n.toNat;omega⟩ dL ?_
 rintro⟨t,m,out⟩ ⟨(g0:0≤m),(g1:m≤1000),(g2:out.size+t.size*m.toNat=s.size*n.toNat)⟩
 have hm:decide (m>0)=true→t.size≤1000000:=fun h=>by
  have h3:=aJ h
  have:t.size*1≤t.size*m.toNat:=Nat.mul_le_mul_left _ (by omega)
  omega
 have ho:out.size≤1000000:=by omega
 have e2:∀q:Nat,t.size*(2*q)=(t.size+t.size)*q:=fun q=>by rw [Nat.mul_comm 2 q,←Nat.mul_assoc,ZE3];omega
 refine⟨fun w1=>⟨⟨?_,?_⟩,⟨fun w2=>⟨?_,⟨?_,⟨⟨?_,⟨?_,?_⟩⟩,?_⟩⟩⟩,fun w3=>⟨?_,⟨⟨?_,⟨?_,?_⟩⟩,?_⟩⟩⟩⟩,fun w4=>?_⟩
 all_goals first|refine aw ?_|refine ax ?_|exact a8|exact a7|(show ((out.size+t.size:Nat):Int)≤9223372036854775807;have:=hm w1;omega)|(show ((t.size+t.size:Nat):Int)≤9223372036854775807;have:=hm w1;omega)|skip
 ·have h1:=aJ (p:=m>0) w1
  have h2:=aJ (p:=m % 2=1) w2
  have e:m.tdiv 2=m / 2:=Int.tdiv_eq_ediv_of_nonneg g0
  refine⟨(t++t,m / 2,out++t),[],?_,?_,?_⟩
  rotate_right
  ·exact bV
  ·refine⟨by show 0≤m / 2;omega,by show m / 2≤1000;omega,?_⟩
   show (out++t).size+(t++t).size*(m / 2).toNat=_
   rw [ZB2,ZB2,←g2,←e2,show m.toNat=2*(m / 2).toNat+1 by omega,Nat.mul_add];omega
  ·show (m / 2).toNat<m.toNat;omega
 ·have h1:=aJ (p:=m>0) w1
  have h2:=aA (p:=m % 2=1) w3
  refine⟨(t++t,m / 2,out),[],?_,?_,?_⟩
  rotate_right
  ·exact bV
  ·refine⟨by show 0≤m / 2;omega,by show m / 2≤1000;omega,?_⟩
   show out.size+(t++t).size*(m / 2).toNat=_
   rw [ZB2,←g2,←e2,show m.toNat=2*(m / 2).toNat by omega]
  ·show (m / 2).toNat<m.toNat;omega
 ·have h1:=aA (p:=m>0) w4
  refine⟨[],[],_,_,_,rfl,cf,out,show out.size=s.size*n.toNat by rw [←g2,show m.toNat=0 by omega];omega,rfl,rfl,rfl⟩
end GL
namespace GL
def pQ (r:List Int×Int):Prop:=Rdr r 980000
def qc (r:List Int×Int) (z:Pt×Int):Prop:=r.2≤z.2∧z.2≤r.2+1010
def U3 (r:List Int×Int) (z:Pt×Int):AV:=.o (ptA z.1)
def aaZ (r:List Int×Int) (z:Pt×Int):List AV:=[.a [.vw ma r.1,.int z.2]]
def jA:cn where
 A:=[.b 0]
 B:=[.a [.vw ma,.int]]
 pre:=fun x b=>pQ b
 α:=fun _ _=>Pt×Int
 φ:=fun x b z=>qc b z
 r:=fun x b z=>U3 b z
 o:=fun x b z=>aaZ b z
theorem H9:Has Tryz.prog 86 jA:=by
 refine Has.fl zT zF zF (l:=[(21,ba),(27,cS),(87,oW),(129,JP)]) ⟨dh,o7,FD,adI,aa⟩ Tryz.func86 ?_
 rintro _ ⟨(rb:List Int),(rp:Int)⟩ (hp:pQ (rb,rp))
 show vc _ _ _ _ (entry [.s (.bp 0 0)] [.a [.vw ma rb,.int rp]]) _
 have hr:Rdr (rb,rp) 980000:=hp
 have hp0:0≤rp:=hr.p0
 have hp1:rp≤980000:=hr.p1
 refine⟨⟨tv3,?_,?_⟩,fun x1 w2=>⟨fun w3=>?_,fun w4=>⟨⟨tv3,?_,?_⟩,fun x5 w6=>⟨⟨?_,?_⟩,⟨tv3,?_,?_⟩,fun x7 w8=>⟨⟨?_,?_⟩,⟨tv3,?_,?_⟩,fun x9 dx=>⟨⟨tv3,?_,?_,?_⟩,fun ku dI=>⟨?_,⟨tv5,?_⟩,fun rS gN=>⟨⟨tv3,?_,?_⟩,fun kt kc=>⟨fun xd=>⟨⟨tv2,?_⟩,fun qD oH=>?_⟩,fun uE=>⟨fun AY=>⟨aa,⟨tv3,?_,?_⟩,fun x22 xF=>⟨⟨?_,?_⟩,?_,?_⟩⟩,fun rN=>⟨fun w25=>⟨aa,⟨tv3,?_,?_⟩,fun x26 w27=>⟨⟨?_,?_⟩,?_,?_⟩⟩,fun w28=>⟨fun w29=>⟨aa,⟨tv3,?_,?_⟩,fun x30 w31=>⟨⟨?_,?_⟩,?_,?_⟩⟩,fun w32=>⟨fun w33=>⟨aa,⟨tv3,?_,?_⟩,fun x34 w35=>⟨⟨?_,?_⟩,?_,?_⟩⟩,fun w36=>?_⟩⟩⟩⟩⟩⟩⟩⟩⟩⟩⟩⟩⟩
 all_goals first|refine aw ?_|refine ax ?_|exact a8|(dsimp only [ba,ck,cS,ib,oW,mI,JP,xY];omega)|exact a7|(simp only [gJ];have h:=pk (n:=12) (by decide) w6;omega)|(simp only [imax];have h:=pk (n:=12) (by decide) w6;omega)|(simp only [gJ];have h:=pk (n:=9) (by decide) w8;omega)|(simp only [imax];have h:=pk (n:=9) (by decide) w8;omega)|(unfold imax;have h:(ku.1.size:Int)≤9:=dI.1;have h2:(⟨#[116]⟩:ByteArray).size=1:=rfl;omega)|(have e1:x1.2=rp+1:=w2.2;have e5:x5.2=x1.2+1:=w6.2;have e7:x7.2=x5.2+1:=w8.2;have e9:x9.2=x7.2+1:=dx.2;have e11:x9.2≤ku.2∧ku.2≤x9.2+1000:=dI.2;have e15:kt.2=ku.2+1:=kc.2;exact hr.at (by omega) (by omega))|(have e1:x1.2=rp+1:=w2.2;have e5:x5.2=x1.2+1:=w6.2;have e7:x7.2=x5.2+1:=w8.2;have e9:x9.2=x7.2+1:=dx.2;have e11:x9.2≤ku.2∧ku.2≤x9.2+1000:=dI.2;exact hr.at (by omega) (by omega))|(have e1:x1.2=rp+1:=w2.2;have e5:x5.2=x1.2+1:=w6.2;have e7:x7.2=x5.2+1:=w8.2;have e9:x9.2=x7.2+1:=dx.2;exact hr.at (by omega) (by omega))|(have e1:x1.2=rp+1:=w2.2;have e5:x5.2=x1.2+1:=w6.2;have e7:x7.2=x5.2+1:=w8.2;exact hr.at (by omega) (by omega))|(have e1:x1.2=rp+1:=w2.2;have e5:x5.2=x1.2+1:=w6.2;exact hr.at (by omega) (by omega))|(have e1:x1.2=rp+1:=w2.2;exact hr.at (by omega) (by omega))|(exact hr.at (by omega) (by omega))|exact (pk (by decide) xF).1|exact (pk (by decide) xF).2|(show x22.1.toNat<4;have h:=pk (n:=4) (by decide) xF;omega)|exact (pk (by decide) w27).1|exact (pk (by decide) w27).2|(show x26.1.toNat<4;have h:=pk (n:=4) (by decide) w27;omega)|exact (pk (by decide) w31).1|exact (pk (by decide) w31).2|(show x30.1.toNat<4;have h:=pk (n:=4) (by decide) w31;omega)|exact (pk (by decide) w35).1|exact (pk (by decide) w35).2|(show x34.1.toNat<3;have h:=pk (n:=3) (by decide) w35;omega)|skip
 ·refine⟨[],[],_,_,_,rfl,cf,((_,_,_,_,_),x1.2),⟨(by have e1:x1.2=rp+1:=w2.2;show rp≤x1.2;omega),(by have e1:x1.2=rp+1:=w2.2;show x1.2≤rp+1010;omega)⟩,rfl,rfl,rfl⟩
 ·have h:(ku.1.size:Int)≤9:=dI.1
  have h3:((⟨#[116]⟩++ku.1:ByteArray).size:Int)≤1000000000000:=by
   rw [ZB2]
   have h2:(⟨#[116]⟩:ByteArray).size=1:=rfl
   omega
  exact h3
 ·refine⟨[],[],_,_,_,rfl,cf,((_,_,_,_,_),qD.2),⟨(by have e1:x1.2=rp+1:=w2.2;have e5:x5.2=x1.2+1:=w6.2;have e7:x7.2=x5.2+1:=w8.2;have e9:x9.2=x7.2+1:=dx.2;have e11:x9.2≤ku.2∧ku.2≤x9.2+1000:=dI.2;have e15:kt.2=ku.2+1:=kc.2;have e18:kt.2≤qD.2∧qD.2≤kt.2+2:=oH.2;show rp≤qD.2;omega),(by have e1:x1.2=rp+1:=w2.2;have e5:x5.2=x1.2+1:=w6.2;have e7:x7.2=x5.2+1:=w8.2;have e9:x9.2=x7.2+1:=dx.2;have e11:x9.2≤ku.2∧ku.2≤x9.2+1000:=dI.2;have e15:kt.2=ku.2+1:=kc.2;have e18:kt.2≤qD.2∧qD.2≤kt.2+2:=oH.2;show qD.2≤rp+1010;omega)⟩,rfl,rfl,rfl⟩
 ·refine⟨[],[],_,_,_,rfl,cf,((_,(nth ag [0,-1,900,901] x22.1.toNat:Int),_,_,_),x22.2),⟨(by have e1:x1.2=rp+1:=w2.2;have e5:x5.2=x1.2+1:=w6.2;have e7:x7.2=x5.2+1:=w8.2;have e9:x9.2=x7.2+1:=dx.2;have e11:x9.2≤ku.2∧ku.2≤x9.2+1000:=dI.2;have e15:kt.2=ku.2+1:=kc.2;have e22:x22.2=kt.2+1:=xF.2;show rp≤x22.2;omega),(by have e1:x1.2=rp+1:=w2.2;have e5:x5.2=x1.2+1:=w6.2;have e7:x7.2=x5.2+1:=w8.2;have e9:x9.2=x7.2+1:=dx.2;have e11:x9.2≤ku.2∧ku.2≤x9.2+1000:=dI.2;have e15:kt.2=ku.2+1:=kc.2;have e22:x22.2=kt.2+1:=xF.2;show x22.2≤rp+1010;omega)⟩,rfl,rfl,rfl⟩
 ·refine⟨[],[],_,_,_,rfl,cf,((_,_,(nth ag [0,-1,128,129] x26.1.toNat:Int),_,_),x26.2),⟨(by have e1:x1.2=rp+1:=w2.2;have e5:x5.2=x1.2+1:=w6.2;have e7:x7.2=x5.2+1:=w8.2;have e9:x9.2=x7.2+1:=dx.2;have e11:x9.2≤ku.2∧ku.2≤x9.2+1000:=dI.2;have e15:kt.2=ku.2+1:=kc.2;have e26:x26.2=kt.2+1:=w27.2;show rp≤x26.2;omega),(by have e1:x1.2=rp+1:=w2.2;have e5:x5.2=x1.2+1:=w6.2;have e7:x7.2=x5.2+1:=w8.2;have e9:x9.2=x7.2+1:=dx.2;have e11:x9.2≤ku.2∧ku.2≤x9.2+1000:=dI.2;have e15:kt.2=ku.2+1:=kc.2;have e26:x26.2=kt.2+1:=w27.2;show x26.2≤rp+1010;omega)⟩,rfl,rfl,rfl⟩
 ·refine⟨[],[],_,_,_,rfl,cf,((_,_,_,(nth ag [-1,99460728,99460729,0] x30.1.toNat:Int),_),x30.2),⟨(by have e1:x1.2=rp+1:=w2.2;have e5:x5.2=x1.2+1:=w6.2;have e7:x7.2=x5.2+1:=w8.2;have e9:x9.2=x7.2+1:=dx.2;have e11:x9.2≤ku.2∧ku.2≤x9.2+1000:=dI.2;have e15:kt.2=ku.2+1:=kc.2;have e30:x30.2=kt.2+1:=w31.2;show rp≤x30.2;omega),(by have e1:x1.2=rp+1:=w2.2;have e5:x5.2=x1.2+1:=w6.2;have e7:x7.2=x5.2+1:=w8.2;have e9:x9.2=x7.2+1:=dx.2;have e11:x9.2≤ku.2∧ku.2≤x9.2+1000:=dI.2;have e15:kt.2=ku.2+1:=kc.2;have e30:x30.2=kt.2+1:=w31.2;show x30.2≤rp+1010;omega)⟩,rfl,rfl,rfl⟩
 ·refine⟨[],[],_,_,_,rfl,cf,((_,_,_,_,(nth ag [-1,3,2] x34.1.toNat:Int)),x34.2),⟨(by have e1:x1.2=rp+1:=w2.2;have e5:x5.2=x1.2+1:=w6.2;have e7:x7.2=x5.2+1:=w8.2;have e9:x9.2=x7.2+1:=dx.2;have e11:x9.2≤ku.2∧ku.2≤x9.2+1000:=dI.2;have e15:kt.2=ku.2+1:=kc.2;have e34:x34.2=kt.2+1:=w35.2;show rp≤x34.2;omega),(by have e1:x1.2=rp+1:=w2.2;have e5:x5.2=x1.2+1:=w6.2;have e7:x7.2=x5.2+1:=w8.2;have e9:x9.2=x7.2+1:=dx.2;have e11:x9.2≤ku.2∧ku.2≤x9.2+1000:=dI.2;have e15:kt.2=ku.2+1:=kc.2;have e34:x34.2=kt.2+1:=w35.2;show x34.2≤rp+1010;omega)⟩,rfl,rfl,rfl⟩
 ·refine⟨[],[],_,_,_,rfl,cf,((_,_,_,_,_),kt.2),⟨(by have e1:x1.2=rp+1:=w2.2;have e5:x5.2=x1.2+1:=w6.2;have e7:x7.2=x5.2+1:=w8.2;have e9:x9.2=x7.2+1:=dx.2;have e11:x9.2≤ku.2∧ku.2≤x9.2+1000:=dI.2;have e15:kt.2=ku.2+1:=kc.2;show rp≤kt.2;omega),(by have e1:x1.2=rp+1:=w2.2;have e5:x5.2=x1.2+1:=w6.2;have e7:x7.2=x5.2+1:=w8.2;have e9:x9.2=x7.2+1:=dx.2;have e11:x9.2≤ku.2∧ku.2≤x9.2+1000:=dI.2;have e15:kt.2=ku.2+1:=kc.2;show kt.2≤rp+1010;omega)⟩,rfl,rfl,rfl⟩
end GL
namespace GL
def r8 (r:List Int×Int):Prop:=Rdr r 980000
def aaN (r:List Int×Int) (z:Opr×Int):Prop:=(z.1.2.1.size≤30∧z.1.2.2.1.size≤30∧z.1.2.2.2.2.size≤30)∧r.2≤z.2∧z.2≤r.2+1020
def aaE (r:List Int×Int) (z:Opr×Int):AV:=.o (.a [.int z.1.1,.str z.1.2.1,.str z.1.2.2.1,.int z.1.2.2.2.1,.str z.1.2.2.2.2])
def acU (r:List Int×Int) (z:Opr×Int):List AV:=[.a [.vw ma r.1,.int z.2]]
def tU:cn where
 A:=[.b 0]
 B:=[.a [.vw ma,.int]]
 pre:=fun x b=>r8 b
 α:=fun _ _=>Opr×Int
 φ:=fun x b z=>aaN b z
 r:=fun x b z=>aaE b z
 o:=fun x b z=>acU b z
theorem O3:Has Tryz.prog 82 tU:=by
 refine Has.fl zT zF zF (l:=[(21,ba),(122,jW),(27,cS),(34,l7)]) ⟨dh,abA,o7,adM,aa⟩ Tryz.func82 ?_
 rintro _ ⟨(rb:List Int),(rp:Int)⟩ (hp:r8 (rb,rp))
 show vc _ _ _ _ (entry [.s (.bp 0 0)] [.a [.vw ma rb,.int rp]]) _
 have hr:Rdr (rb,rp) 980000:=hp
 have hp0:0≤rp:=hr.p0
 have hp1:rp≤980000:=hr.p1
 refine⟨[.b 1004],[.s 4,.b 1004],rfl,aa,Sq0,Sq5,rfl,[.s 5,.b 0],[.s 6,.b 0],rfl,⟨tv3,?_,?_⟩,?_,fun x1 w2=>⟨[.s 4,.s 6],Sq7,rfl,⟨?_,?_⟩,[.s 7,.b 1004],Sq8,rfl,?_,Sq0,Sq9,rfl,[.s 9,.b 0],[.s 10,.b 0],rfl,⟨tv2,?_⟩,?_,fun x3 w4=>⟨[.s 8,.s 10],Sq11,rfl,[.b 1003],[.s 3,.b 1003],rfl,[.s 3,.s 11,.b 1003],[.b 1003],rfl,fun w5=>⟨aa,⟨tv3,?_,?_⟩,fun x6 w7=>⟨⟨?_,?_⟩,?_,⟨tv3,?_,?_,?_⟩,fun x8 w9=>⟨⟨tv3,?_,?_⟩,fun x10 kx=>⟨fun dI=>⟨aa,⟨tv3,?_,?_⟩,fun rS gN=>⟨⟨?_,?_⟩,?_,?_⟩⟩,fun qG=>⟨fun kc=>⟨aa,⟨tv3,?_,?_⟩,fun x17 rO=>⟨⟨?_,?_⟩,?_,?_⟩⟩,fun oH=>⟨fun uE=>⟨⟨tv3,?_,?_⟩,fun x21 AX=>⟨⟨?_,?_⟩,⟨tv3,?_,?_,?_⟩,fun x23 rN=>?_⟩⟩,fun w25=>⟨fun w26=>⟨⟨tv2,?_⟩,fun x27 w28=>?_⟩,fun w29=>?_⟩⟩⟩⟩⟩⟩⟩,fun w30=>⟨fun w31=>⟨aa,⟨tv3,?_,?_⟩,fun x32 w33=>⟨⟨?_,?_⟩,?_,⟨tv3,?_,?_⟩,fun x34 w35=>⟨fun w36=>⟨aa,⟨tv3,?_,?_⟩,fun x37 w38=>⟨⟨?_,?_⟩,?_,?_⟩⟩,fun w39=>⟨fun w40=>⟨aa,⟨tv3,?_,?_⟩,fun x41 w42=>⟨⟨?_,?_⟩,?_,?_⟩⟩,fun w43=>⟨fun w44=>⟨⟨tv3,?_,?_⟩,fun x45 w46=>⟨⟨?_,?_⟩,⟨tv3,?_,?_,?_⟩,fun x47 w48=>?_⟩⟩,fun w49=>⟨fun w50=>⟨⟨tv2,?_⟩,fun x51 w52=>?_⟩,fun w53=>?_⟩⟩⟩⟩⟩⟩,fun w54=>⟨fun w55=>⟨fun w56=>⟨⟨tv2,?_⟩,fun x57 w58=>⟨⟨tv3,?_,?_⟩,fun x59 w60=>⟨fun w61=>⟨aa,⟨tv3,?_,?_⟩,fun x62 w63=>⟨⟨?_,?_⟩,?_,?_⟩⟩,fun w64=>⟨fun w65=>⟨aa,⟨tv3,?_,?_⟩,fun x66 w67=>⟨⟨?_,?_⟩,?_,?_⟩⟩,fun w68=>⟨fun w69=>⟨⟨tv3,?_,?_⟩,fun x70 w71=>⟨⟨?_,?_⟩,⟨tv3,?_,?_,?_⟩,fun x72 w73=>?_⟩⟩,fun w74=>⟨fun w75=>⟨⟨tv2,?_⟩,fun x76 w77=>?_⟩,fun w78=>?_⟩⟩⟩⟩⟩⟩,fun w79=>⟨⟨tv3,?_,?_⟩,fun x80 w81=>⟨fun w82=>⟨aa,⟨tv3,?_,?_⟩,fun x83 w84=>⟨⟨?_,?_⟩,?_,?_⟩⟩,fun w85=>⟨fun w86=>⟨aa,⟨tv3,?_,?_⟩,fun x87 w88=>⟨⟨?_,?_⟩,?_,?_⟩⟩,fun w89=>⟨fun w90=>⟨⟨tv3,?_,?_⟩,fun x91 w92=>⟨⟨?_,?_⟩,⟨tv3,?_,?_,?_⟩,fun x93 w94=>?_⟩⟩,fun w95=>⟨fun w96=>⟨⟨tv2,?_⟩,fun x97 w98=>?_⟩,fun w99=>?_⟩⟩⟩⟩⟩⟩,fun alZ=>⟨fun akl=>⟨⟨tv2,?_⟩,fun akj alX=>⟨⟨tv3,?_,?_⟩,fun aki alW=>⟨fun alV=>⟨aa,⟨tv3,?_,?_⟩,fun akh alU=>⟨⟨?_,?_⟩,?_,?_⟩⟩,fun alT=>⟨fun alS=>⟨aa,⟨tv3,?_,?_⟩,fun akg alR=>⟨⟨?_,?_⟩,?_,?_⟩⟩,fun alQ=>⟨fun alP=>⟨⟨tv3,?_,?_⟩,fun akf alO=>⟨⟨?_,?_⟩,⟨tv3,?_,?_,?_⟩,fun ake alN=>?_⟩⟩,fun alM=>⟨fun alL=>⟨⟨tv2,?_⟩,fun akd alK=>?_⟩,fun alJ=>?_⟩⟩⟩⟩⟩⟩,fun alI=>⟨⟨tv3,?_,?_⟩,fun akc alH=>⟨fun alG=>⟨aa,⟨tv3,?_,?_⟩,fun akb alF=>⟨⟨?_,?_⟩,?_,?_⟩⟩,fun alE=>⟨fun alD=>⟨aa,⟨tv3,?_,?_⟩,fun aka alC=>⟨⟨?_,?_⟩,?_,?_⟩⟩,fun alB=>⟨fun alA=>⟨⟨tv3,?_,?_⟩,fun aj9 alz=>⟨⟨?_,?_⟩,⟨tv3,?_,?_,?_⟩,fun aj8 aly=>?_⟩⟩,fun alx=>⟨fun alw=>⟨⟨tv2,?_⟩,fun aj7 alv=>?_⟩,fun alu=>?_⟩⟩⟩⟩⟩⟩⟩⟩⟩⟩⟩
 all_goals first|refine aw ?_|refine ax ?_|exact a8|(dsimp only [ba,ck,jW,u6,cS,ib,l7,ya];omega)|exact a7|exact hr.at hp0 (by omega)|(refine hr.at ?_ ?_<;>(dsimp only [ba,dN,jW,jk,cS,ff,l7,kI,dB] at * <;>omega))|(show _<((List.length _:Nat):Int);dsimp only [ba,dN,jW,jk,cS,ff,l7,kI,dB,List.length_cons,List.length_nil] at *;omega)|(show Int.toNat _<_;dsimp only [ba,dN,jW,jk,cS,ff,l7,kI,dB,List.length_cons,List.length_nil] at *;omega)|(dsimp only [ba,dN,jW,jk,cS,ff,l7,kI,dB] at *;omega)|exact⟨(0,rp+1),.inl rfl,rfl⟩|exact⟨(⟨#[]⟩,x1.2),ZA7 _,ZC1 _,(by show x1.2≤x1.2+2;omega)⟩|(simp only [gJ,imax];dsimp only [ba,dN,jW,jk,cS,ff,l7,kI,dB] at *;omega)|(show (1:Nat)≤1000;omega)|skip
 all_goals
  first
   |refine⟨[],[],_,_,_,rfl,az,(((_:EK.Ty ag),_,_,(_:EK.Ty ag),_),_),⟨⟨?_,?_,?_⟩,?_,?_⟩,rfl,rfl,rfl⟩
   |refine⟨[],[],_,_,_,rfl,az,(((_:EK.Ty ag),_,_,_,_),_),⟨⟨?_,?_,?_⟩,?_,?_⟩,rfl,rfl,rfl⟩
  all_goals
   try cases x1
   try cases x3
   try cases x6
   try cases x8
   try cases x10
   try cases rS
   try cases x17
   try cases x21
   try cases x23
   try cases x27
   try cases x32
   try cases x34
   try cases x37
   try cases x41
   try cases x45
   try cases x47
   try cases x51
   try cases x57
   try cases x59
   try cases x62
   try cases x66
   try cases x70
   try cases x72
   try cases x76
   try cases x80
   try cases x83
   try cases x87
   try cases x91
   try cases x93
   try cases x97
   try cases akj
   try cases aki
   try cases akh
   try cases akg
   try cases akf
   try cases ake
   try cases akd
   try cases akc
   try cases akb
   try cases aka
   try cases aj9
   try cases aj8
   try cases aj7
  all_goals (dsimp only [ba,dN,jW,jk,cS,ff,l7,kI,dB] at *;first|omega|exact ZA7 _|(simp only [show (⟨#[117]⟩:ByteArray).size=1 from rfl,Nat.one_mul] at *;omega))
end GL
namespace GL
structure aj2 (l:List Int):Prop where
 len:l.length≤2000000
 jH:∀b∈l,0≤b∧b≤255
def G2 (c:List Int):Prop:=aj2 c
def VK (c:List Int) (z:List Int):Prop:=Rdr (z,0) 0
def U9 (c:List Int) (z:List Int):AV:=.s (.bp 0 0)
def aa5 (c:List Int) (z:List Int):List AV:=[.a [.vw ma z,.int 0]]
def ae8:cn where
 A:=[.s (.vw ma)]
 B:=[]
 pre:=fun x b=>G2 x
 α:=fun _ _=>List Int
 φ:=fun x b z=>VK x z
 r:=fun x b z=>U9 x z
 o:=fun x b z=>aa5 x z
 nf:=1
theorem aiX:Has Tryz.prog 19 ae8:=by
 refine Has.fl zT zF zF (l:=[]) trivial Tryz.func19 ?_
 rintro (c:List Int) _ (hp:G2 c)
 show vc _ _ _ _ (entry [.s (.vw ma c)] []) _
 have hb:aj2 c:=hp
 refine⟨fun w1=>⟨⟨?_,⟨?_,?_⟩⟩,?_⟩,fun w2=>?_⟩
 all_goals first|refine aw ?_|refine ax ?_|exact a8|exact a7|skip
 ·refine⟨[1010],[],_,_,_,rfl,cf,List.take 2000 (List.drop 0 c),⟨by rw [ZC0];omega,fun b h=>hb.jH b (ZF2 (ZE6 h)),ZC1 _,ZC1 _⟩,rfl,rfl,rfl⟩
 ·refine⟨[1010],[],_,_,_,rfl,cf,c,⟨by have:=aA (p:=(c.length:Int)>2000) w2;show c.length≤2000;omega,hb.jH,ZC1 _,ZC1 _⟩,rfl,rfl,rfl⟩
end GL
namespace GL
def lG (r:List Int×Int) (S:ay):Prop:=Rdr r 970000∧S.wf
def N9 (r:List Int×Int) (S:ay) (z:Pt×Int):Prop:=r.2≤z.2∧z.2≤r.2+1020
def NY (r:List Int×Int) (S:ay) (z:Pt×Int):AV:=.o (ptA z.1)
def RR (r:List Int×Int) (S:ay) (z:Pt×Int):List AV:=[.a [.vw ma r.1,.int z.2]]
def kK:cn where
 A:=[.b 0,.a xq]
 B:=[.a [.vw ma,.int]]
 pre:=fun x b=>lG b (x.2)
 α:=fun _ _=>Pt×Int
 φ:=fun x b z=>N9 b (x.2) z
 r:=fun x b z=>NY b (x.2) z
 o:=fun x b z=>RR b (x.2) z
theorem yw:Has Tryz.prog 50 kK:=by
 refine Has.fl zT zF zF (l:=[(21,ba),(86,jA),(87,oW)]) ⟨dh,H9,FD,aa⟩ Tryz.func50 ?_
 rintro⟨_,⟨(aj:List ByteArray),(ak:List Int),(an:List Int),(ao:Int),(ah:List Pt),(aq:Int),(ai:List Pt),(ar:Bool)⟩⟩ ⟨(rb:List Int),(rp:Int)⟩ (hp:lG (rb,rp) (aj,ak,an,ao,ah,aq,ai,ar))
 show vc _ _ _ _ (entry [.s (.bp 0 0),.a [.vz ab aj,.vz ag ak,.vz ag an,.int ao,.vz ae ah,.int aq,.vz ae ai,.q ar]] [.a [.vw ma rb,.int rp]]) _
 obtain⟨hr,oJ⟩:=hp
 have hr:Rdr (rb,rp) 970000:=hr
 have oJ:ay.wf (aj,ak,an,ao,ah,aq,ai,ar):=oJ
 have hp0:0≤rp:=hr.p0
 have hp1:rp≤970000:=hr.p1
 have hl:aj.length=64∧ak.length=64∧an.length=64:=oJ.n
 refine⟨⟨tv3,?_,?_⟩,fun x1 w2=>⟨fun w3=>⟨⟨tv2,?_⟩,fun x4 w5=>?_⟩,fun w6=>⟨⟨tv3,?_,?_⟩,fun x7 w8=>?_⟩⟩⟩
 all_goals first|refine aw ?_|refine ax ?_|exact a8|(dsimp only [ba,ck,jA,pQ,oW,mI];omega)|exact a7|exact hr.at hp0 (by omega)|(have e:x1.2=rp+1:=w2.2;exact hr.at (by omega) (by omega))|skip
 ·have e1:x1.2=rp+1:=w2.2
  have e2:x1.2≤x4.2∧x4.2≤x1.2+1010:=w5
  refine⟨[],[],_,_,_,rfl,cf,((_,_,_,_,_),x4.2),⟨by show rp≤x4.2;omega,by show x4.2≤rp+1020;omega⟩,rfl,rfl,rfl⟩
 ·have e1:x1.2=rp+1:=w2.2
  have f7:=pk (n:=64) (by decide) w8
  obtain⟨f0,p7⟩:=x7
  have e7:p7=x1.2+1:=w8.2
  have hn0:((aj.length:Nat):Int)≠0:=by rw [hl.1];decide
  have hnp:(0:Int)<(aj.length:Int):=by rw [hl.1];decide
  have dj:∀k,(nth ab aj k).size≤1000000:=fun k=>E7 (ek:=ab) (P:=fun x:ByteArray=>x.size≤1000000) (ZA7 _) oJ.sz k
  refine cN (l:=[(21,ba),(86,jA),(87,oW)]) (ex:=zT) (wr:=zF) (pt:=zF) ⟨dh,H9,FD,aa⟩ [.s 0,.s 3,.b 1003,.s 4,.b 1004,.s 5,.b 0] (fun i:Nat=>[(.s 6,.int i)]) (fun i=>i≤64) (fun i=>64-i) 0 [] (ZA7 _) dL ?_
  rintro i (hi:i≤64)
  have cm:decide ((i:Int)<(aj.length:Int))=true→i<64:=fun h=>by have:=aJ h;omega
  refine⟨fun w1=>⟨⟨?_,?_⟩,⟨?_,?_⟩,⟨?_,?_⟩,aa,fun w2=>⟨aa,fun w3=>⟨fun w4=>⟨Sq7,Sq50,rfl,Sq3,Sq51,rfl,Sq51,Sq52,rfl,[.s 52,.b 1003],Sq53,rfl,Sq7,Sq54,rfl,[.s 53,.s 54],Sq55,rfl,⟨?_,?_⟩,Sq55,Sq56,rfl,Sq56,Sq57,rfl,Sq3,Sq58,rfl,[.s 58,.b 1003],Sq59,rfl,Sq7,Sq60,rfl,[.s 59,.s 60],Sq61,rfl,⟨?_,?_⟩,Sq61,Sq62,rfl,[.s 50,.s 57,.s 62],Sq63,rfl,⟨tv5,?_⟩,?_,fun x5 w6=>⟨Sq63,Sq49,rfl,Sq49,Sq64,rfl,Sq49,Sq65,rfl,[.b 1008],[.s 8,.b 1008],rfl,[.s 8,.s 64,.b 1008],[.b 1008],rfl,Sq65,Sq9,rfl,⟨tv3,?_,?_⟩,fun x7 w8=>⟨fun w9=>⟨⟨tv3,?_,?_⟩,fun x10 kx=>⟨⟨?_,?_⟩,?_⟩⟩,fun dI=>?_⟩⟩⟩,fun iS=>⟨⟨?_,?_⟩,?_⟩⟩,fun gN=>⟨⟨?_,?_⟩,?_⟩⟩,fun qG=>⟨⟨?_,?_⟩,?_⟩⟩,fun kc=>?_⟩
  all_goals first|refine aw ?_|refine ax ?_|exact a8|(dsimp only [ba,ck,jA,pQ,oW,mI];omega)|exact a7|exact Int.emod_nonneg _ hn0|exact Int.emod_lt_of_pos _ hnp|exact ZE0 (Int.ofNat_le.2 (dj _)) (by decide)|exact aJ w4|(have e8:x7.2=p7+1:=w8.2;exact hr.at (by omega) (by omega))|exact hr.at (show 0≤p7 by omega) (by omega)|(simp only [gJ];have h:=pk (n:=9) (by decide) kx;omega)|(simp only [imax];have h:=pk (n:=9) (by decide) kx;omega)|skip
  ·have e8:x7.2=p7+1:=w8.2
   have e10:x10.2=x7.2+1:=kx.2
   refine⟨[],[],_,_,_,rfl,cf,(((gu ((f0+(i:Int)) % (aj.length:Int)) (max (1:Int) (nth ag an ((f0+(i:Int)) % (aj.length:Int)).toNat)) 0 (nth ab aj ((f0+(i:Int)) % (aj.length:Int)).toNat)).1.1,1+x10.1,(gu ((f0+(i:Int)) % (aj.length:Int)) (max (1:Int) (nth ag an ((f0+(i:Int)) % (aj.length:Int)).toNat)) 0 (nth ab aj ((f0+(i:Int)) % (aj.length:Int)).toNat)).1.2.2.1,(gu ((f0+(i:Int)) % (aj.length:Int)) (max (1:Int) (nth ag an ((f0+(i:Int)) % (aj.length:Int)).toNat)) 0 (nth ab aj ((f0+(i:Int)) % (aj.length:Int)).toNat)).1.2.2.2.1,(gu ((f0+(i:Int)) % (aj.length:Int)) (max (1:Int) (nth ag an ((f0+(i:Int)) % (aj.length:Int)).toNat)) 0 (nth ab aj ((f0+(i:Int)) % (aj.length:Int)).toNat)).1.2.2.2.2),x10.2),⟨by show rp≤x10.2;omega,by show x10.2≤rp+1020;omega⟩,rfl,rfl,rfl⟩
  ·have e8:x7.2=p7+1:=w8.2
   refine⟨[],[],_,_,_,rfl,cf,((gu ((f0+(i:Int)) % (aj.length:Int)) (max (1:Int) (nth ag an ((f0+(i:Int)) % (aj.length:Int)).toNat)) 0 (nth ab aj ((f0+(i:Int)) % (aj.length:Int)).toNat)).1,x7.2),⟨by show rp≤x7.2;omega,by show x7.2≤rp+1020;omega⟩,rfl,rfl,rfl⟩
  ·refine⟨(i+1),[],?_,?_,?_⟩
   rotate_right
   ·exact bV
   ·exact cm w1
   ·show 64-(i+1)<64-i;have:=cm w1;omega
  ·refine⟨(i+1),[],?_,?_,?_⟩
   rotate_right
   ·exact bV
   ·exact cm w1
   ·show 64-(i+1)<64-i;have:=cm w1;omega
  ·refine⟨(i+1),[],?_,?_,?_⟩
   rotate_right
   ·exact bV
   ·exact cm w1
   ·show 64-(i+1)<64-i;have:=cm w1;omega
  ·refine⟨[],[],_,_,_,rfl,cf,((_,_,_,_,_),p7),⟨by show rp≤p7;omega,by show p7≤rp+1020;omega⟩,rfl,rfl,rfl⟩
end GL
end Go.Proofs.YtclcgjhhehbdeaaGreatDoor
