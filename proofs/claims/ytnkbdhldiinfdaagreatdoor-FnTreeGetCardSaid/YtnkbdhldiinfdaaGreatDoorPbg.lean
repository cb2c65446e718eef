/- A drawn law returns true for every code (its row lists package variables, tied by the card): part 33. -/
import Derived.Test.YtnkbdhldiinfdaaGreatDoorPaw
import Derived.Test.YtnkbdhldiinfdaaGreatDoorPay
set_option maxHeartbeats 20000000
set_option maxRecDepth 100000
set_option linter.all false
namespace Go.Proofs.YtnkbdhldiinfdaaGreatDoor
namespace GL
structure Rdr (r:List Int×Int) (n:Int):Prop where
 len:r.1.length≤2000
 jK:∀b∈r.1,0≤b∧b≤255
 p0:0≤r.2
 p1:r.2≤n
abbrev byteOf (l:List Int) (k:Nat):Int:=nth mf l k
def ck (r:List Int×Int) (n:Int):Prop:=Rdr r 1000000∧n≤1000000
def dO (r:List Int×Int) (n:Int) (z:Int×Int):Prop:=(z.1=0∨(0≤z.1∧z.1<n))∧z.2=r.2+1
def KQ (r:List Int×Int) (n:Int) (z:Int×Int):AV:=.s (.int z.1)
def OM (r:List Int×Int) (n:Int) (z:Int×Int):List AV:=[.a [.vw mf r.1,.int z.2]]
def ba:cn where
 A:=[.b 0,.s .int]
 B:=[.a [.vw mf,.int]]
 pre:=fun x b=>ck b (x.2)
 α:=fun _ _=>Int×Int
 φ:=fun x b z=>dO b (x.2) z
 r:=fun x b z=>KQ b (x.2) z
 o:=fun x b z=>OM b (x.2) z
theorem dh:Has Tryz.prog 58 ba:=by
 refine Has.fm zT zF zF (l:=[]) trivial Tryz.func58 ?_
 rintro⟨_,(n:Int)⟩ ⟨(rb:List Int),(rp:Int)⟩ (hp:ck (rb,rp) n)
 show vc _ _ _ _ (entry [.s (.bp 0 0),.int n] [.a [.vw mf rb,.int rp]]) _
 obtain⟨hr,(hn:n≤1000000)⟩:=hp
 have hp0:0≤rp:=hr.p0
 have hp1:rp≤1000000:=hr.p1
 have hnb:∀k,0≤byteOf rb k∧byteOf rb k≤255:=fun k=>by
  by_cases hk:k<rb.length
  ·exact hr.jK _ (bR (ek:=mf) hk)
  ·show 0≤nth mf rb k∧nth mf rb k≤255;unfold nth;rw [ZD8 (by omega)];exact⟨ZC1 _,by decide⟩
 have hlp:decide ((rb.length:Int)=0)=false→0<(rb.length:Int):=fun h=>by have:=aA h;omega
 have hnp:decide (n<1)=false→0<n:=fun h=>by have:=aA h;omega
 have hnc:∀k,(0:Int)≤nth mf rb k∧(nth mf rb k:Int)≤(255:Int):=hnb
 have c1:=hnc (rp+1-1).toNat
 have c2:=hnc ((rp+1-1) % (rb.length:Int)).toNat
 have c3:=hnc (((rp+1-1)*7+3) % (rb.length:Int)).toNat
 have a1:=hnb (rp+1-1).toNat
 have a2:=hnb ((rp+1-1) % (rb.length:Int)).toNat
 have a3:=hnb (((rp+1-1)*7+3) % (rb.length:Int)).toNat
 have hl2:rb.length≤2000:=hr.len
 have a4:decide ((rb.length:Int)=0)=false→0≤(rp+1-1) / (rb.length:Int)∧(rp+1-1) / (rb.length:Int)≤rp+1-1:=fun h=>⟨Int.ediv_nonneg (by omega) (Int.le_of_lt (hlp h)),Int.ediv_le_self _ (by omega)⟩
 refine⟨⟨?_,?_⟩,aa,fun w1=>?_,fun w2=>⟨fun w3=>?_,fun w4=>⟨⟨?_,?_⟩,fun w5=>⟨⟨?_,?_⟩,⟨?_,?_⟩,⟨?_,?_⟩,?_⟩,fun w6=>⟨Sq0,Sq47,rfl,Sq47,Sq48,rfl,Sq48,Sq49,rfl,[.s 49,.b 0],Sq50,rfl,Sq5,Sq51,rfl,Sq0,Sq52,rfl,Sq52,Sq53,rfl,Sq53,Sq54,rfl,[.s 54,.b 0],Sq55,rfl,Sq55,Sq56,rfl,[.s 51,.s 56],Sq57,rfl,⟨?_,?_⟩,[.s 50,.s 57],Sq58,rfl,⟨?_,?_⟩,Sq58,Sq59,rfl,Sq59,Sq60,rfl,⟨?_,?_⟩,Sq60,Sq61,rfl,⟨?_,?_⟩,Sq0,Sq62,rfl,Sq62,Sq63,rfl,Sq63,Sq64,rfl,[.s 64,.b 0],Sq65,rfl,Sq5,Sq66,rfl,Sq66,Sq67,rfl,⟨?_,?_⟩,Sq67,Sq68,rfl,⟨?_,?_⟩,Sq0,Sq69,rfl,Sq69,Sq70,rfl,Sq70,Sq71,rfl,[.s 71,.b 0],Sq72,rfl,Sq72,Sq73,rfl,[.s 68,.s 73],Sq74,rfl,⟨?_,?_⟩,[.s 65,.s 74],Sq75,rfl,⟨?_,?_⟩,Sq75,Sq76,rfl,Sq76,Sq77,rfl,⟨?_,?_⟩,Sq77,Sq78,rfl,⟨?_,?_⟩,[.s 61,.s 78],Sq79,rfl,⟨?_,?_⟩,Sq5,Sq80,rfl,Sq80,Sq81,rfl,⟨?_,?_⟩,[.s 79,.s 81],Sq82,rfl,⟨?_,?_⟩,Sq5,Sq83,rfl,Sq0,Sq84,rfl,Sq84,Sq85,rfl,Sq85,Sq86,rfl,[.s 86,.b 0],Sq87,rfl,Sq87,Sq88,rfl,[.s 83,.s 88],Sq89,rfl,⟨?_,?_,?_⟩,Sq89,Sq90,rfl,⟨?_,?_⟩,[.s 82,.s 90],Sq91,rfl,⟨?_,?_⟩,Sq91,Sq6,rfl,⟨?_,?_,?_⟩,⟨?_,?_,?_,?_⟩,⟨?_,?_⟩,?_⟩⟩⟩⟩
 all_goals first|refine aw ?_|refine ax ?_|exact a8|exact a7|exact Int.emod_nonneg _ (Int.ne_of_gt (hlp w4))|exact Int.emod_lt_of_pos _ (hlp w4)|(simp only [gK,imax];omega)|(simp only [gK,imax];have:=a4 w4;omega)|exact a1.1|exact aJ w5|exact ZE0 a1.2 (by decide)|exact ZE0 a2.2 (by decide)|exact ZE0 a3.2 (by decide)|(show byteOf rb ((rp+1-1) % (rb.length:Int)).toNat*131≤imax;unfold imax;omega)|(show byteOf rb (((rp+1-1)*7+3) % (rb.length:Int)).toNat*1117≤imax;unfold imax;omega)|(show byteOf rb ((rp+1-1) % (rb.length:Int)).toNat*131+byteOf rb (((rp+1-1)*7+3) % (rb.length:Int)).toNat*1117≤imax;unfold imax;omega)|(have:=a4 w4;show (byteOf rb ((rp+1-1) % (rb.length:Int)).toNat*131+byteOf rb (((rp+1-1)*7+3) % (rb.length:Int)).toNat*1117+(rp+1-1)*29+(rp+1-1) / (rb.length:Int)*53) / 64≤imax;unfold imax;omega)|skip
 ·refine⟨[],[],_,_,_,rfl,cf,(0,rp+1),⟨.inl rfl,rfl⟩,rfl,rfl,rfl⟩
 ·refine⟨[],[],_,_,_,rfl,cf,(0,rp+1),⟨.inl rfl,rfl⟩,rfl,rfl,rfl⟩
 ·refine⟨[],[],_,_,_,rfl,cf,(byteOf rb (rp+1-1).toNat % n,rp+1),⟨.inr ⟨Int.emod_nonneg _ (Int.ne_of_gt (hnp w2)),Int.emod_lt_of_pos _ (hnp w2)⟩,rfl⟩,rfl,rfl,rfl⟩
 all_goals first
  |(have:=a4 w4;have h:(byteOf rb ((rp+1-1) % (rb.length:Int)).toNat*131+byteOf rb (((rp+1-1)*7+3) % (rb.length:Int)).toNat*1117+(rp+1-1)*29+(rp+1-1) / (rb.length:Int)*53)≤imax:=by unfold imax;omega
    exact h)
  |(have:=a4 w4;have h:(byteOf rb ((rp+1-1) % (rb.length:Int)).toNat*131+byteOf rb (((rp+1-1)*7+3) % (rb.length:Int)).toNat*1117+(rp+1-1)*29+(rp+1-1) / (rb.length:Int)*53) / 64≤imax:=by unfold imax;omega
    exact h)
  |(have h:byteOf rb ((rp+1-1) % (rb.length:Int)).toNat*131+byteOf rb (((rp+1-1)*7+3) % (rb.length:Int)).toNat*1117+(rp+1-1)*29≤imax:=by unfold imax;omega
    exact h)
  |skip
 ·have hx:=hnp w2
  refine⟨[],[],_,_,_,rfl,az,(_,rp+1),⟨.inr ⟨?_,?_⟩,rfl⟩,rfl,rfl,rfl⟩
  ·exact Int.emod_nonneg _ (Int.ne_of_gt hx)
  ·exact Int.emod_lt_of_pos _ hx
def ie (r:List Int×Int) (n:Int):Prop:=Rdr r 990000∧0≤n∧n≤100
def fg (r:List Int×Int) (n:Int) (z:ByteArray×Int):Prop:=(z.1.size:Int)≤n∧r.2≤z.2∧z.2≤r.2+1000
def QY (r:List Int×Int) (n:Int) (z:ByteArray×Int):AV:=.s (.str z.1)
def VY (r:List Int×Int) (n:Int) (z:ByteArray×Int):List AV:=[.a [.vw mf r.1,.int z.2]]
def cS:cn where
 A:=[.b 0,.s .int]
 B:=[.a [.vw mf,.int]]
 pre:=fun x b=>ie b (x.2)
 α:=fun _ _=>ByteArray×Int
 φ:=fun x b z=>fg b (x.2) z
 r:=fun x b z=>QY b (x.2) z
 o:=fun x b z=>VY b (x.2) z
theorem pc:Has Tryz.prog 61 cS:=by
 refine Has.fm (fun d=> !(Nat.beq d 40)) zF zF (l:=[(58,ba)]) ⟨dh,aa⟩ Tryz.func61 ?_
 rintro⟨_,(n:Int)⟩ ⟨(rb:List Int),(rp:Int)⟩ (hp:ie (rb,rp) n)
 show vc _ _ _ _ (entry [.s (.bp 0 0),.int n] [.a [.vw mf rb,.int rp]]) _
 obtain⟨hr,(hn0:0≤n),(hn1:n≤100)⟩:=hp
 have hp0:0≤rp:=hr.p0
 have hp1:rp≤990000:=hr.p1
 have dF:∀p:Int,0≤p→p≤1000000→Rdr (rb,p) 1000000:=fun p h0 h1=>⟨hr.len,hr.jK,h0,h1⟩
 refine⟨aa,⟨?_,?_⟩,⟨tv3,?_,?_⟩,fun x1 w2=>⟨⟨tv3,?_,?_⟩,fun x3 w4=>?_⟩⟩
 all_goals first|refine aw ?_|refine ax ?_|exact a8|(dsimp only [ba,ck];omega)|exact a7|skip
 ·exact dF rp hp0 (by omega)
 ·have e1:x1.2=rp+1:=w2.2
  exact dF x1.2 (by omega) (by omega)
 ·obtain⟨mv,p1⟩:=x1
  obtain⟨kv,p2⟩:=x3
  have e1:p1=rp+1:=w2.2
  have e2:p2=p1+1:=w4.2
  have hm:mv=0∨(0≤mv∧mv<n+1):=w2.1
  refine cN (l:=[(58,ba)]) (ex:=fun d=> !(Nat.beq d 40)) (wr:=zF) (pt:=zF) ⟨dh,trivial⟩ [.s 0,.s 1,.s 6,.s 7] (fun y:List Int×Int=>[(.s 5,.s (.xs 1010 1 0 y.1.length)),(.b 1010,.rs mf y.1),(.b 0,.a [.vw mf rb,.int y.2])]) (fun y=>y.1.length≤mv.toNat∧rp≤y.2∧y.2≤rp+2+3*(y.1.length:Int)) (fun y=>mv.toNat-y.1.length) ([],p2) [] ⟨ZA7 _,by show rp≤p2;omega,by show p2≤rp+2+3*((0:Nat):Int);omega⟩ dM ?_
  rintro⟨out,p⟩ ⟨(ho:out.length≤mv.toNat),(hq0:rp≤p),(hq1:p≤rp+2+3*(out.length:Int))⟩
  refine⟨fun w1=>⟨fun w2=>⟨⟨tv3,?_,?_⟩,fun x3 w4=>⟨⟨?_,?_⟩,aa,⟨⟨?_,?_⟩,?_,?_⟩,?_⟩⟩,fun w5=>⟨fun w6=>⟨⟨aa,⟨?_,?_⟩,⟨?_,?_⟩,⟨?_,?_⟩,⟨?_,?_⟩,⟨?_,?_⟩,⟨?_,?_⟩,⟨?_,?_⟩,aa⟩,?_,⟨tv3,?_,?_⟩,fun x7 w8=>⟨⟨?_,?_⟩,aa,fun x9 dy=>⟨aa,⟨⟨?_,?_⟩,?_,?_⟩,?_⟩⟩⟩,fun kA=>⟨fun dJ=>⟨⟨tv3,?_,?_⟩,fun rW gO=>⟨⟨?_,?_⟩,⟨?_,?_⟩,⟨tv3,?_,?_⟩,fun ky kg=>?_⟩⟩,fun xh=>⟨⟨tv3,?_,?_⟩,fun qH oL=>⟨⟨?_,?_⟩,⟨?_,?_⟩,aa,⟨⟨?_,?_⟩,?_,?_⟩,?_⟩⟩⟩⟩⟩,fun uI=>⟨⟨?_,?_⟩,?_⟩⟩
  all_goals first|refine aw ?_|refine ax ?_|exact a8|(dsimp only [ba,ck];omega)|exact a7|exact dF p (by omega) (by omega)|decide|skip
  ·have h:x3.1=0∨(0≤x3.1∧x3.1<256):=w4.1
   show 0≤x3.1;omega
  ·have h:x3.1=0∨(0≤x3.1∧x3.1<256):=w4.1
   show x3.1≤255;omega
  ·have hl:=aJ (p:=(out.length:Int)<mv) w1
   have e3:x3.2=p+1:=w4.2
   have hlen:(out++[x3.1]).length=out.length+1:=by rw [ZA0];rfl
   refine⟨(out++[x3.1],x3.2),[(1010,1036)],?_,?_,?_⟩
   rotate_right
   ·exact bV
   ·exact⟨by show (out++[x3.1]).length≤mv.toNat;omega,by show rp≤x3.2;omega,by show x3.2≤rp+2+3*((out++[x3.1]).length:Int);omega⟩
   ·show mv.toNat-(out++[x3.1]).length<mv.toNat-out.length;omega
  ·have h:x7.1=0∨(0≤x7.1∧x7.1<7):=w8.1
   show 0≤x7.1;omega
  ·have h:x7.1=0∨(0≤x7.1∧x7.1<7):=w8.1
   show x7.1<7;omega
  ·have hl:=aJ (p:=(out.length:Int)<mv) w1
   have e3:x7.2=p+1:=w8.2
   have hlen:(out++[x9]).length=out.length+1:=by rw [ZA0];rfl
   refine⟨(out++[x9],x7.2),[(1010,1047)],?_,?_,?_⟩
   rotate_right
   ·exact bV
   ·exact⟨by show (out++[x9]).length≤mv.toNat;omega,by show rp≤x7.2;omega,by show x7.2≤rp+2+3*((out++[x9]).length:Int);omega⟩
   ·show mv.toNat-(out++[x9]).length<mv.toNat-out.length;omega
  ·have h:rW.1=0∨(0≤rW.1∧rW.1<3):=gO.1
   show gK≤97+rW.1;unfold gK;omega
  ·have h:rW.1=0∨(0≤rW.1∧rW.1<3):=gO.1
   show 97+rW.1≤imax;unfold imax;omega
  ·have h:rW.1=0∨(0≤rW.1∧rW.1<3):=gO.1
   show 0≤97+rW.1;omega
  ·have h:rW.1=0∨(0≤rW.1∧rW.1<3):=gO.1
   show 97+rW.1≤255;omega
  ·have e3:rW.2=p+1:=gO.2
   exact dF rW.2 (by omega) (by omega)
  ·have hl:=aJ (p:=(out.length:Int)<mv) w1
   have e3:rW.2=p+1:=gO.2
   have e4:ky.2=rW.2+1:=kg.2
   have h5:ky.1=0∨(0≤ky.1∧ky.1<6):=kg.1
   refine cN (l:=[(58,ba)]) (ex:=fun d=> !(Nat.beq d 40)) (wr:=zF) (pt:=zF) ⟨dh,trivial⟩ [.s 0,.s 1,.s 6,.s 7,.s 8,.b 0] (fun y:List Int×Int=>[(.s 5,.s (.xs 1010 1 0 y.1.length)),(.s 9,.int y.2),(.b 1010,.rs mf y.1)]) (fun y=>y.1.length≤mv.toNat∧(out.length+1≤y.1.length∨(y.1.length=out.length∧0≤y.2))∧-1≤y.2∧y.2≤6) (fun y=>(y.2+1).toNat) (out,ky.1) [] ⟨ho,.inr ⟨rfl,by show 0≤ky.1;omega⟩,by show -1≤ky.1;omega,by show ky.1≤6;omega⟩ dM ?_
   rintro⟨o2,k⟩ ⟨(g1:o2.length≤mv.toNat),(g2:out.length+1≤o2.length∨(o2.length=out.length∧0≤k)),(g3: -1≤k),(g4:k≤6)⟩
   have hlen:∀z:Int,(o2++[z]).length=o2.length+1:=fun z=>by rw [ZA0];rfl
   refine⟨aa,fun w1=>⟨fun w2=>⟨aa,⟨⟨?_,?_⟩,?_,?_⟩,⟨?_,?_⟩,?_⟩,fun w3=>?_⟩,fun w4=>?_⟩
   all_goals first|refine aw ?_|refine ax ?_|exact a8|(dsimp only [ba,ck];omega)|exact a7|skip
   ·have hm2:=aJ (p:=(o2.length:Int)<mv) w2
    have hk2:=aJ (p:=k≥0) w1
    have hle:=hlen (97+rW.1)
    refine⟨(o2++[97+rW.1],k-1),[(1010,1069)],?_,?_,?_⟩
    rotate_right
    ·exact bV
    ·exact⟨by show (o2++[97+rW.1]).length≤mv.toNat;omega,.inl (by show out.length+1≤(o2++[97+rW.1]).length;omega),by show -1≤k-1;omega,by show k-1≤6;omega⟩
    ·show (k-1+1).toNat<(k+1).toNat;omega
   ·have hm2:=aA (p:=(o2.length:Int)<mv) w3
    have hg:out.length+1≤o2.length:=by omega
    refine⟨(o2,ky.2),[],?_,?_,?_⟩
    rotate_right
    ·exact bV
    ·exact⟨by show (o2).length≤mv.toNat;omega,by show rp≤ky.2;omega,by show ky.2≤rp+2+3*((o2).length:Int);omega⟩
    ·show mv.toNat-(o2).length<mv.toNat-out.length;omega
   ·have hk2:=aA (p:=k≥0) w4
    have hg:out.length+1≤o2.length:=by omega
    refine⟨(o2,ky.2),[],?_,?_,?_⟩
    rotate_right
    ·exact bV
    ·exact⟨by show (o2).length≤mv.toNat;omega,by show rp≤ky.2;omega,by show ky.2≤rp+2+3*((o2).length:Int);omega⟩
    ·show mv.toNat-(o2).length<mv.toNat-out.length;omega
  ·have h:qH.1=0∨(0≤qH.1∧qH.1<2):=oL.1
   show gK≤qH.1*97;unfold gK;omega
  ·have h:qH.1=0∨(0≤qH.1∧qH.1<2):=oL.1
   show qH.1*97≤imax;unfold imax;omega
  ·have h:qH.1=0∨(0≤qH.1∧qH.1<2):=oL.1
   show 0≤qH.1*97;omega
  ·have h:qH.1=0∨(0≤qH.1∧qH.1<2):=oL.1
   show qH.1*97≤255;omega
  ·have hl:=aJ (p:=(out.length:Int)<mv) w1
   have e3:qH.2=p+1:=oL.2
   have hlen:(out++[qH.1*97]).length=out.length+1:=by rw [ZA0];rfl
   refine⟨(out++[qH.1*97],qH.2),[(1010,1028)],?_,?_,?_⟩
   rotate_right
   ·exact bV
   ·exact⟨by show (out++[qH.1*97]).length≤mv.toNat;omega,by show rp≤qH.2;omega,by show qH.2≤rp+2+3*((out++[qH.1*97]).length:Int);omega⟩
   ·show mv.toNat-(out++[qH.1*97]).length<mv.toNat-out.length;omega
  ·have hl:=aA (p:=(out.length:Int)<mv) (by assumption)
   have hs:(fa out).size=out.length:=by rw [fa,nC];simp
   refine⟨[],[],_,_,_,rfl,cf,(fa out,p),⟨by show ((fa out).size:Int)≤n;omega,hq0,by show p≤rp+1000;omega⟩,rfl,rfl,rfl⟩
end GL
namespace GL
theorem Rdr.at {r:List Int×Int}{n m p:Int}(h:Rdr r n) (h0:0≤p) (h1:p≤m):Rdr (r.1,p) m:=⟨h.len,h.jK,h0,h1⟩
theorem pk {z:Int×Int}{n p:Int}(hn:0<n) (h:(z.1=0∨(0≤z.1∧z.1<n))∧z.2=p+1):0≤z.1∧z.1<n:=by
 rcases h.1 with h |h
 ·rw [h];exact⟨ZC1 _,hn⟩
 ·exact h
theorem FC {ek:EK}{l:List (EK.Ty ek)}{P:EK.Ty ek→Prop}(h0:P (EK.zero ek)) (h:∀x∈l,P x) (k:Nat):P (nth ek l k):=by
 by_cases hk:k<l.length
 ·exact h _ (bR hk)
 ·unfold nth;rw [ZD8 (by omega)];exact h0
def yd (r:List Int×Int):Prop:=Rdr r 990000
def VP (r:List Int×Int) (z:Int×Int):Prop:=(-1≤z.1∧z.1≤64)∧r.2≤z.2∧z.2≤r.2+2
def U8 (r:List Int×Int) (z:Int×Int):AV:=.s (.int z.1)
def aa5 (r:List Int×Int) (z:Int×Int):List AV:=[.a [.vw mf r.1,.int z.2]]
def JV:cn where
 A:=[.b 0]
 B:=[.a [.vw mf,.int]]
 pre:=fun x b=>yd b
 α:=fun _ _=>Int×Int
 φ:=fun x b z=>VP b z
 r:=fun x b z=>U8 b z
 o:=fun x b z=>aa5 b z
theorem adQ:Has Tryz.prog 147 JV:=by
 refine Has.fm zT zF zF (l:=[(58,ba)]) ⟨dh,aa⟩ Tryz.func147 ?_
 rintro _ ⟨(rb:List Int),(rp:Int)⟩ (hp:yd (rb,rp))
 show vc _ _ _ _ (entry [.s (.bp 0 0)] [.a [.vw mf rb,.int rp]]) _
 have hr:Rdr (rb,rp) 990000:=hp
 have hp0:0≤rp:=hr.p0
 have hp1:rp≤990000:=hr.p1
 refine⟨⟨tv3,?_,?_⟩,fun x1 w2=>⟨fun w3=>⟨aa,⟨tv3,?_,?_⟩,fun x4 w5=>⟨⟨?_,?_⟩,?_,?_⟩⟩,fun w6=>⟨⟨tv3,?_,?_⟩,fun x7 w8=>⟨⟨?_,?_⟩,?_⟩⟩⟩⟩
 all_goals first|refine aw ?_|refine ax ?_|exact a8|(dsimp only [ba,ck];omega)|exact a7|(have e:x1.2=rp+1:=w2.2;exact hr.at (by omega) (by omega))|exact hr.at hp0 (by omega)|exact (pk (by decide) w5).1|exact (pk (by decide) w5).2|(show x4.1.toNat<6;have h:=pk (n:=6) (by decide) w5;omega)|(show (-9223372036854775808:Int)≤8+x7.1;have h:=pk (n:=12) (by decide) w8;omega)|(show 8+x7.1≤(9223372036854775807:Int);have h:=pk (n:=12) (by decide) w8;omega)|skip
 ·have e1:x1.2=rp+1:=w2.2
  have e2:x4.2=x1.2+1:=w5.2
  refine⟨[],[],_,_,_,rfl,cf,(nth ag [-1,0,3,7,64,63] x4.1.toNat,x4.2),⟨FC (ek:=ag) (P:=fun x:Int=> -1≤x∧x≤64) (by decide) (by decide) _,by show rp≤x4.2;omega,by show x4.2≤rp+2;omega⟩,rfl,rfl,rfl⟩
 ·have e1:x1.2=rp+1:=w2.2
  have e2:x7.2=x1.2+1:=w8.2
  have h:=pk (n:=12) (by decide) w8
  refine⟨[],[],_,_,_,rfl,cf,(8+x7.1,x7.2),⟨⟨by show -1≤8+x7.1;omega,by show 8+x7.1≤64;omega⟩,by show rp≤x7.2;omega,by show x7.2≤rp+2;omega⟩,rfl,rfl,rfl⟩
def ahm:List ByteArray:=[⟨#[]⟩,⟨#[97]⟩,⟨#[47,47]⟩,⟨#[47,97,47]⟩,⟨#[47,65]⟩,⟨#[47,97,47,98,47,99,47,97,47,98]⟩,⟨#[47,97,98,99,100,101]⟩,⟨#[47,97,47,47,98]⟩]
def ahl:List ByteArray:=[⟨#[47,97]⟩,⟨#[47,98]⟩,⟨#[47,97,47,98]⟩,⟨#[47,97,47,99]⟩,⟨#[47,98,47,97]⟩,⟨#[47,99]⟩,⟨#[47,97,47,98,47,99]⟩,⟨#[47,99,47,97]⟩,⟨#[47,97,98]⟩,⟨#[47]⟩]
def vb (r:List Int×Int):Prop:=Rdr r 990000
def jm (r:List Int×Int) (z:ByteArray×Int):Prop:=z.1.size≤12∧r.2≤z.2∧z.2≤r.2+2
def QX (r:List Int×Int) (z:ByteArray×Int):AV:=.s (.str z.1)
def VW (r:List Int×Int) (z:ByteArray×Int):List AV:=[.a [.vw mf r.1,.int z.2]]
def jZ:cn where
 A:=[.b 0]
 B:=[.a [.vw mf,.int]]
 pre:=fun x b=>vb b
 α:=fun _ _=>ByteArray×Int
 φ:=fun x b z=>jm b z
 r:=fun x b z=>QX b z
 o:=fun x b z=>VW b z
theorem abH:Has Tryz.prog 138 jZ:=by
 refine Has.fm zT zF zF (l:=[(58,ba)]) ⟨dh,aa⟩ Tryz.func138 ?_
 rintro _ ⟨(rb:List Int),(rp:Int)⟩ (hp:vb (rb,rp))
 show vc _ _ _ _ (entry [.s (.bp 0 0)] [.a [.vw mf rb,.int rp]]) _
 have hr:Rdr (rb,rp) 990000:=hp
 have hp0:0≤rp:=hr.p0
 have hp1:rp≤990000:=hr.p1
 refine⟨⟨tv3,?_,?_⟩,fun x1 w2=>⟨fun w3=>⟨aa,⟨tv3,?_,?_⟩,fun x4 w5=>⟨⟨?_,?_⟩,?_,?_⟩⟩,fun w6=>⟨aa,⟨tv3,?_,?_⟩,fun x7 w8=>⟨⟨?_,?_⟩,?_,?_⟩⟩⟩⟩
 all_goals first|refine aw ?_|refine ax ?_|exact a8|(dsimp only [ba,ck];omega)|exact a7|(have e:x1.2=rp+1:=w2.2;exact hr.at (by omega) (by omega))|exact hr.at hp0 (by omega)|exact (pk (by decide) w5).1|exact (pk (by decide) w5).2|exact (pk (by decide) w8).1|exact (pk (by decide) w8).2|(show x4.1.toNat<8;have h:=pk (n:=8) (by decide) w5;omega)|(show x7.1.toNat<10;have h:=pk (n:=10) (by decide) w8;omega)|skip
 ·have e1:x1.2=rp+1:=w2.2
  have e2:x4.2=x1.2+1:=w5.2
  refine⟨[],[],_,_,_,rfl,cf,(nth ab ahm x4.1.toNat,x4.2),⟨FC (ek:=ab) (P:=fun x:ByteArray=>x.size≤12) (by decide) (by decide) _,by show rp≤x4.2;omega,by show x4.2≤rp+2;omega⟩,rfl,rfl,rfl⟩
 ·have e1:x1.2=rp+1:=w2.2
  have e2:x7.2=x1.2+1:=w8.2
  refine⟨[],[],_,_,_,rfl,cf,(nth ab ahl x7.1.toNat,x7.2),⟨FC (ek:=ab) (P:=fun x:ByteArray=>x.size≤12) (by decide) (by decide) _,by show rp≤x7.2;omega,by show x7.2≤rp+2;omega⟩,rfl,rfl,rfl⟩
def yf (s:ByteArray) (n:Int):Prop:=s.size≤1000∧0≤n∧n≤1000
def kL (s:ByteArray) (n:Int) (z:ByteArray):Prop:=z.size=s.size*n.toNat
def VG (s:ByteArray) (n:Int) (z:ByteArray):AV:=.s (.str z)
def abd (s:ByteArray) (n:Int) (z:ByteArray):List AV:=[]
def mb:cn where
 A:=[.s .str,.s .int]
 B:=[]
 pre:=fun x b=>yf (x.1) (x.2)
 α:=fun _ _=>ByteArray
 φ:=fun x b z=>kL (x.1) (x.2) z
 r:=fun x b z=>VG (x.1) (x.2) z
 o:=fun x b z=>abd (x.1) (x.2) z
theorem adU:Has Tryz.prog 139 mb:=by
 refine Has.fm zT zF zF (l:=[]) trivial Tryz.func139 ?_
 rintro⟨(s:ByteArray),(n:Int)⟩ _ (hp:yf s n)
 show vc _ _ _ _ (entry [.str s,.int n] []) _
 obtain⟨hs,(h0:0≤n),(h1:n≤1000)⟩:=hp
 have hb:s.size*n.toNat≤1000000:=ZB0 (Nat.mul_le_mul hs (show n.toNat≤1000 by omega)) (by decide)
 refine ?_
 all_goals first|refine aw ?_|refine ax ?_|exact a8|exact a7|skip
 refine cN (l:=[]) (ex:=zT) (wr:=zF) (pt:=zF) trivial [] (fun y:ByteArray×Int×ByteArray=>[(.s 0,.str y.1),(.s 1,.int y.2.1),(.s 5,.str y.2.2)]) (fun y=>0≤y.2.1∧y.2.1≤1000∧y.2.2.size+y.1.size*y.2.1.toNat=s.size*n.toNat) (fun y=>y.2.1.toNat) (s,n,⟨#[]⟩) [] ⟨h0,h1,by show 0+s.size*n.toNat=s.size*n.toNat;omega⟩ dM ?_
 rintro⟨t,m,out⟩ ⟨(g0:0≤m),(g1:m≤1000),(g2:out.size+t.size*m.toNat=s.size*n.toNat)⟩
 have hm:decide (m>0)=true→t.size≤1000000:=fun h=>by
  have h3:=aJ h
  have:t.size*1≤t.size*m.toNat:=Nat.mul_le_mul_left _ (by omega)
  omega
 have ho:out.size≤1000000:=by omega
 have e2:∀q:Nat,t.size*(2*q)=(t.size+t.size)*q:=fun q=>by rw [Nat.mul_comm 2 q,←Nat.mul_assoc,ZE3];omega
 refine⟨fun w1=>⟨⟨?_,?_⟩,⟨fun w2=>⟨?_,⟨?_,⟨⟨?_,⟨?_,?_⟩⟩,?_⟩⟩⟩,fun w3=>⟨?_,⟨⟨?_,⟨?_,?_⟩⟩,?_⟩⟩⟩⟩,fun w4=>?_⟩
 all_goals first|refine aw ?_|refine ax ?_|exact a8|exact a7|(show ((out.size+t.size:Nat):Int)≤9223372036854775807;have:=hm w1;omega)|(show ((t.size+t.size:Nat):Int)≤9223372036854775807;have:=hm w1;omega)|skip
 ·have h1:=aJ (p:=m>0) w1
  have h2:=aJ (p:=m % 2=1) w2
  have e:m.tdiv 2=m / 2:=Int.tdiv_eq_ediv_of_nonneg g0
  refine⟨(t++t,m / 2,out++t),[],?_,?_,?_⟩
  rotate_right
  ·exact bV
  ·refine⟨by show 0≤m / 2;omega,by show m / 2≤1000;omega,?_⟩
   show (out++t).size+(t++t).size*(m / 2).toNat=_
   rw [ZB2,ZB2,←g2,←e2,show m.toNat=2*(m / 2).toNat+1 by omega,Nat.mul_add];omega
  ·show (m / 2).toNat<m.toNat;omega
 ·have h1:=aJ (p:=m>0) w1
  have h2:=aA (p:=m % 2=1) w3
  refine⟨(t++t,m / 2,out),[],?_,?_,?_⟩
  rotate_right
  ·exact bV
  ·refine⟨by show 0≤m / 2;omega,by show m / 2≤1000;omega,?_⟩
   show out.size+(t++t).size*(m / 2).toNat=_
   rw [ZB2,←g2,←e2,show m.toNat=2*(m / 2).toNat by omega]
  ·show (m / 2).toNat<m.toNat;omega
 ·have h1:=aA (p:=m>0) w4
  refine⟨[],[],_,_,_,rfl,cf,out,show out.size=s.size*n.toNat by rw [←g2,show m.toNat=0 by omega];omega,rfl,rfl,rfl⟩
end GL
namespace GL
def pV (r:List Int×Int):Prop:=Rdr r 980000
def qh (r:List Int×Int) (z:Pt×Int):Prop:=r.2≤z.2∧z.2≤r.2+1010
def U9 (r:List Int×Int) (z:Pt×Int):AV:=.o (ptA z.1)
def aa6 (r:List Int×Int) (z:Pt×Int):List AV:=[.a [.vw mf r.1,.int z.2]]
def jC:cn where
 A:=[.b 0]
 B:=[.a [.vw mf,.int]]
 pre:=fun x b=>pV b
 α:=fun _ _=>Pt×Int
 φ:=fun x b z=>qh b z
 r:=fun x b z=>U9 b z
 o:=fun x b z=>aa6 b z
theorem IF:Has Tryz.prog 97 jC:=by
 refine Has.fm zT zF zF (l:=[(58,ba),(61,cS),(98,o0),(147,JV)]) ⟨dh,pc,FJ,adQ,aa⟩ Tryz.func97 ?_
 rintro _ ⟨(rb:List Int),(rp:Int)⟩ (hp:pV (rb,rp))
 show vc _ _ _ _ (entry [.s (.bp 0 0)] [.a [.vw mf rb,.int rp]]) _
 have hr:Rdr (rb,rp) 980000:=hp
 have hp0:0≤rp:=hr.p0
 have hp1:rp≤980000:=hr.p1
 refine⟨⟨tv3,?_,?_⟩,fun x1 w2=>⟨fun w3=>?_,fun w4=>⟨⟨tv3,?_,?_⟩,fun x5 w6=>⟨⟨?_,?_⟩,⟨tv3,?_,?_⟩,fun x7 w8=>⟨⟨?_,?_⟩,⟨tv3,?_,?_⟩,fun x9 dy=>⟨⟨tv3,?_,?_,?_⟩,fun kz dJ=>⟨?_,⟨tv5,?_⟩,fun rW gO=>⟨⟨tv3,?_,?_⟩,fun ky kg=>⟨fun xh=>⟨⟨tv2,?_⟩,fun qH oL=>?_⟩,fun uI=>⟨fun A4=>⟨aa,⟨tv3,?_,?_⟩,fun x22 xK=>⟨⟨?_,?_⟩,?_,?_⟩⟩,fun rR=>⟨fun w25=>⟨aa,⟨tv3,?_,?_⟩,fun x26 w27=>⟨⟨?_,?_⟩,?_,?_⟩⟩,fun w28=>⟨fun w29=>⟨aa,⟨tv3,?_,?_⟩,fun x30 w31=>⟨⟨?_,?_⟩,?_,?_⟩⟩,fun w32=>⟨fun w33=>⟨aa,⟨tv3,?_,?_⟩,fun x34 w35=>⟨⟨?_,?_⟩,?_,?_⟩⟩,fun w36=>?_⟩⟩⟩⟩⟩⟩⟩⟩⟩⟩⟩⟩⟩
 all_goals first|refine aw ?_|refine ax ?_|exact a8|(dsimp only [ba,ck,cS,ie,o0,mM,JV,yd];omega)|exact a7|(simp only [gK];have h:=pk (n:=12) (by decide) w6;omega)|(simp only [imax];have h:=pk (n:=12) (by decide) w6;omega)|(simp only [gK];have h:=pk (n:=9) (by decide) w8;omega)|(simp only [imax];have h:=pk (n:=9) (by decide) w8;omega)|(unfold imax;have h:(kz.1.size:Int)≤9:=dJ.1;have h2:(⟨#[116]⟩:ByteArray).size=1:=rfl;omega)|(have e1:x1.2=rp+1:=w2.2;have e5:x5.2=x1.2+1:=w6.2;have e7:x7.2=x5.2+1:=w8.2;have e9:x9.2=x7.2+1:=dy.2;have e11:x9.2≤kz.2∧kz.2≤x9.2+1000:=dJ.2;have e15:ky.2=kz.2+1:=kg.2;exact hr.at (by omega) (by omega))|(have e1:x1.2=rp+1:=w2.2;have e5:x5.2=x1.2+1:=w6.2;have e7:x7.2=x5.2+1:=w8.2;have e9:x9.2=x7.2+1:=dy.2;have e11:x9.2≤kz.2∧kz.2≤x9.2+1000:=dJ.2;exact hr.at (by omega) (by omega))|(have e1:x1.2=rp+1:=w2.2;have e5:x5.2=x1.2+1:=w6.2;have e7:x7.2=x5.2+1:=w8.2;have e9:x9.2=x7.2+1:=dy.2;exact hr.at (by omega) (by omega))|(have e1:x1.2=rp+1:=w2.2;have e5:x5.2=x1.2+1:=w6.2;have e7:x7.2=x5.2+1:=w8.2;exact hr.at (by omega) (by omega))|(have e1:x1.2=rp+1:=w2.2;have e5:x5.2=x1.2+1:=w6.2;exact hr.at (by omega) (by omega))|(have e1:x1.2=rp+1:=w2.2;exact hr.at (by omega) (by omega))|(exact hr.at (by omega) (by omega))|exact (pk (by decide) xK).1|exact (pk (by decide) xK).2|(show x22.1.toNat<4;have h:=pk (n:=4) (by decide) xK;omega)|exact (pk (by decide) w27).1|exact (pk (by decide) w27).2|(show x26.1.toNat<4;have h:=pk (n:=4) (by decide) w27;omega)|exact (pk (by decide) w31).1|exact (pk (by decide) w31).2|(show x30.1.toNat<4;have h:=pk (n:=4) (by decide) w31;omega)|exact (pk (by decide) w35).1|exact (pk (by decide) w35).2|(show x34.1.toNat<3;have h:=pk (n:=3) (by decide) w35;omega)|skip
 ·refine⟨[],[],_,_,_,rfl,cf,((_,_,_,_,_),x1.2),⟨(by have e1:x1.2=rp+1:=w2.2;show rp≤x1.2;omega),(by have e1:x1.2=rp+1:=w2.2;show x1.2≤rp+1010;omega)⟩,rfl,rfl,rfl⟩
 ·have h:(kz.1.size:Int)≤9:=dJ.1
  have h3:((⟨#[116]⟩++kz.1:ByteArray).size:Int)≤1000000000000:=by
   rw [ZB2]
   have h2:(⟨#[116]⟩:ByteArray).size=1:=rfl
   omega
  exact h3
 ·refine⟨[],[],_,_,_,rfl,cf,((_,_,_,_,_),qH.2),⟨(by have e1:x1.2=rp+1:=w2.2;have e5:x5.2=x1.2+1:=w6.2;have e7:x7.2=x5.2+1:=w8.2;have e9:x9.2=x7.2+1:=dy.2;have e11:x9.2≤kz.2∧kz.2≤x9.2+1000:=dJ.2;have e15:ky.2=kz.2+1:=kg.2;have e18:ky.2≤qH.2∧qH.2≤ky.2+2:=oL.2;show rp≤qH.2;omega),(by have e1:x1.2=rp+1:=w2.2;have e5:x5.2=x1.2+1:=w6.2;have e7:x7.2=x5.2+1:=w8.2;have e9:x9.2=x7.2+1:=dy.2;have e11:x9.2≤kz.2∧kz.2≤x9.2+1000:=dJ.2;have e15:ky.2=kz.2+1:=kg.2;have e18:ky.2≤qH.2∧qH.2≤ky.2+2:=oL.2;show qH.2≤rp+1010;omega)⟩,rfl,rfl,rfl⟩
 ·refine⟨[],[],_,_,_,rfl,cf,((_,(nth ag [0,-1,900,901] x22.1.toNat:Int),_,_,_),x22.2),⟨(by have e1:x1.2=rp+1:=w2.2;have e5:x5.2=x1.2+1:=w6.2;have e7:x7.2=x5.2+1:=w8.2;have e9:x9.2=x7.2+1:=dy.2;have e11:x9.2≤kz.2∧kz.2≤x9.2+1000:=dJ.2;have e15:ky.2=kz.2+1:=kg.2;have e22:x22.2=ky.2+1:=xK.2;show rp≤x22.2;omega),(by have e1:x1.2=rp+1:=w2.2;have e5:x5.2=x1.2+1:=w6.2;have e7:x7.2=x5.2+1:=w8.2;have e9:x9.2=x7.2+1:=dy.2;have e11:x9.2≤kz.2∧kz.2≤x9.2+1000:=dJ.2;have e15:ky.2=kz.2+1:=kg.2;have e22:x22.2=ky.2+1:=xK.2;show x22.2≤rp+1010;omega)⟩,rfl,rfl,rfl⟩
 ·refine⟨[],[],_,_,_,rfl,cf,((_,_,(nth ag [0,-1,128,129] x26.1.toNat:Int),_,_),x26.2),⟨(by have e1:x1.2=rp+1:=w2.2;have e5:x5.2=x1.2+1:=w6.2;have e7:x7.2=x5.2+1:=w8.2;have e9:x9.2=x7.2+1:=dy.2;have e11:x9.2≤kz.2∧kz.2≤x9.2+1000:=dJ.2;have e15:ky.2=kz.2+1:=kg.2;have e26:x26.2=ky.2+1:=w27.2;show rp≤x26.2;omega),(by have e1:x1.2=rp+1:=w2.2;have e5:x5.2=x1.2+1:=w6.2;have e7:x7.2=x5.2+1:=w8.2;have e9:x9.2=x7.2+1:=dy.2;have e11:x9.2≤kz.2∧kz.2≤x9.2+1000:=dJ.2;have e15:ky.2=kz.2+1:=kg.2;have e26:x26.2=ky.2+1:=w27.2;show x26.2≤rp+1010;omega)⟩,rfl,rfl,rfl⟩
 ·refine⟨[],[],_,_,_,rfl,cf,((_,_,_,(nth ag [-1,99460728,99460729,0] x30.1.toNat:Int),_),x30.2),⟨(by have e1:x1.2=rp+1:=w2.2;have e5:x5.2=x1.2+1:=w6.2;have e7:x7.2=x5.2+1:=w8.2;have e9:x9.2=x7.2+1:=dy.2;have e11:x9.2≤kz.2∧kz.2≤x9.2+1000:=dJ.2;have e15:ky.2=kz.2+1:=kg.2;have e30:x30.2=ky.2+1:=w31.2;show rp≤x30.2;omega),(by have e1:x1.2=rp+1:=w2.2;have e5:x5.2=x1.2+1:=w6.2;have e7:x7.2=x5.2+1:=w8.2;have e9:x9.2=x7.2+1:=dy.2;have e11:x9.2≤kz.2∧kz.2≤x9.2+1000:=dJ.2;have e15:ky.2=kz.2+1:=kg.2;have e30:x30.2=ky.2+1:=w31.2;show x30.2≤rp+1010;omega)⟩,rfl,rfl,rfl⟩
 ·refine⟨[],[],_,_,_,rfl,cf,((_,_,_,_,(nth ag [-1,3,2] x34.1.toNat:Int)),x34.2),⟨(by have e1:x1.2=rp+1:=w2.2;have e5:x5.2=x1.2+1:=w6.2;have e7:x7.2=x5.2+1:=w8.2;have e9:x9.2=x7.2+1:=dy.2;have e11:x9.2≤kz.2∧kz.2≤x9.2+1000:=dJ.2;have e15:ky.2=kz.2+1:=kg.2;have e34:x34.2=ky.2+1:=w35.2;show rp≤x34.2;omega),(by have e1:x1.2=rp+1:=w2.2;have e5:x5.2=x1.2+1:=w6.2;have e7:x7.2=x5.2+1:=w8.2;have e9:x9.2=x7.2+1:=dy.2;have e11:x9.2≤kz.2∧kz.2≤x9.2+1000:=dJ.2;have e15:ky.2=kz.2+1:=kg.2;have e34:x34.2=ky.2+1:=w35.2;show x34.2≤rp+1010;omega)⟩,rfl,rfl,rfl⟩
 ·refine⟨[],[],_,_,_,rfl,cf,((_,_,_,_,_),ky.2),⟨(by have e1:x1.2=rp+1:=w2.2;have e5:x5.2=x1.2+1:=w6.2;have e7:x7.2=x5.2+1:=w8.2;have e9:x9.2=x7.2+1:=dy.2;have e11:x9.2≤kz.2∧kz.2≤x9.2+1000:=dJ.2;have e15:ky.2=kz.2+1:=kg.2;show rp≤ky.2;omega),(by have e1:x1.2=rp+1:=w2.2;have e5:x5.2=x1.2+1:=w6.2;have e7:x7.2=x5.2+1:=w8.2;have e9:x9.2=x7.2+1:=dy.2;have e11:x9.2≤kz.2∧kz.2≤x9.2+1000:=dJ.2;have e15:ky.2=kz.2+1:=kg.2;show ky.2≤rp+1010;omega)⟩,rfl,rfl,rfl⟩
end GL
namespace GL
def sc (r:List Int×Int):Prop:=Rdr r 980000
def aaU (r:List Int×Int) (z:Opr×Int):Prop:=(z.1.2.1.size≤30∧z.1.2.2.1.size≤30∧z.1.2.2.2.2.size≤30)∧r.2≤z.2∧z.2≤r.2+1020
def aaL (r:List Int×Int) (z:Opr×Int):AV:=.o (.a [.int z.1.1,.str z.1.2.1,.str z.1.2.2.1,.int z.1.2.2.2.1,.str z.1.2.2.2.2])
def ac2 (r:List Int×Int) (z:Opr×Int):List AV:=[.a [.vw mf r.1,.int z.2]]
def tY:cn where
 A:=[.b 0]
 B:=[.a [.vw mf,.int]]
 pre:=fun x b=>sc b
 α:=fun _ _=>Opr×Int
 φ:=fun x b z=>aaU b z
 r:=fun x b z=>aaL b z
 o:=fun x b z=>ac2 b z
theorem O9:Has Tryz.prog 91 tY:=by
 refine Has.fm zT zF zF (l:=[(58,ba),(138,jZ),(61,cS),(139,mb)]) ⟨dh,abH,pc,adU,aa⟩ Tryz.func91 ?_
 rintro _ ⟨(rb:List Int),(rp:Int)⟩ (hp:sc (rb,rp))
 show vc _ _ _ _ (entry [.s (.bp 0 0)] [.a [.vw mf rb,.int rp]]) _
 have hr:Rdr (rb,rp) 980000:=hp
 have hp0:0≤rp:=hr.p0
 have hp1:rp≤980000:=hr.p1
 refine⟨[.b 1004],[.s 4,.b 1004],rfl,aa,Sq0,Sq5,rfl,[.s 5,.b 0],[.s 6,.b 0],rfl,⟨tv3,?_,?_⟩,?_,fun x1 w2=>⟨[.s 4,.s 6],Sq7,rfl,⟨?_,?_⟩,[.s 7,.b 1004],Sq8,rfl,?_,Sq0,Sq9,rfl,[.s 9,.b 0],[.s 10,.b 0],rfl,⟨tv2,?_⟩,?_,fun x3 w4=>⟨[.s 8,.s 10],Sq11,rfl,[.b 1003],[.s 3,.b 1003],rfl,[.s 3,.s 11,.b 1003],[.b 1003],rfl,fun w5=>⟨aa,⟨tv3,?_,?_⟩,fun x6 w7=>⟨⟨?_,?_⟩,?_,⟨tv3,?_,?_,?_⟩,fun x8 w9=>⟨⟨tv3,?_,?_⟩,fun x10 kA=>⟨fun dJ=>⟨aa,⟨tv3,?_,?_⟩,fun rW gO=>⟨⟨?_,?_⟩,?_,?_⟩⟩,fun qK=>⟨fun kg=>⟨aa,⟨tv3,?_,?_⟩,fun x17 rS=>⟨⟨?_,?_⟩,?_,?_⟩⟩,fun oL=>⟨fun uI=>⟨⟨tv3,?_,?_⟩,fun x21 A3=>⟨⟨?_,?_⟩,⟨tv3,?_,?_,?_⟩,fun x23 rR=>?_⟩⟩,fun w25=>⟨fun w26=>⟨⟨tv2,?_⟩,fun x27 w28=>?_⟩,fun w29=>?_⟩⟩⟩⟩⟩⟩⟩,fun w30=>⟨fun w31=>⟨aa,⟨tv3,?_,?_⟩,fun x32 w33=>⟨⟨?_,?_⟩,?_,⟨tv3,?_,?_⟩,fun x34 w35=>⟨fun w36=>⟨aa,⟨tv3,?_,?_⟩,fun x37 w38=>⟨⟨?_,?_⟩,?_,?_⟩⟩,fun w39=>⟨fun w40=>⟨aa,⟨tv3,?_,?_⟩,fun x41 w42=>⟨⟨?_,?_⟩,?_,?_⟩⟩,fun w43=>⟨fun w44=>⟨⟨tv3,?_,?_⟩,fun x45 w46=>⟨⟨?_,?_⟩,⟨tv3,?_,?_,?_⟩,fun x47 w48=>?_⟩⟩,fun w49=>⟨fun w50=>⟨⟨tv2,?_⟩,fun x51 w52=>?_⟩,fun w53=>?_⟩⟩⟩⟩⟩⟩,fun w54=>⟨fun w55=>⟨fun w56=>⟨⟨tv2,?_⟩,fun x57 w58=>⟨⟨tv3,?_,?_⟩,fun x59 w60=>⟨fun w61=>⟨aa,⟨tv3,?_,?_⟩,fun x62 w63=>⟨⟨?_,?_⟩,?_,?_⟩⟩,fun w64=>⟨fun w65=>⟨aa,⟨tv3,?_,?_⟩,fun x66 w67=>⟨⟨?_,?_⟩,?_,?_⟩⟩,fun w68=>⟨fun w69=>⟨⟨tv3,?_,?_⟩,fun x70 w71=>⟨⟨?_,?_⟩,⟨tv3,?_,?_,?_⟩,fun x72 w73=>?_⟩⟩,fun w74=>⟨fun w75=>⟨⟨tv2,?_⟩,fun x76 w77=>?_⟩,fun w78=>?_⟩⟩⟩⟩⟩⟩,fun w79=>⟨⟨tv3,?_,?_⟩,fun x80 w81=>⟨fun w82=>⟨aa,⟨tv3,?_,?_⟩,fun x83 w84=>⟨⟨?_,?_⟩,?_,?_⟩⟩,fun w85=>⟨fun w86=>⟨aa,⟨tv3,?_,?_⟩,fun x87 w88=>⟨⟨?_,?_⟩,?_,?_⟩⟩,fun w89=>⟨fun w90=>⟨⟨tv3,?_,?_⟩,fun x91 w92=>⟨⟨?_,?_⟩,⟨tv3,?_,?_,?_⟩,fun x93 w94=>?_⟩⟩,fun w95=>⟨fun w96=>⟨⟨tv2,?_⟩,fun x97 w98=>?_⟩,fun w99=>?_⟩⟩⟩⟩⟩⟩,fun al8=>⟨fun aku=>⟨⟨tv2,?_⟩,fun aks al6=>⟨⟨tv3,?_,?_⟩,fun akr al5=>⟨fun al4=>⟨aa,⟨tv3,?_,?_⟩,fun akq al3=>⟨⟨?_,?_⟩,?_,?_⟩⟩,fun al2=>⟨fun al1=>⟨aa,⟨tv3,?_,?_⟩,fun akp al0=>⟨⟨?_,?_⟩,?_,?_⟩⟩,fun alZ=>⟨fun alY=>⟨⟨tv3,?_,?_⟩,fun ako alX=>⟨⟨?_,?_⟩,⟨tv3,?_,?_,?_⟩,fun akn alW=>?_⟩⟩,fun alV=>⟨fun alU=>⟨⟨tv2,?_⟩,fun akm alT=>?_⟩,fun alS=>?_⟩⟩⟩⟩⟩⟩,fun alR=>⟨⟨tv3,?_,?_⟩,fun akl alQ=>⟨fun alP=>⟨aa,⟨tv3,?_,?_⟩,fun akk alO=>⟨⟨?_,?_⟩,?_,?_⟩⟩,fun alN=>⟨fun alM=>⟨aa,⟨tv3,?_,?_⟩,fun akj alL=>⟨⟨?_,?_⟩,?_,?_⟩⟩,fun alK=>⟨fun alJ=>⟨⟨tv3,?_,?_⟩,fun aki alI=>⟨⟨?_,?_⟩,⟨tv3,?_,?_,?_⟩,fun akh alH=>?_⟩⟩,fun alG=>⟨fun alF=>⟨⟨tv2,?_⟩,fun akg alE=>?_⟩,fun alD=>?_⟩⟩⟩⟩⟩⟩⟩⟩⟩⟩⟩
 all_goals first|refine aw ?_|refine ax ?_|exact a8|(dsimp only [ba,ck,jZ,vb,cS,ie,mb,yf];omega)|exact a7|exact hr.at hp0 (by omega)|(refine hr.at ?_ ?_<;>(dsimp only [ba,dO,jZ,jm,cS,fg,mb,kL,dC] at * <;>omega))|(show _<((List.length _:Nat):Int);dsimp only [ba,dO,jZ,jm,cS,fg,mb,kL,dC,List.length_cons,List.length_nil] at *;omega)|(show Int.toNat _<_;dsimp only [ba,dO,jZ,jm,cS,fg,mb,kL,dC,List.length_cons,List.length_nil] at *;omega)|(dsimp only [ba,dO,jZ,jm,cS,fg,mb,kL,dC] at *;omega)|exact⟨(0,rp+1),.inl rfl,rfl⟩|exact⟨(⟨#[]⟩,x1.2),ZA7 _,ZC1 _,(by show x1.2≤x1.2+2;omega)⟩|(simp only [gK,imax];dsimp only [ba,dO,jZ,jm,cS,fg,mb,kL,dC] at *;omega)|(show (1:Nat)≤1000;omega)|skip
 all_goals
  first
   |refine⟨[],[],_,_,_,rfl,az,(((_:EK.Ty ag),_,_,(_:EK.Ty ag),_),_),⟨⟨?_,?_,?_⟩,?_,?_⟩,rfl,rfl,rfl⟩
   |refine⟨[],[],_,_,_,rfl,az,(((_:EK.Ty ag),_,_,_,_),_),⟨⟨?_,?_,?_⟩,?_,?_⟩,rfl,rfl,rfl⟩
  all_goals
   try cases x1
   try cases x3
   try cases x6
   try cases x8
   try cases x10
   try cases rW
   try cases x17
   try cases x21
   try cases x23
   try cases x27
   try cases x32
   try cases x34
   try cases x37
   try cases x41
   try cases x45
   try cases x47
   try cases x51
   try cases x57
   try cases x59
   try cases x62
   try cases x66
   try cases x70
   try cases x72
   try cases x76
   try cases x80
   try cases x83
   try cases x87
   try cases x91
   try cases x93
   try cases x97
   try cases aks
   try cases akr
   try cases akq
   try cases akp
   try cases ako
   try cases akn
   try cases akm
   try cases akl
   try cases akk
   try cases akj
   try cases aki
   try cases akh
   try cases akg
  all_goals (dsimp only [ba,dO,jZ,jm,cS,fg,mb,kL,dC] at *;first|omega|exact ZA7 _|(simp only [show (⟨#[117]⟩:ByteArray).size=1 from rfl,Nat.one_mul] at *;omega))
end GL
namespace GL
structure akb (l:List Int):Prop where
 len:l.length≤2000000
 jK:∀b∈l,0≤b∧b≤255
def G7 (c:List Int):Prop:=akb c
def VQ (c:List Int) (z:List Int):Prop:=Rdr (z,0) 0
def VF (c:List Int) (z:List Int):AV:=.s (.bp 0 0)
def abc (c:List Int) (z:List Int):List AV:=[.a [.vw mf z,.int 0]]
def afg:cn where
 A:=[.s (.vw mf)]
 B:=[]
 pre:=fun x b=>G7 x
 α:=fun _ _=>List Int
 φ:=fun x b z=>VQ x z
 r:=fun x b z=>VF x z
 o:=fun x b z=>abc x z
 nf:=1
theorem ai5:Has Tryz.prog 28 afg:=by
 refine Has.fm zT zF zF (l:=[]) trivial Tryz.func28 ?_
 rintro (c:List Int) _ (hp:G7 c)
 show vc _ _ _ _ (entry [.s (.vw mf c)] []) _
 have hb:akb c:=hp
 refine⟨fun w1=>⟨⟨?_,⟨?_,?_⟩⟩,?_⟩,fun w2=>?_⟩
 all_goals first|refine aw ?_|refine ax ?_|exact a8|exact a7|skip
 ·refine⟨[1010],[],_,_,_,rfl,cf,List.take 2000 (List.drop 0 c),⟨by rw [ZB9];omega,fun b h=>hb.jK b (ZF2 (ZE6 h)),ZC1 _,ZC1 _⟩,rfl,rfl,rfl⟩
 ·refine⟨[1010],[],_,_,_,rfl,cf,c,⟨by have:=aA (p:=(c.length:Int)>2000) w2;show c.length≤2000;omega,hb.jK,ZC1 _,ZC1 _⟩,rfl,rfl,rfl⟩
end GL
namespace GL
def lJ (r:List Int×Int) (S:ay):Prop:=Rdr r 970000∧S.wf
def OF (r:List Int×Int) (S:ay) (z:Pt×Int):Prop:=r.2≤z.2∧z.2≤r.2+1020
def N4 (r:List Int×Int) (S:ay) (z:Pt×Int):AV:=.o (ptA z.1)
def RX (r:List Int×Int) (S:ay) (z:Pt×Int):List AV:=[.a [.vw mf r.1,.int z.2]]
def kN:cn where
 A:=[.b 0,.a xv]
 B:=[.a [.vw mf,.int]]
 pre:=fun x b=>lJ b (x.2)
 α:=fun _ _=>Pt×Int
 φ:=fun x b z=>OF b (x.2) z
 r:=fun x b z=>N4 b (x.2) z
 o:=fun x b z=>RX b (x.2) z
theorem yB:Has Tryz.prog 63 kN:=by
 refine Has.fm zT zF zF (l:=[(58,ba),(97,jC),(98,o0)]) ⟨dh,IF,FJ,aa⟩ Tryz.func63 ?_
 rintro⟨_,⟨(aj:List ByteArray),(ak:List Int),(an:List Int),(ao:Int),(ah:List Pt),(aq:Int),(ai:List Pt),(ar:Bool)⟩⟩ ⟨(rb:List Int),(rp:Int)⟩ (hp:lJ (rb,rp) (aj,ak,an,ao,ah,aq,ai,ar))
 show vc _ _ _ _ (entry [.s (.bp 0 0),.a [.vz ab aj,.vz ag ak,.vz ag an,.int ao,.vz ae ah,.int aq,.vz ae ai,.q ar]] [.a [.vw mf rb,.int rp]]) _
 obtain⟨hr,oN⟩:=hp
 have hr:Rdr (rb,rp) 970000:=hr
 have oN:ay.wf (aj,ak,an,ao,ah,aq,ai,ar):=oN
 have hp0:0≤rp:=hr.p0
 have hp1:rp≤970000:=hr.p1
 have hl:aj.length=64∧ak.length=64∧an.length=64:=oN.n
 refine⟨⟨tv3,?_,?_⟩,fun x1 w2=>⟨fun w3=>⟨⟨tv2,?_⟩,fun x4 w5=>?_⟩,fun w6=>⟨⟨tv3,?_,?_⟩,fun x7 w8=>?_⟩⟩⟩
 all_goals first|refine aw ?_|refine ax ?_|exact a8|(dsimp only [ba,ck,jC,pV,o0,mM];omega)|exact a7|exact hr.at hp0 (by omega)|(have e:x1.2=rp+1:=w2.2;exact hr.at (by omega) (by omega))|skip
 ·have e1:x1.2=rp+1:=w2.2
  have e2:x1.2≤x4.2∧x4.2≤x1.2+1010:=w5
  refine⟨[],[],_,_,_,rfl,cf,((_,_,_,_,_),x4.2),⟨by show rp≤x4.2;omega,by show x4.2≤rp+1020;omega⟩,rfl,rfl,rfl⟩
 ·have e1:x1.2=rp+1:=w2.2
  have f7:=pk (n:=64) (by decide) w8
  obtain⟨f0,p7⟩:=x7
  have e7:p7=x1.2+1:=w8.2
  have hn0:((aj.length:Nat):Int)≠0:=by rw [hl.1];decide
  have hnp:(0:Int)<(aj.length:Int):=by rw [hl.1];decide
  have dj:∀k,(nth ab aj k).size≤1000000:=fun k=>FC (ek:=ab) (P:=fun x:ByteArray=>x.size≤1000000) (ZA7 _) oN.sz k
  refine cN (l:=[(58,ba),(97,jC),(98,o0)]) (ex:=zT) (wr:=zF) (pt:=zF) ⟨dh,IF,FJ,aa⟩ [.s 0,.s 3,.b 1003,.s 4,.b 1004,.s 5,.b 0] (fun i:Nat=>[(.s 6,.int i)]) (fun i=>i≤64) (fun i=>64-i) 0 [] (ZA7 _) dM ?_
  rintro i (hi:i≤64)
  have cm:decide ((i:Int)<(aj.length:Int))=true→i<64:=fun h=>by have:=aJ h;omega
  refine⟨fun w1=>⟨⟨?_,?_⟩,⟨?_,?_⟩,⟨?_,?_⟩,aa,fun w2=>⟨aa,fun w3=>⟨fun w4=>⟨Sq7,Sq50,rfl,Sq3,Sq51,rfl,Sq51,Sq52,rfl,[.s 52,.b 1003],Sq53,rfl,Sq7,Sq54,rfl,[.s 53,.s 54],Sq55,rfl,⟨?_,?_⟩,Sq55,Sq56,rfl,Sq56,Sq57,rfl,Sq3,Sq58,rfl,[.s 58,.b 1003],Sq59,rfl,Sq7,Sq60,rfl,[.s 59,.s 60],Sq61,rfl,⟨?_,?_⟩,Sq61,Sq62,rfl,[.s 50,.s 57,.s 62],Sq63,rfl,⟨tv5,?_⟩,?_,fun x5 w6=>⟨Sq63,Sq49,rfl,Sq49,Sq64,rfl,Sq49,Sq65,rfl,[.b 1008],[.s 8,.b 1008],rfl,[.s 8,.s 64,.b 1008],[.b 1008],rfl,Sq65,Sq9,rfl,⟨tv3,?_,?_⟩,fun x7 w8=>⟨fun w9=>⟨⟨tv3,?_,?_⟩,fun x10 kA=>⟨⟨?_,?_⟩,?_⟩⟩,fun dJ=>?_⟩⟩⟩,fun iU=>⟨⟨?_,?_⟩,?_⟩⟩,fun gO=>⟨⟨?_,?_⟩,?_⟩⟩,fun qK=>⟨⟨?_,?_⟩,?_⟩⟩,fun kg=>?_⟩
  all_goals first|refine aw ?_|refine ax ?_|exact a8|(dsimp only [ba,ck,jC,pV,o0,mM];omega)|exact a7|exact Int.emod_nonneg _ hn0|exact Int.emod_lt_of_pos _ hnp|exact ZE0 (Int.ofNat_le.2 (dj _)) (by decide)|exact aJ w4|(have e8:x7.2=p7+1:=w8.2;exact hr.at (by omega) (by omega))|exact hr.at (show 0≤p7 by omega) (by omega)|(simp only [gK];have h:=pk (n:=9) (by decide) kA;omega)|(simp only [imax];have h:=pk (n:=9) (by decide) kA;omega)|skip
  ·have e8:x7.2=p7+1:=w8.2
   have e10:x10.2=x7.2+1:=kA.2
   refine⟨[],[],_,_,_,rfl,cf,(((gv ((f0+(i:Int)) % (aj.length:Int)) (max (1:Int) (nth ag an ((f0+(i:Int)) % (aj.length:Int)).toNat)) 0 (nth ab aj ((f0+(i:Int)) % (aj.length:Int)).toNat)).1.1,1+x10.1,(gv ((f0+(i:Int)) % (aj.length:Int)) (max (1:Int) (nth ag an ((f0+(i:Int)) % (aj.length:Int)).toNat)) 0 (nth ab aj ((f0+(i:Int)) % (aj.length:Int)).toNat)).1.2.2.1,(gv ((f0+(i:Int)) % (aj.length:Int)) (max (1:Int) (nth ag an ((f0+(i:Int)) % (aj.length:Int)).toNat)) 0 (nth ab aj ((f0+(i:Int)) % (aj.length:Int)).toNat)).1.2.2.2.1,(gv ((f0+(i:Int)) % (aj.length:Int)) (max (1:Int) (nth ag an ((f0+(i:Int)) % (aj.length:Int)).toNat)) 0 (nth ab aj ((f0+(i:Int)) % (aj.length:Int)).toNat)).1.2.2.2.2),x10.2),⟨by show rp≤x10.2;omega,by show x10.2≤rp+1020;omega⟩,rfl,rfl,rfl⟩
  ·have e8:x7.2=p7+1:=w8.2
   refine⟨[],[],_,_,_,rfl,cf,((gv ((f0+(i:Int)) % (aj.length:Int)) (max (1:Int) (nth ag an ((f0+(i:Int)) % (aj.length:Int)).toNat)) 0 (nth ab aj ((f0+(i:Int)) % (aj.length:Int)).toNat)).1,x7.2),⟨by show rp≤x7.2;omega,by show x7.2≤rp+1020;omega⟩,rfl,rfl,rfl⟩
  ·refine⟨(i+1),[],?_,?_,?_⟩
   rotate_right
   ·exact bV
   ·exact cm w1
   ·show 64-(i+1)<64-i;have:=cm w1;omega
  ·refine⟨(i+1),[],?_,?_,?_⟩
   rotate_right
   ·exact bV
   ·exact cm w1
   ·show 64-(i+1)<64-i;have:=cm w1;omega
  ·refine⟨(i+1),[],?_,?_,?_⟩
   rotate_right
   ·exact bV
   ·exact cm w1
   ·show 64-(i+1)<64-i;have:=cm w1;omega
  ·refine⟨[],[],_,_,_,rfl,cf,((_,_,_,_,_),p7),⟨by show rp≤p7;omega,by show p7≤rp+1020;omega⟩,rfl,rfl,rfl⟩
end GL
end Go.Proofs.YtnkbdhldiinfdaaGreatDoor
