/- FnTreeOk returns true for every code (its row lists package variables, tied by the card): part 30. -/
import Derived.Test.YtbfgjadbfjkcdaaGreatDoorPat
import Derived.Test.YtbfgjadbfjkcdaaGreatDoorPav
set_option maxHeartbeats 20000000
set_option linter.all false
namespace Go.Proofs.YtbfgjadbfjkcdaaGreatDoor
namespace GL
structure FD (r:List Int×Int) (n:Int):Prop where
 len:r.1.length≤2000
 jd:∀b∈r.1,0≤b∧b≤255
 p0:0≤r.2
 p1:r.2≤n
abbrev byteOf (l:List Int) (k:Nat):Int:=nth kL l k
def cn (r:List Int×Int) (n:Int):Prop:=FD r 1000000∧n≤1000000
def dP (r:List Int×Int) (n:Int) (z:Int×Int):Prop:=(z.1=0∨(0≤z.1∧z.1<n))∧z.2=r.2+1
def K1 (r:List Int×Int) (n:Int) (z:Int×Int):AV:=.s (.int z.1)
def OX (r:List Int×Int) (n:Int) (z:Int×Int):List AV:=[.a [.vw kL r.1,.int z.2]]
def bb:Con where
 A:=[.b 0,.s .int]
 B:=[.a [.vw kL,.int]]
 pre:=fun x b=>cn b (x.2)
 α:=fun _ _=>Int×Int
 φ:=fun x b z=>dP b (x.2) z
 r:=fun x b z=>K1 b (x.2) z
 o:=fun x b z=>OX b (x.2) z
 nf:=0
set_option maxRecDepth 100000 in
theorem dh:Has Tryz.prog 16 bb:=by
 refine Has.ofE (fun _=>true) (fun _=>false) (fun _=>false) (l:=[]) trivial (fn:=Tryz.f16) Tryz.func16 rfl (by decide) (aZ rfl) ?_
 rintro⟨_,(n:Int)⟩ ⟨(rb:List Int),(rp:Int)⟩ (hp:cn (rb,rp) n)
 show vc _ _ _ _ (entry [.s (.bp 0 0),.int n] [.a [.vw kL rb,.int rp]]) _
 obtain⟨hr,(hn:n≤1000000)⟩:=hp
 have hp0:0≤rp:=hr.p0
 have hp1:rp≤1000000:=hr.p1
 have hnb:∀k,0≤byteOf rb k∧byteOf rb k≤255:=fun k=>by
  by_cases hk:k<rb.length
  ·exact hr.jd _ (bT (ek:=kL) hk)
  ·show 0≤nth kL rb k∧nth kL rb k≤255;unfold nth;rw [ZD9 (by omega)];exact⟨ZC1 _,by decide⟩
 have hlp:decide ((rb.length:Int)=0)=false→0<(rb.length:Int):=fun h=>by have:=aA h;omega
 have hnp:decide (n<1)=false→0<n:=fun h=>by have:=aA h;omega
 have hnc:∀k,(0:Int)≤nth kL rb k∧(nth kL rb k:Int)≤(255:Int):=hnb
 have c1:=hnc (rp+1-1).toNat
 have c2:=hnc ((rp+1-1) % (rb.length:Int)).toNat
 have c3:=hnc (((rp+1-1)*7+3) % (rb.length:Int)).toNat
 have a1:=hnb (rp+1-1).toNat
 have a2:=hnb ((rp+1-1) % (rb.length:Int)).toNat
 have a3:=hnb (((rp+1-1)*7+3) % (rb.length:Int)).toNat
 have hl2:rb.length≤2000:=hr.len
 have a4:decide ((rb.length:Int)=0)=false→0≤(rp+1-1) / (rb.length:Int)∧(rp+1-1) / (rb.length:Int)≤rp+1-1:=fun h=>⟨Int.ediv_nonneg (by omega) (Int.le_of_lt (hlp h)),Int.ediv_le_self _ (by omega)⟩
 refine⟨⟨?_,?_⟩,aa,fun w1=>?_,fun w2=>⟨fun w3=>?_,fun w4=>⟨⟨?_,?_⟩,fun w5=>⟨⟨?_,?_⟩,⟨?_,?_⟩,⟨?_,?_⟩,?_⟩,fun w6=>⟨[.s 0],[.s 47],rfl,[.s 47],[.s 48],rfl,[.s 48],[.s 49],rfl,[.s 49,.b 0],[.s 50],rfl,[.s 5],[.s 51],rfl,[.s 0],[.s 52],rfl,[.s 52],[.s 53],rfl,[.s 53],[.s 54],rfl,[.s 54,.b 0],[.s 55],rfl,[.s 55],[.s 56],rfl,[.s 51,.s 56],[.s 57],rfl,⟨?_,?_⟩,[.s 50,.s 57],[.s 58],rfl,⟨?_,?_⟩,[.s 58],[.s 59],rfl,[.s 59],[.s 60],rfl,⟨?_,?_⟩,[.s 60],[.s 61],rfl,⟨?_,?_⟩,[.s 0],[.s 62],rfl,[.s 62],[.s 63],rfl,[.s 63],[.s 64],rfl,[.s 64,.b 0],[.s 65],rfl,[.s 5],[.s 66],rfl,[.s 66],[.s 67],rfl,⟨?_,?_⟩,[.s 67],[.s 68],rfl,⟨?_,?_⟩,[.s 0],[.s 69],rfl,[.s 69],[.s 70],rfl,[.s 70],[.s 71],rfl,[.s 71,.b 0],[.s 72],rfl,[.s 72],[.s 73],rfl,[.s 68,.s 73],[.s 74],rfl,⟨?_,?_⟩,[.s 65,.s 74],[.s 75],rfl,⟨?_,?_⟩,[.s 75],[.s 76],rfl,[.s 76],[.s 77],rfl,⟨?_,?_⟩,[.s 77],[.s 78],rfl,⟨?_,?_⟩,[.s 61,.s 78],[.s 79],rfl,⟨?_,?_⟩,[.s 5],[.s 80],rfl,[.s 80],[.s 81],rfl,⟨?_,?_⟩,[.s 79,.s 81],[.s 82],rfl,⟨?_,?_⟩,[.s 5],[.s 83],rfl,[.s 0],[.s 84],rfl,[.s 84],[.s 85],rfl,[.s 85],[.s 86],rfl,[.s 86,.b 0],[.s 87],rfl,[.s 87],[.s 88],rfl,[.s 83,.s 88],[.s 89],rfl,⟨?_,?_,?_⟩,[.s 89],[.s 90],rfl,⟨?_,?_⟩,[.s 82,.s 90],[.s 91],rfl,⟨?_,?_⟩,[.s 91],[.s 6],rfl,⟨?_,?_,?_⟩,⟨?_,?_,?_,?_⟩,⟨?_,?_⟩,?_⟩⟩⟩⟩
 all_goals first|refine aw ?_|refine ax ?_|exact ba|exact a8|exact Int.emod_nonneg _ (Int.ne_of_gt (hlp w4))|exact Int.emod_lt_of_pos _ (hlp w4)|(simp only [gO,imax];omega)|(simp only [gO,imax];have:=a4 w4;omega)|exact a1.1|exact aE w5|exact ZE1 a1.2 (by decide)|exact ZE1 a2.2 (by decide)|exact ZE1 a3.2 (by decide)|(show byteOf rb ((rp+1-1) % (rb.length:Int)).toNat*131≤imax;unfold imax;omega)|(show byteOf rb (((rp+1-1)*7+3) % (rb.length:Int)).toNat*1117≤imax;unfold imax;omega)|(show byteOf rb ((rp+1-1) % (rb.length:Int)).toNat*131+byteOf rb (((rp+1-1)*7+3) % (rb.length:Int)).toNat*1117≤imax;unfold imax;omega)|(have:=a4 w4;show (byteOf rb ((rp+1-1) % (rb.length:Int)).toNat*131+byteOf rb (((rp+1-1)*7+3) % (rb.length:Int)).toNat*1117+(rp+1-1)*29+(rp+1-1) / (rb.length:Int)*53) / 64≤imax;unfold imax;omega)|skip
 ·refine⟨[],[],_,_,_,rfl,ch,(0,rp+1),⟨.inl rfl,rfl⟩,rfl,rfl,rfl⟩
 ·refine⟨[],[],_,_,_,rfl,ch,(0,rp+1),⟨.inl rfl,rfl⟩,rfl,rfl,rfl⟩
 ·refine⟨[],[],_,_,_,rfl,ch,(byteOf rb (rp+1-1).toNat % n,rp+1),⟨.inr ⟨Int.emod_nonneg _ (Int.ne_of_gt (hnp w2)),Int.emod_lt_of_pos _ (hnp w2)⟩,rfl⟩,rfl,rfl,rfl⟩
 all_goals first
  |(have:=a4 w4;have h:(byteOf rb ((rp+1-1) % (rb.length:Int)).toNat*131+byteOf rb (((rp+1-1)*7+3) % (rb.length:Int)).toNat*1117+(rp+1-1)*29+(rp+1-1) / (rb.length:Int)*53)≤imax:=by unfold imax;omega
    exact h)
  |(have:=a4 w4;have h:(byteOf rb ((rp+1-1) % (rb.length:Int)).toNat*131+byteOf rb (((rp+1-1)*7+3) % (rb.length:Int)).toNat*1117+(rp+1-1)*29+(rp+1-1) / (rb.length:Int)*53) / 64≤imax:=by unfold imax;omega
    exact h)
  |(have h:byteOf rb ((rp+1-1) % (rb.length:Int)).toNat*131+byteOf rb (((rp+1-1)*7+3) % (rb.length:Int)).toNat*1117+(rp+1-1)*29≤imax:=by unfold imax;omega
    exact h)
  |skip
 ·have hx:=hnp w2
  refine⟨[],[],_,_,_,rfl,az,(_,rp+1),⟨.inr ⟨?_,?_⟩,rfl⟩,rfl,rfl,rfl⟩
  ·exact Int.emod_nonneg _ (Int.ne_of_gt hx)
  ·exact Int.emod_lt_of_pos _ hx
def ig (r:List Int×Int) (n:Int):Prop:=FD r 990000∧0≤n∧n≤100
def fj (r:List Int×Int) (n:Int) (z:ByteArray×Int):Prop:=(z.1.size:Int)≤n∧r.2≤z.2∧z.2≤r.2+1000
def RE (r:List Int×Int) (n:Int) (z:ByteArray×Int):AV:=.s (.str z.1)
def WH (r:List Int×Int) (n:Int) (z:ByteArray×Int):List AV:=[.a [.vw kL r.1,.int z.2]]
def cT:Con where
 A:=[.b 0,.s .int]
 B:=[.a [.vw kL,.int]]
 pre:=fun x b=>ig b (x.2)
 α:=fun _ _=>ByteArray×Int
 φ:=fun x b z=>fj b (x.2) z
 r:=fun x b z=>RE b (x.2) z
 o:=fun x b z=>WH b (x.2) z
 nf:=0
set_option maxRecDepth 100000 in
theorem pn:Has Tryz.prog 19 cT:=by
 refine Has.ofE (fun d=> !(Nat.beq d 40)) (fun _=>false) (fun _=>false) (l:=[(16,bb)]) ⟨dh,trivial⟩ (fn:=Tryz.f19) Tryz.func19 rfl (by decide) (aZ rfl) ?_
 rintro⟨_,(n:Int)⟩ ⟨(rb:List Int),(rp:Int)⟩ (hp:ig (rb,rp) n)
 show vc _ _ _ _ (entry [.s (.bp 0 0),.int n] [.a [.vw kL rb,.int rp]]) _
 obtain⟨hr,(hn0:0≤n),(hn1:n≤100)⟩:=hp
 have hp0:0≤rp:=hr.p0
 have hp1:rp≤990000:=hr.p1
 have dG:∀p:Int,0≤p→p≤1000000→FD (rb,p) 1000000:=fun p h0 h1=>⟨hr.len,hr.jd,h0,h1⟩
 refine⟨aa,⟨?_,?_⟩,⟨⟨aa,aa,aa⟩,?_,?_⟩,fun x1 w2=>⟨⟨⟨aa,aa,aa⟩,?_,?_⟩,fun x3 w4=>?_⟩⟩
 all_goals first|refine aw ?_|refine ax ?_|exact ba|(dsimp only [bb,cn];omega)|exact a8|skip
 ·exact dG rp hp0 (by omega)
 ·have e1:x1.2=rp+1:=w2.2
  exact dG x1.2 (by omega) (by omega)
 ·obtain⟨mv,p1⟩:=x1
  obtain⟨kv,p2⟩:=x3
  have e1:p1=rp+1:=w2.2
  have e2:p2=p1+1:=w4.2
  have hm:mv=0∨(0≤mv∧mv<n+1):=w2.1
  refine cO (l:=[(16,bb)]) (ex:=fun d=> !(Nat.beq d 40)) (wr:=fun _=>false) (pt:=fun _=>false) ⟨dh,trivial⟩ [.s 0,.s 1,.s 6,.s 7] (fun y:List Int×Int=>[(.s 5,.s (.xs 1010 1 0 y.1.length)),(.b 1010,.rs kL y.1),(.b 0,.a [.vw kL rb,.int y.2])]) (fun y=>y.1.length≤mv.toNat∧rp≤y.2∧y.2≤rp+2+3*(y.1.length:Int)) (fun y=>mv.toNat-y.1.length) ([],p2) [] ⟨ZA8 _,by show rp≤p2;omega,by show p2≤rp+2+3*((0:Nat):Int);omega⟩ dN ?_
  rintro⟨out,p⟩ ⟨(ho:out.length≤mv.toNat),(hq0:rp≤p),(hq1:p≤rp+2+3*(out.length:Int))⟩
  refine⟨fun w1=>⟨fun w2=>⟨⟨⟨aa,aa,aa⟩,?_,?_⟩,fun x3 w4=>⟨⟨?_,?_⟩,aa,⟨⟨?_,?_⟩,?_,?_⟩,?_⟩⟩,fun w5=>⟨fun w6=>⟨⟨aa,⟨?_,?_⟩,⟨?_,?_⟩,⟨?_,?_⟩,⟨?_,?_⟩,⟨?_,?_⟩,⟨?_,?_⟩,⟨?_,?_⟩,aa⟩,?_,⟨⟨aa,aa,aa⟩,?_,?_⟩,fun x7 w8=>⟨⟨?_,?_⟩,aa,fun x9 dq=>⟨aa,⟨⟨?_,?_⟩,?_,?_⟩,?_⟩⟩⟩,fun kk=>⟨fun dI=>⟨⟨⟨aa,aa,aa⟩,?_,?_⟩,fun r4 gI=>⟨⟨?_,?_⟩,⟨?_,?_⟩,⟨⟨aa,aa,aa⟩,?_,?_⟩,fun kD kj=>?_⟩⟩,fun wC=>⟨⟨⟨aa,aa,aa⟩,?_,?_⟩,fun qN oB=>⟨⟨?_,?_⟩,⟨?_,?_⟩,aa,⟨⟨?_,?_⟩,?_,?_⟩,?_⟩⟩⟩⟩⟩,fun uw=>⟨⟨?_,?_⟩,?_⟩⟩
  all_goals first|refine aw ?_|refine ax ?_|exact ba|(dsimp only [bb,cn];omega)|exact a8|exact dG p (by omega) (by omega)|decide|skip
  ·have h:x3.1=0∨(0≤x3.1∧x3.1<256):=w4.1
   show 0≤x3.1;omega
  ·have h:x3.1=0∨(0≤x3.1∧x3.1<256):=w4.1
   show x3.1≤255;omega
  ·have hl:=aE (p:=(out.length:Int)<mv) w1
   have e3:x3.2=p+1:=w4.2
   have hlen:(out++[x3.1]).length=out.length+1:=by rw [ZA0];rfl
   refine⟨(out++[x3.1],x3.2),[(1010,1036)],?_,?_,?_⟩
   rotate_right
   ·exact bX
   ·exact⟨by show (out++[x3.1]).length≤mv.toNat;omega,by show rp≤x3.2;omega,by show x3.2≤rp+2+3*((out++[x3.1]).length:Int);omega⟩
   ·show mv.toNat-(out++[x3.1]).length<mv.toNat-out.length;omega
  ·have h:x7.1=0∨(0≤x7.1∧x7.1<7):=w8.1
   show 0≤x7.1;omega
  ·have h:x7.1=0∨(0≤x7.1∧x7.1<7):=w8.1
   show x7.1<7;omega
  ·have hl:=aE (p:=(out.length:Int)<mv) w1
   have e3:x7.2=p+1:=w8.2
   have hlen:(out++[x9]).length=out.length+1:=by rw [ZA0];rfl
   refine⟨(out++[x9],x7.2),[(1010,1047)],?_,?_,?_⟩
   rotate_right
   ·exact bX
   ·exact⟨by show (out++[x9]).length≤mv.toNat;omega,by show rp≤x7.2;omega,by show x7.2≤rp+2+3*((out++[x9]).length:Int);omega⟩
   ·show mv.toNat-(out++[x9]).length<mv.toNat-out.length;omega
  ·have h:r4.1=0∨(0≤r4.1∧r4.1<3):=gI.1
   show gO≤97+r4.1;unfold gO;omega
  ·have h:r4.1=0∨(0≤r4.1∧r4.1<3):=gI.1
   show 97+r4.1≤imax;unfold imax;omega
  ·have h:r4.1=0∨(0≤r4.1∧r4.1<3):=gI.1
   show 0≤97+r4.1;omega
  ·have h:r4.1=0∨(0≤r4.1∧r4.1<3):=gI.1
   show 97+r4.1≤255;omega
  ·have e3:r4.2=p+1:=gI.2
   exact dG r4.2 (by omega) (by omega)
  ·have hl:=aE (p:=(out.length:Int)<mv) w1
   have e3:r4.2=p+1:=gI.2
   have e4:kD.2=r4.2+1:=kj.2
   have h5:kD.1=0∨(0≤kD.1∧kD.1<6):=kj.1
   refine cO (l:=[(16,bb)]) (ex:=fun d=> !(Nat.beq d 40)) (wr:=fun _=>false) (pt:=fun _=>false) ⟨dh,trivial⟩ [.s 0,.s 1,.s 6,.s 7,.s 8,.b 0] (fun y:List Int×Int=>[(.s 5,.s (.xs 1010 1 0 y.1.length)),(.s 9,.int y.2),(.b 1010,.rs kL y.1)]) (fun y=>y.1.length≤mv.toNat∧(out.length+1≤y.1.length∨(y.1.length=out.length∧0≤y.2))∧-1≤y.2∧y.2≤6) (fun y=>(y.2+1).toNat) (out,kD.1) [] ⟨ho,.inr ⟨rfl,by show 0≤kD.1;omega⟩,by show -1≤kD.1;omega,by show kD.1≤6;omega⟩ dN ?_
   rintro⟨o2,k⟩ ⟨(g1:o2.length≤mv.toNat),(g2:out.length+1≤o2.length∨(o2.length=out.length∧0≤k)),(g3: -1≤k),(g4:k≤6)⟩
   have hlen:∀z:Int,(o2++[z]).length=o2.length+1:=fun z=>by rw [ZA0];rfl
   refine⟨aa,fun w1=>⟨fun w2=>⟨aa,⟨⟨?_,?_⟩,?_,?_⟩,⟨?_,?_⟩,?_⟩,fun w3=>?_⟩,fun w4=>?_⟩
   all_goals first|refine aw ?_|refine ax ?_|exact ba|(dsimp only [bb,cn];omega)|exact a8|skip
   ·have hm2:=aE (p:=(o2.length:Int)<mv) w2
    have hk2:=aE (p:=k≥0) w1
    have hle:=hlen (97+r4.1)
    refine⟨(o2++[97+r4.1],k-1),[(1010,1069)],?_,?_,?_⟩
    rotate_right
    ·exact bX
    ·exact⟨by show (o2++[97+r4.1]).length≤mv.toNat;omega,.inl (by show out.length+1≤(o2++[97+r4.1]).length;omega),by show -1≤k-1;omega,by show k-1≤6;omega⟩
    ·show (k-1+1).toNat<(k+1).toNat;omega
   ·have hm2:=aA (p:=(o2.length:Int)<mv) w3
    have hg:out.length+1≤o2.length:=by omega
    refine⟨(o2,kD.2),[],?_,?_,?_⟩
    rotate_right
    ·exact bX
    ·exact⟨by show (o2).length≤mv.toNat;omega,by show rp≤kD.2;omega,by show kD.2≤rp+2+3*((o2).length:Int);omega⟩
    ·show mv.toNat-(o2).length<mv.toNat-out.length;omega
   ·have hk2:=aA (p:=k≥0) w4
    have hg:out.length+1≤o2.length:=by omega
    refine⟨(o2,kD.2),[],?_,?_,?_⟩
    rotate_right
    ·exact bX
    ·exact⟨by show (o2).length≤mv.toNat;omega,by show rp≤kD.2;omega,by show kD.2≤rp+2+3*((o2).length:Int);omega⟩
    ·show mv.toNat-(o2).length<mv.toNat-out.length;omega
  ·have h:qN.1=0∨(0≤qN.1∧qN.1<2):=oB.1
   show gO≤qN.1*97;unfold gO;omega
  ·have h:qN.1=0∨(0≤qN.1∧qN.1<2):=oB.1
   show qN.1*97≤imax;unfold imax;omega
  ·have h:qN.1=0∨(0≤qN.1∧qN.1<2):=oB.1
   show 0≤qN.1*97;omega
  ·have h:qN.1=0∨(0≤qN.1∧qN.1<2):=oB.1
   show qN.1*97≤255;omega
  ·have hl:=aE (p:=(out.length:Int)<mv) w1
   have e3:qN.2=p+1:=oB.2
   have hlen:(out++[qN.1*97]).length=out.length+1:=by rw [ZA0];rfl
   refine⟨(out++[qN.1*97],qN.2),[(1010,1028)],?_,?_,?_⟩
   rotate_right
   ·exact bX
   ·exact⟨by show (out++[qN.1*97]).length≤mv.toNat;omega,by show rp≤qN.2;omega,by show qN.2≤rp+2+3*((out++[qN.1*97]).length:Int);omega⟩
   ·show mv.toNat-(out++[qN.1*97]).length<mv.toNat-out.length;omega
  ·have hl:=aA (p:=(out.length:Int)<mv) (by assumption)
   have hs:(fc out).size=out.length:=by rw [fc,nJ];simp
   refine⟨[],[],_,_,_,rfl,ch,(fc out,p),⟨by show ((fc out).size:Int)≤n;omega,hq0,by show p≤rp+1000;omega⟩,rfl,rfl,rfl⟩
end GL
namespace GL
theorem FD.at {r:List Int×Int}{n m p:Int}(h:FD r n) (h0:0≤p) (h1:p≤m):FD (r.1,p) m:=⟨h.len,h.jd,h0,h1⟩
theorem pk {z:Int×Int}{n p:Int}(hn:0<n) (h:(z.1=0∨(0≤z.1∧z.1<n))∧z.2=p+1):0≤z.1∧z.1<n:=by
 rcases h.1 with h |h
 ·rw [h];exact⟨ZC1 _,hn⟩
 ·exact h
theorem FO {ek:EK}{l:List (EK.Ty ek)}{P:EK.Ty ek→Prop}(h0:P (EK.zero ek)) (h:∀x∈l,P x) (k:Nat):P (nth ek l k):=by
 by_cases hk:k<l.length
 ·exact h _ (bT hk)
 ·unfold nth;rw [ZD9 (by omega)];exact h0
def yl (r:List Int×Int):Prop:=FD r 990000
def V7 (r:List Int×Int) (z:Int×Int):Prop:=(-1≤z.1∧z.1≤64)∧r.2≤z.2∧z.2≤r.2+2
def VP (r:List Int×Int) (z:Int×Int):AV:=.s (.int z.1)
def abm (r:List Int×Int) (z:Int×Int):List AV:=[.a [.vw kL r.1,.int z.2]]
def J5:Con where
 A:=[.b 0]
 B:=[.a [.vw kL,.int]]
 pre:=fun x b=>yl b
 α:=fun _ _=>Int×Int
 φ:=fun x b z=>V7 b z
 r:=fun x b z=>VP b z
 o:=fun x b z=>abm b z
 nf:=0
set_option maxRecDepth 100000 in
theorem ad7:Has Tryz.prog 85 J5:=by
 refine Has.ofE (fun _=>true) (fun _=>false) (fun _=>false) (l:=[(16,bb)]) ⟨dh,trivial⟩ (fn:=Tryz.f85) Tryz.func85 rfl (by decide) (aZ rfl) ?_
 rintro _ ⟨(rb:List Int),(rp:Int)⟩ (hp:yl (rb,rp))
 show vc _ _ _ _ (entry [.s (.bp 0 0)] [.a [.vw kL rb,.int rp]]) _
 have hr:FD (rb,rp) 990000:=hp
 have hp0:0≤rp:=hr.p0
 have hp1:rp≤990000:=hr.p1
 refine⟨⟨⟨aa,aa,aa⟩,?_,?_⟩,fun x1 w2=>⟨fun w3=>⟨aa,⟨⟨aa,aa,aa⟩,?_,?_⟩,fun x4 w5=>⟨⟨?_,?_⟩,?_,?_⟩⟩,fun w6=>⟨⟨⟨aa,aa,aa⟩,?_,?_⟩,fun x7 w8=>⟨⟨?_,?_⟩,?_⟩⟩⟩⟩
 all_goals first|refine aw ?_|refine ax ?_|exact ba|(dsimp only [bb,cn];omega)|exact a8|(have e:x1.2=rp+1:=w2.2;exact hr.at (by omega) (by omega))|exact hr.at hp0 (by omega)|exact (pk (by decide) w5).1|exact (pk (by decide) w5).2|(show x4.1.toNat<6;have h:=pk (n:=6) (by decide) w5;omega)|(show (-9223372036854775808:Int)≤8+x7.1;have h:=pk (n:=12) (by decide) w8;omega)|(show 8+x7.1≤(9223372036854775807:Int);have h:=pk (n:=12) (by decide) w8;omega)|skip
 ·have e1:x1.2=rp+1:=w2.2
  have e2:x4.2=x1.2+1:=w5.2
  refine⟨[],[],_,_,_,rfl,ch,(nth ag [-1,0,3,7,64,63] x4.1.toNat,x4.2),⟨FO (ek:=ag) (P:=fun x:Int=> -1≤x∧x≤64) (by decide) (by decide) _,by show rp≤x4.2;omega,by show x4.2≤rp+2;omega⟩,rfl,rfl,rfl⟩
 ·have e1:x1.2=rp+1:=w2.2
  have e2:x7.2=x1.2+1:=w8.2
  have h:=pk (n:=12) (by decide) w8
  refine⟨[],[],_,_,_,rfl,ch,(8+x7.1,x7.2),⟨⟨by show -1≤8+x7.1;omega,by show 8+x7.1≤64;omega⟩,by show rp≤x7.2;omega,by show x7.2≤rp+2;omega⟩,rfl,rfl,rfl⟩
def ahG:List ByteArray:=[⟨#[]⟩,⟨#[97]⟩,⟨#[47,47]⟩,⟨#[47,97,47]⟩,⟨#[47,65]⟩,⟨#[47,97,47,98,47,99,47,97,47,98]⟩,⟨#[47,97,98,99,100,101]⟩,⟨#[47,97,47,47,98]⟩]
def ahF:List ByteArray:=[⟨#[47,97]⟩,⟨#[47,98]⟩,⟨#[47,97,47,98]⟩,⟨#[47,97,47,99]⟩,⟨#[47,98,47,97]⟩,⟨#[47,99]⟩,⟨#[47,97,47,98,47,99]⟩,⟨#[47,99,47,97]⟩,⟨#[47,97,98]⟩,⟨#[47]⟩]
def vi (r:List Int×Int):Prop:=FD r 990000
def jo (r:List Int×Int) (z:ByteArray×Int):Prop:=z.1.size≤12∧r.2≤z.2∧z.2≤r.2+2
def RD (r:List Int×Int) (z:ByteArray×Int):AV:=.s (.str z.1)
def WE (r:List Int×Int) (z:ByteArray×Int):List AV:=[.a [.vw kL r.1,.int z.2]]
def j0:Con where
 A:=[.b 0]
 B:=[.a [.vw kL,.int]]
 pre:=fun x b=>vi b
 α:=fun _ _=>ByteArray×Int
 φ:=fun x b z=>jo b z
 r:=fun x b z=>RD b z
 o:=fun x b z=>WE b z
 nf:=0
set_option maxRecDepth 100000 in
theorem ab1:Has Tryz.prog 70 j0:=by
 refine Has.ofE (fun _=>true) (fun _=>false) (fun _=>false) (l:=[(16,bb)]) ⟨dh,trivial⟩ (fn:=Tryz.f70) Tryz.func70 rfl (by decide) (aZ rfl) ?_
 rintro _ ⟨(rb:List Int),(rp:Int)⟩ (hp:vi (rb,rp))
 show vc _ _ _ _ (entry [.s (.bp 0 0)] [.a [.vw kL rb,.int rp]]) _
 have hr:FD (rb,rp) 990000:=hp
 have hp0:0≤rp:=hr.p0
 have hp1:rp≤990000:=hr.p1
 refine⟨⟨⟨aa,aa,aa⟩,?_,?_⟩,fun x1 w2=>⟨fun w3=>⟨aa,⟨⟨aa,aa,aa⟩,?_,?_⟩,fun x4 w5=>⟨⟨?_,?_⟩,?_,?_⟩⟩,fun w6=>⟨aa,⟨⟨aa,aa,aa⟩,?_,?_⟩,fun x7 w8=>⟨⟨?_,?_⟩,?_,?_⟩⟩⟩⟩
 all_goals first|refine aw ?_|refine ax ?_|exact ba|(dsimp only [bb,cn];omega)|exact a8|(have e:x1.2=rp+1:=w2.2;exact hr.at (by omega) (by omega))|exact hr.at hp0 (by omega)|exact (pk (by decide) w5).1|exact (pk (by decide) w5).2|exact (pk (by decide) w8).1|exact (pk (by decide) w8).2|(show x4.1.toNat<8;have h:=pk (n:=8) (by decide) w5;omega)|(show x7.1.toNat<10;have h:=pk (n:=10) (by decide) w8;omega)|skip
 ·have e1:x1.2=rp+1:=w2.2
  have e2:x4.2=x1.2+1:=w5.2
  refine⟨[],[],_,_,_,rfl,ch,(nth ab ahG x4.1.toNat,x4.2),⟨FO (ek:=ab) (P:=fun x:ByteArray=>x.size≤12) (by decide) (by decide) _,by show rp≤x4.2;omega,by show x4.2≤rp+2;omega⟩,rfl,rfl,rfl⟩
 ·have e1:x1.2=rp+1:=w2.2
  have e2:x7.2=x1.2+1:=w8.2
  refine⟨[],[],_,_,_,rfl,ch,(nth ab ahF x7.1.toNat,x7.2),⟨FO (ek:=ab) (P:=fun x:ByteArray=>x.size≤12) (by decide) (by decide) _,by show rp≤x7.2;omega,by show x7.2≤rp+2;omega⟩,rfl,rfl,rfl⟩
def yo (s:ByteArray) (n:Int):Prop:=s.size≤1000∧0≤n∧n≤1000
def kR (s:ByteArray) (n:Int) (z:ByteArray):Prop:=z.size=s.size*n.toNat
def VX (s:ByteArray) (n:Int) (z:ByteArray):AV:=.s (.str z)
def abv (s:ByteArray) (n:Int) (z:ByteArray):List AV:=[]
def mm:Con where
 A:=[.s .str,.s .int]
 B:=[]
 pre:=fun x b=>yo (x.1) (x.2)
 α:=fun _ _=>ByteArray
 φ:=fun x b z=>kR (x.1) (x.2) z
 r:=fun x b z=>VX (x.1) (x.2) z
 o:=fun x b z=>abv (x.1) (x.2) z
 nf:=0
set_option maxRecDepth 100000 in
theorem aec:Has Tryz.prog 71 mm:=by
 refine Has.ofE (fun _=>true) (fun _=>false) (fun _=>false) (l:=[]) trivial (fn:=Tryz.f71) Tryz.func71 rfl (by decide) (aZ rfl) ?_
 rintro⟨(s:ByteArray),(n:Int)⟩ _ (hp:yo s n)
 show vc _ _ _ _ (entry [.str s,.int n] []) _
 obtain⟨hs,(h0:0≤n),(h1:n≤1000)⟩:=hp
 have hb:s.size*n.toNat≤1000000:=ZB1 (Nat.mul_le_mul hs (show n.toNat≤1000 by omega)) (by decide)
 refine ?_
 all_goals first|refine aw ?_|refine ax ?_|exact ba|exact a8|skip
 refine cO (l:=[]) (ex:=fun _=>true) (wr:=fun _=>false) (pt:=fun _=>false) trivial [] (fun y:ByteArray×Int×ByteArray=>[(.s 0,.str y.1),(.s 1,.int y.2.1),(.s 5,.str y.2.2)]) (fun y=>0≤y.2.1∧y.2.1≤1000∧y.2.2.size+y.1.size*y.2.1.toNat=s.size*n.toNat) (fun y=>y.2.1.toNat) (s,n,⟨#[]⟩) [] ⟨h0,h1,by show 0+s.size*n.toNat=s.size*n.toNat;omega⟩ dN ?_
 rintro⟨t,m,out⟩ ⟨(g0:0≤m),(g1:m≤1000),(g2:out.size+t.size*m.toNat=s.size*n.toNat)⟩
 have hm:decide (m>0)=true→t.size≤1000000:=fun h=>by
  have h3:=aE h
  have:t.size*1≤t.size*m.toNat:=Nat.mul_le_mul_left _ (by omega)
  omega
 have ho:out.size≤1000000:=by omega
 have e2:∀q:Nat,t.size*(2*q)=(t.size+t.size)*q:=fun q=>by rw [Nat.mul_comm 2 q,←Nat.mul_assoc,ZE3];omega
 refine⟨fun w1=>⟨⟨?_,?_⟩,⟨fun w2=>⟨?_,⟨?_,⟨⟨?_,⟨?_,?_⟩⟩,?_⟩⟩⟩,fun w3=>⟨?_,⟨⟨?_,⟨?_,?_⟩⟩,?_⟩⟩⟩⟩,fun w4=>?_⟩
 all_goals first|refine aw ?_|refine ax ?_|exact ba|exact a8|(show ((out.size+t.size:Nat):Int)≤9223372036854775807;have:=hm w1;omega)|(show ((t.size+t.size:Nat):Int)≤9223372036854775807;have:=hm w1;omega)|skip
 ·have h1:=aE (p:=m>0) w1
  have h2:=aE (p:=m % 2=1) w2
  have e:m.tdiv 2=m / 2:=Int.tdiv_eq_ediv_of_nonneg g0
  refine⟨(t++t,m / 2,out++t),[],?_,?_,?_⟩
  rotate_right
  ·exact bX
  ·refine⟨by show 0≤m / 2;omega,by show m / 2≤1000;omega,?_⟩
   show (out++t).size+(t++t).size*(m / 2).toNat=_
   rw [ZB3,ZB3,←g2,←e2,show m.toNat=2*(m / 2).toNat+1 by omega,Nat.mul_add];omega
  ·show (m / 2).toNat<m.toNat;omega
 ·have h1:=aE (p:=m>0) w1
  have h2:=aA (p:=m % 2=1) w3
  refine⟨(t++t,m / 2,out),[],?_,?_,?_⟩
  rotate_right
  ·exact bX
  ·refine⟨by show 0≤m / 2;omega,by show m / 2≤1000;omega,?_⟩
   show out.size+(t++t).size*(m / 2).toNat=_
   rw [ZB3,←g2,←e2,show m.toNat=2*(m / 2).toNat by omega]
  ·show (m / 2).toNat<m.toNat;omega
 ·have h1:=aA (p:=m>0) w4
  refine⟨[],[],_,_,_,rfl,ch,out,show out.size=s.size*n.toNat by rw [←g2,show m.toNat=0 by omega];omega,rfl,rfl,rfl⟩
end GL
namespace GL
def pZ (r:List Int×Int):Prop:=FD r 980000
def qm (r:List Int×Int) (z:Pt×Int):Prop:=r.2≤z.2∧z.2≤r.2+1010
def VQ (r:List Int×Int) (z:Pt×Int):AV:=.o (ptA z.1)
def abn (r:List Int×Int) (z:Pt×Int):List AV:=[.a [.vw kL r.1,.int z.2]]
def jE:Con where
 A:=[.b 0]
 B:=[.a [.vw kL,.int]]
 pre:=fun x b=>pZ b
 α:=fun _ _=>Pt×Int
 φ:=fun x b z=>qm b z
 r:=fun x b z=>VQ b z
 o:=fun x b z=>abn b z
 nf:=0
set_option maxRecDepth 100000 in
theorem IQ:Has Tryz.prog 52 jE:=by
 refine Has.ofE (fun _=>true) (fun _=>false) (fun _=>false) (l:=[(16,bb),(19,cT),(53,o9),(85,J5)]) ⟨dh,pn,FV,ad7,trivial⟩ (fn:=Tryz.f52) Tryz.func52 rfl (by decide) (aZ rfl) ?_
 rintro _ ⟨(rb:List Int),(rp:Int)⟩ (hp:pZ (rb,rp))
 show vc _ _ _ _ (entry [.s (.bp 0 0)] [.a [.vw kL rb,.int rp]]) _
 have hr:FD (rb,rp) 980000:=hp
 have hp0:0≤rp:=hr.p0
 have hp1:rp≤980000:=hr.p1
 refine⟨⟨⟨aa,aa,aa⟩,?_,?_⟩,fun x1 w2=>⟨fun w3=>?_,fun w4=>⟨⟨⟨aa,aa,aa⟩,?_,?_⟩,fun x5 w6=>⟨⟨?_,?_⟩,⟨⟨aa,aa,aa⟩,?_,?_⟩,fun x7 w8=>⟨⟨?_,?_⟩,⟨⟨aa,aa,aa⟩,?_,?_⟩,fun x9 dq=>⟨⟨⟨aa,aa,aa⟩,?_,?_,?_⟩,fun kE dI=>⟨?_,⟨⟨aa,aa,aa,aa,aa⟩,?_⟩,fun r4 gI=>⟨⟨⟨aa,aa,aa⟩,?_,?_⟩,fun kD kj=>⟨fun wC=>⟨⟨⟨aa,aa⟩,?_⟩,fun qN oB=>?_⟩,fun uw=>⟨fun zm=>⟨aa,⟨⟨aa,aa,aa⟩,?_,?_⟩,fun x22 xD=>⟨⟨?_,?_⟩,?_,?_⟩⟩,fun rG=>⟨fun w25=>⟨aa,⟨⟨aa,aa,aa⟩,?_,?_⟩,fun x26 w27=>⟨⟨?_,?_⟩,?_,?_⟩⟩,fun w28=>⟨fun w29=>⟨aa,⟨⟨aa,aa,aa⟩,?_,?_⟩,fun x30 w31=>⟨⟨?_,?_⟩,?_,?_⟩⟩,fun w32=>⟨fun w33=>⟨aa,⟨⟨aa,aa,aa⟩,?_,?_⟩,fun x34 w35=>⟨⟨?_,?_⟩,?_,?_⟩⟩,fun w36=>?_⟩⟩⟩⟩⟩⟩⟩⟩⟩⟩⟩⟩⟩
 all_goals first|refine aw ?_|refine ax ?_|exact ba|(dsimp only [bb,cn];omega)|(dsimp only [cT,ig];omega)|(dsimp only [o9,mS];omega)|(dsimp only [J5,yl];omega)|exact a8|(simp only [gO];have h:=pk (n:=12) (by decide) w6;omega)|(simp only [imax];have h:=pk (n:=12) (by decide) w6;omega)|(simp only [gO];have h:=pk (n:=9) (by decide) w8;omega)|(simp only [imax];have h:=pk (n:=9) (by decide) w8;omega)|(unfold imax;have h:(kE.1.size:Int)≤9:=dI.1;have h2:(⟨#[116]⟩:ByteArray).size=1:=rfl;omega)|(have e1:x1.2=rp+1:=w2.2;have e5:x5.2=x1.2+1:=w6.2;have e7:x7.2=x5.2+1:=w8.2;have e9:x9.2=x7.2+1:=dq.2;have e11:x9.2≤kE.2∧kE.2≤x9.2+1000:=dI.2;have e15:kD.2=kE.2+1:=kj.2;exact hr.at (by omega) (by omega))|(have e1:x1.2=rp+1:=w2.2;have e5:x5.2=x1.2+1:=w6.2;have e7:x7.2=x5.2+1:=w8.2;have e9:x9.2=x7.2+1:=dq.2;have e11:x9.2≤kE.2∧kE.2≤x9.2+1000:=dI.2;exact hr.at (by omega) (by omega))|(have e1:x1.2=rp+1:=w2.2;have e5:x5.2=x1.2+1:=w6.2;have e7:x7.2=x5.2+1:=w8.2;have e9:x9.2=x7.2+1:=dq.2;exact hr.at (by omega) (by omega))|(have e1:x1.2=rp+1:=w2.2;have e5:x5.2=x1.2+1:=w6.2;have e7:x7.2=x5.2+1:=w8.2;exact hr.at (by omega) (by omega))|(have e1:x1.2=rp+1:=w2.2;have e5:x5.2=x1.2+1:=w6.2;exact hr.at (by omega) (by omega))|(have e1:x1.2=rp+1:=w2.2;exact hr.at (by omega) (by omega))|(exact hr.at (by omega) (by omega))|exact (pk (by decide) xD).1|exact (pk (by decide) xD).2|(show x22.1.toNat<4;have h:=pk (n:=4) (by decide) xD;omega)|exact (pk (by decide) w27).1|exact (pk (by decide) w27).2|(show x26.1.toNat<4;have h:=pk (n:=4) (by decide) w27;omega)|exact (pk (by decide) w31).1|exact (pk (by decide) w31).2|(show x30.1.toNat<4;have h:=pk (n:=4) (by decide) w31;omega)|exact (pk (by decide) w35).1|exact (pk (by decide) w35).2|(show x34.1.toNat<3;have h:=pk (n:=3) (by decide) w35;omega)|skip
 ·refine⟨[],[],_,_,_,rfl,ch,((_,_,_,_,_),x1.2),⟨(by have e1:x1.2=rp+1:=w2.2;show rp≤x1.2;omega),(by have e1:x1.2=rp+1:=w2.2;show x1.2≤rp+1010;omega)⟩,rfl,rfl,rfl⟩
 ·have h:(kE.1.size:Int)≤9:=dI.1
  have h3:((⟨#[116]⟩++kE.1:ByteArray).size:Int)≤1000000000000:=by
   rw [ZB3]
   have h2:(⟨#[116]⟩:ByteArray).size=1:=rfl
   omega
  exact h3
 ·refine⟨[],[],_,_,_,rfl,ch,((_,_,_,_,_),qN.2),⟨(by have e1:x1.2=rp+1:=w2.2;have e5:x5.2=x1.2+1:=w6.2;have e7:x7.2=x5.2+1:=w8.2;have e9:x9.2=x7.2+1:=dq.2;have e11:x9.2≤kE.2∧kE.2≤x9.2+1000:=dI.2;have e15:kD.2=kE.2+1:=kj.2;have e18:kD.2≤qN.2∧qN.2≤kD.2+2:=oB.2;show rp≤qN.2;omega),(by have e1:x1.2=rp+1:=w2.2;have e5:x5.2=x1.2+1:=w6.2;have e7:x7.2=x5.2+1:=w8.2;have e9:x9.2=x7.2+1:=dq.2;have e11:x9.2≤kE.2∧kE.2≤x9.2+1000:=dI.2;have e15:kD.2=kE.2+1:=kj.2;have e18:kD.2≤qN.2∧qN.2≤kD.2+2:=oB.2;show qN.2≤rp+1010;omega)⟩,rfl,rfl,rfl⟩
 ·refine⟨[],[],_,_,_,rfl,ch,((_,(nth ag [0,-1,900,901] x22.1.toNat:Int),_,_,_),x22.2),⟨(by have e1:x1.2=rp+1:=w2.2;have e5:x5.2=x1.2+1:=w6.2;have e7:x7.2=x5.2+1:=w8.2;have e9:x9.2=x7.2+1:=dq.2;have e11:x9.2≤kE.2∧kE.2≤x9.2+1000:=dI.2;have e15:kD.2=kE.2+1:=kj.2;have e22:x22.2=kD.2+1:=xD.2;show rp≤x22.2;omega),(by have e1:x1.2=rp+1:=w2.2;have e5:x5.2=x1.2+1:=w6.2;have e7:x7.2=x5.2+1:=w8.2;have e9:x9.2=x7.2+1:=dq.2;have e11:x9.2≤kE.2∧kE.2≤x9.2+1000:=dI.2;have e15:kD.2=kE.2+1:=kj.2;have e22:x22.2=kD.2+1:=xD.2;show x22.2≤rp+1010;omega)⟩,rfl,rfl,rfl⟩
 ·refine⟨[],[],_,_,_,rfl,ch,((_,_,(nth ag [0,-1,128,129] x26.1.toNat:Int),_,_),x26.2),⟨(by have e1:x1.2=rp+1:=w2.2;have e5:x5.2=x1.2+1:=w6.2;have e7:x7.2=x5.2+1:=w8.2;have e9:x9.2=x7.2+1:=dq.2;have e11:x9.2≤kE.2∧kE.2≤x9.2+1000:=dI.2;have e15:kD.2=kE.2+1:=kj.2;have e26:x26.2=kD.2+1:=w27.2;show rp≤x26.2;omega),(by have e1:x1.2=rp+1:=w2.2;have e5:x5.2=x1.2+1:=w6.2;have e7:x7.2=x5.2+1:=w8.2;have e9:x9.2=x7.2+1:=dq.2;have e11:x9.2≤kE.2∧kE.2≤x9.2+1000:=dI.2;have e15:kD.2=kE.2+1:=kj.2;have e26:x26.2=kD.2+1:=w27.2;show x26.2≤rp+1010;omega)⟩,rfl,rfl,rfl⟩
 ·refine⟨[],[],_,_,_,rfl,ch,((_,_,_,(nth ag [-1,99460728,99460729,0] x30.1.toNat:Int),_),x30.2),⟨(by have e1:x1.2=rp+1:=w2.2;have e5:x5.2=x1.2+1:=w6.2;have e7:x7.2=x5.2+1:=w8.2;have e9:x9.2=x7.2+1:=dq.2;have e11:x9.2≤kE.2∧kE.2≤x9.2+1000:=dI.2;have e15:kD.2=kE.2+1:=kj.2;have e30:x30.2=kD.2+1:=w31.2;show rp≤x30.2;omega),(by have e1:x1.2=rp+1:=w2.2;have e5:x5.2=x1.2+1:=w6.2;have e7:x7.2=x5.2+1:=w8.2;have e9:x9.2=x7.2+1:=dq.2;have e11:x9.2≤kE.2∧kE.2≤x9.2+1000:=dI.2;have e15:kD.2=kE.2+1:=kj.2;have e30:x30.2=kD.2+1:=w31.2;show x30.2≤rp+1010;omega)⟩,rfl,rfl,rfl⟩
 ·refine⟨[],[],_,_,_,rfl,ch,((_,_,_,_,(nth ag [-1,3,2] x34.1.toNat:Int)),x34.2),⟨(by have e1:x1.2=rp+1:=w2.2;have e5:x5.2=x1.2+1:=w6.2;have e7:x7.2=x5.2+1:=w8.2;have e9:x9.2=x7.2+1:=dq.2;have e11:x9.2≤kE.2∧kE.2≤x9.2+1000:=dI.2;have e15:kD.2=kE.2+1:=kj.2;have e34:x34.2=kD.2+1:=w35.2;show rp≤x34.2;omega),(by have e1:x1.2=rp+1:=w2.2;have e5:x5.2=x1.2+1:=w6.2;have e7:x7.2=x5.2+1:=w8.2;have e9:x9.2=x7.2+1:=dq.2;have e11:x9.2≤kE.2∧kE.2≤x9.2+1000:=dI.2;have e15:kD.2=kE.2+1:=kj.2;have e34:x34.2=kD.2+1:=w35.2;show x34.2≤rp+1010;omega)⟩,rfl,rfl,rfl⟩
 ·refine⟨[],[],_,_,_,rfl,ch,((_,_,_,_,_),kD.2),⟨(by have e1:x1.2=rp+1:=w2.2;have e5:x5.2=x1.2+1:=w6.2;have e7:x7.2=x5.2+1:=w8.2;have e9:x9.2=x7.2+1:=dq.2;have e11:x9.2≤kE.2∧kE.2≤x9.2+1000:=dI.2;have e15:kD.2=kE.2+1:=kj.2;show rp≤kD.2;omega),(by have e1:x1.2=rp+1:=w2.2;have e5:x5.2=x1.2+1:=w6.2;have e7:x7.2=x5.2+1:=w8.2;have e9:x9.2=x7.2+1:=dq.2;have e11:x9.2≤kE.2∧kE.2≤x9.2+1000:=dI.2;have e15:kD.2=kE.2+1:=kj.2;show kD.2≤rp+1010;omega)⟩,rfl,rfl,rfl⟩
end GL
namespace GL
def sj (r:List Int×Int):Prop:=FD r 980000
def abb (r:List Int×Int) (z:Opr×Int):Prop:=(z.1.2.1.size≤30∧z.1.2.2.1.size≤30∧z.1.2.2.2.2.size≤30)∧r.2≤z.2∧z.2≤r.2+1020
def aa2 (r:List Int×Int) (z:Opr×Int):AV:=.o (.a [.int z.1.1,.str z.1.2.1,.str z.1.2.2.1,.int z.1.2.2.2.1,.str z.1.2.2.2.2])
def adm (r:List Int×Int) (z:Opr×Int):List AV:=[.a [.vw kL r.1,.int z.2]]
def uc:Con where
 A:=[.b 0]
 B:=[.a [.vw kL,.int]]
 pre:=fun x b=>sj b
 α:=fun _ _=>Opr×Int
 φ:=fun x b z=>abb b z
 r:=fun x b z=>aa2 b z
 o:=fun x b z=>adm b z
 nf:=0
set_option maxRecDepth 100000 in
theorem PL:Has Tryz.prog 43 uc:=by
 refine Has.ofE (fun _=>true) (fun _=>false) (fun _=>false) (l:=[(16,bb),(70,j0),(19,cT),(71,mm)]) ⟨dh,ab1,pn,aec,trivial⟩ (fn:=Tryz.f43) Tryz.func43 rfl (by decide) (aZ rfl) ?_
 rintro _ ⟨(rb:List Int),(rp:Int)⟩ (hp:sj (rb,rp))
 show vc _ _ _ _ (entry [.s (.bp 0 0)] [.a [.vw kL rb,.int rp]]) _
 have hr:FD (rb,rp) 980000:=hp
 have hp0:0≤rp:=hr.p0
 have hp1:rp≤980000:=hr.p1
 refine⟨[.b 1004],[.s 4,.b 1004],rfl,aa,[.s 0],[.s 5],rfl,[.s 5,.b 0],[.s 6,.b 0],rfl,⟨⟨aa,aa,aa⟩,?_,?_⟩,?_,fun x1 w2=>⟨[.s 4,.s 6],[.s 7],rfl,⟨?_,?_⟩,[.s 7,.b 1004],[.s 8],rfl,?_,[.s 0],[.s 9],rfl,[.s 9,.b 0],[.s 10,.b 0],rfl,⟨⟨aa,aa⟩,?_⟩,?_,fun x3 w4=>⟨[.s 8,.s 10],[.s 11],rfl,[.b 1003],[.s 3,.b 1003],rfl,[.s 3,.s 11,.b 1003],[.b 1003],rfl,fun w5=>⟨aa,⟨⟨aa,aa,aa⟩,?_,?_⟩,fun x6 w7=>⟨⟨?_,?_⟩,?_,⟨⟨aa,aa,aa⟩,?_,?_,?_⟩,fun x8 w9=>⟨⟨⟨aa,aa,aa⟩,?_,?_⟩,fun x10 kk=>⟨fun dI=>⟨aa,⟨⟨aa,aa,aa⟩,?_,?_⟩,fun r4 gI=>⟨⟨?_,?_⟩,?_,?_⟩⟩,fun pe=>⟨fun kj=>⟨aa,⟨⟨aa,aa,aa⟩,?_,?_⟩,fun x17 qX=>⟨⟨?_,?_⟩,?_,?_⟩⟩,fun oB=>⟨fun uw=>⟨⟨⟨aa,aa,aa⟩,?_,?_⟩,fun x21 zl=>⟨⟨?_,?_⟩,⟨⟨aa,aa,aa⟩,?_,?_,?_⟩,fun x23 rG=>?_⟩⟩,fun w25=>⟨fun E1=>⟨⟨⟨aa,aa⟩,?_⟩,fun x27 w28=>?_⟩,fun w29=>?_⟩⟩⟩⟩⟩⟩⟩,fun w30=>⟨fun w31=>⟨aa,⟨⟨aa,aa,aa⟩,?_,?_⟩,fun x32 w33=>⟨⟨?_,?_⟩,?_,⟨⟨aa,aa,aa⟩,?_,?_⟩,fun x34 w35=>⟨fun w36=>⟨aa,⟨⟨aa,aa,aa⟩,?_,?_⟩,fun x37 w38=>⟨⟨?_,?_⟩,?_,?_⟩⟩,fun w39=>⟨fun w40=>⟨aa,⟨⟨aa,aa,aa⟩,?_,?_⟩,fun x41 w42=>⟨⟨?_,?_⟩,?_,?_⟩⟩,fun w43=>⟨fun w44=>⟨⟨⟨aa,aa,aa⟩,?_,?_⟩,fun x45 w46=>⟨⟨?_,?_⟩,⟨⟨aa,aa,aa⟩,?_,?_,?_⟩,fun x47 w48=>?_⟩⟩,fun w49=>⟨fun w50=>⟨⟨⟨aa,aa⟩,?_⟩,fun x51 w52=>?_⟩,fun w53=>?_⟩⟩⟩⟩⟩⟩,fun w54=>⟨fun w55=>⟨fun w56=>⟨⟨⟨aa,aa⟩,?_⟩,fun x57 w58=>⟨⟨⟨aa,aa,aa⟩,?_,?_⟩,fun x59 w60=>⟨fun w61=>⟨aa,⟨⟨aa,aa,aa⟩,?_,?_⟩,fun x62 w63=>⟨⟨?_,?_⟩,?_,?_⟩⟩,fun w64=>⟨fun w65=>⟨aa,⟨⟨aa,aa,aa⟩,?_,?_⟩,fun x66 w67=>⟨⟨?_,?_⟩,?_,?_⟩⟩,fun w68=>⟨fun w69=>⟨⟨⟨aa,aa,aa⟩,?_,?_⟩,fun x70 w71=>⟨⟨?_,?_⟩,⟨⟨aa,aa,aa⟩,?_,?_,?_⟩,fun x72 w73=>?_⟩⟩,fun w74=>⟨fun w75=>⟨⟨⟨aa,aa⟩,?_⟩,fun x76 w77=>?_⟩,fun w78=>?_⟩⟩⟩⟩⟩⟩,fun w79=>⟨⟨⟨aa,aa,aa⟩,?_,?_⟩,fun x80 w81=>⟨fun w82=>⟨aa,⟨⟨aa,aa,aa⟩,?_,?_⟩,fun x83 w84=>⟨⟨?_,?_⟩,?_,?_⟩⟩,fun w85=>⟨fun w86=>⟨aa,⟨⟨aa,aa,aa⟩,?_,?_⟩,fun x87 w88=>⟨⟨?_,?_⟩,?_,?_⟩⟩,fun w89=>⟨fun w90=>⟨⟨⟨aa,aa,aa⟩,?_,?_⟩,fun x91 w92=>⟨⟨?_,?_⟩,⟨⟨aa,aa,aa⟩,?_,?_,?_⟩,fun x93 w94=>?_⟩⟩,fun w95=>⟨fun w96=>⟨⟨⟨aa,aa⟩,?_⟩,fun x97 w98=>?_⟩,fun w99=>?_⟩⟩⟩⟩⟩⟩,fun amp=>⟨fun akM=>⟨⟨⟨aa,aa⟩,?_⟩,fun akK amn=>⟨⟨⟨aa,aa,aa⟩,?_,?_⟩,fun akJ amm=>⟨fun aml=>⟨aa,⟨⟨aa,aa,aa⟩,?_,?_⟩,fun akI amk=>⟨⟨?_,?_⟩,?_,?_⟩⟩,fun amj=>⟨fun ami=>⟨aa,⟨⟨aa,aa,aa⟩,?_,?_⟩,fun akH amh=>⟨⟨?_,?_⟩,?_,?_⟩⟩,fun amg=>⟨fun amf=>⟨⟨⟨aa,aa,aa⟩,?_,?_⟩,fun akG ame=>⟨⟨?_,?_⟩,⟨⟨aa,aa,aa⟩,?_,?_,?_⟩,fun akF amd=>?_⟩⟩,fun amc=>⟨fun amb=>⟨⟨⟨aa,aa⟩,?_⟩,fun akE ama=>?_⟩,fun al9=>?_⟩⟩⟩⟩⟩⟩,fun al8=>⟨⟨⟨aa,aa,aa⟩,?_,?_⟩,fun akD al7=>⟨fun al6=>⟨aa,⟨⟨aa,aa,aa⟩,?_,?_⟩,fun akC al5=>⟨⟨?_,?_⟩,?_,?_⟩⟩,fun al4=>⟨fun al3=>⟨aa,⟨⟨aa,aa,aa⟩,?_,?_⟩,fun akB al2=>⟨⟨?_,?_⟩,?_,?_⟩⟩,fun al1=>⟨fun al0=>⟨⟨⟨aa,aa,aa⟩,?_,?_⟩,fun akA alZ=>⟨⟨?_,?_⟩,⟨⟨aa,aa,aa⟩,?_,?_,?_⟩,fun akz alY=>?_⟩⟩,fun alX=>⟨fun alW=>⟨⟨⟨aa,aa⟩,?_⟩,fun aky alV=>?_⟩,fun alU=>?_⟩⟩⟩⟩⟩⟩⟩⟩⟩⟩⟩
 all_goals first|refine aw ?_|refine ax ?_|exact ba|(dsimp only [bb,cn];omega)|(dsimp only [j0,vi];omega)|(dsimp only [cT,ig];omega)|(dsimp only [mm,yo];omega)|exact a8|exact hr.at hp0 (by omega)|(refine hr.at ?_ ?_<;>(dsimp only [bb,dP,j0,jo,cT,fj,mm,kR,dj] at * <;>omega))|(show _<((List.length _:Nat):Int);dsimp only [bb,dP,j0,jo,cT,fj,mm,kR,dj,List.length_cons,List.length_nil] at *;omega)|(show Int.toNat _<_;dsimp only [bb,dP,j0,jo,cT,fj,mm,kR,dj,List.length_cons,List.length_nil] at *;omega)|(dsimp only [bb,dP,j0,jo,cT,fj,mm,kR,dj] at *;omega)|exact⟨(0,rp+1),.inl rfl,rfl⟩|exact⟨(⟨#[]⟩,x1.2),ZA8 _,ZC1 _,(by show x1.2≤x1.2+2;omega)⟩|(simp only [gO,imax];dsimp only [bb,dP,j0,jo,cT,fj,mm,kR,dj] at *;omega)|(show (1:Nat)≤1000;omega)|skip
 all_goals
  first
   |refine⟨[],[],_,_,_,rfl,az,(((_:EK.Ty ag),_,_,(_:EK.Ty ag),_),_),⟨⟨?_,?_,?_⟩,?_,?_⟩,rfl,rfl,rfl⟩
   |refine⟨[],[],_,_,_,rfl,az,(((_:EK.Ty ag),_,_,_,_),_),⟨⟨?_,?_,?_⟩,?_,?_⟩,rfl,rfl,rfl⟩
  all_goals
   try cases x1
   try cases x3
   try cases x6
   try cases x8
   try cases x10
   try cases r4
   try cases x17
   try cases x21
   try cases x23
   try cases x27
   try cases x32
   try cases x34
   try cases x37
   try cases x41
   try cases x45
   try cases x47
   try cases x51
   try cases x57
   try cases x59
   try cases x62
   try cases x66
   try cases x70
   try cases x72
   try cases x76
   try cases x80
   try cases x83
   try cases x87
   try cases x91
   try cases x93
   try cases x97
   try cases akK
   try cases akJ
   try cases akI
   try cases akH
   try cases akG
   try cases akF
   try cases akE
   try cases akD
   try cases akC
   try cases akB
   try cases akA
   try cases akz
   try cases aky
  all_goals (dsimp only [bb,dP,j0,jo,cT,fj,mm,kR,dj] at *;first|omega|exact ZA8 _|(simp only [show (⟨#[117]⟩:ByteArray).size=1 from rfl,Nat.one_mul] at *;omega))
end GL
namespace GL
structure afQ (l:List Int):Prop where
 len:l.length≤2000000
 jd:∀b∈l,0≤b∧b≤255
def yn (c:List Int):Prop:=afQ c
def V8 (c:List Int) (z:List Int):Prop:=FD (z,0) 0
def VW (c:List Int) (z:List Int):AV:=.s (.bp 0 0)
def abu (c:List Int) (z:List Int):List AV:=[.a [.vw kL z,.int 0]]
def J9:Con where
 A:=[.s (.vw kL)]
 B:=[]
 pre:=fun x b=>yn x
 α:=fun _ _=>List Int
 φ:=fun x b z=>V8 x z
 r:=fun x b z=>VW x z
 o:=fun x b z=>abu x z
 nf:=1
set_option maxRecDepth 100000 in
theorem aeb:Has Tryz.prog 8 J9:=by
 refine Has.ofE (fun _=>true) (fun _=>false) (fun _=>false) (l:=[]) trivial (fn:=Tryz.f8) Tryz.func8 rfl (by decide) (aZ rfl) ?_
 rintro (c:List Int) _ (hp:yn c)
 show vc _ _ _ _ (entry [.s (.vw kL c)] []) _
 have hb:afQ c:=hp
 refine⟨fun w1=>⟨⟨?_,⟨?_,?_⟩⟩,?_⟩,fun w2=>?_⟩
 all_goals first|refine aw ?_|refine ax ?_|exact ba|exact a8|skip
 ·refine⟨[1010],[],_,_,_,rfl,ch,List.take 2000 (List.drop 0 c),⟨by rw [ZB8];omega,fun b h=>hb.jd b (ZF4 (ZE6 h)),ZC1 _,ZC1 _⟩,rfl,rfl,rfl⟩
 ·refine⟨[1010],[],_,_,_,rfl,ch,c,⟨by have:=aA (p:=(c.length:Int)>2000) w2;show c.length≤2000;omega,hb.jd,ZC1 _,ZC1 _⟩,rfl,rfl,rfl⟩
end GL
namespace GL
def lQ (r:List Int×Int) (S:ay):Prop:=FD r 970000∧S.wf
def OQ (r:List Int×Int) (S:ay) (z:Pt×Int):Prop:=r.2≤z.2∧z.2≤r.2+1020
def OF (r:List Int×Int) (S:ay) (z:Pt×Int):AV:=.o (ptA z.1)
def SC (r:List Int×Int) (S:ay) (z:Pt×Int):List AV:=[.a [.vw kL r.1,.int z.2]]
def kT:Con where
 A:=[.b 0,.a xE]
 B:=[.a [.vw kL,.int]]
 pre:=fun x b=>lQ b (x.2)
 α:=fun _ _=>Pt×Int
 φ:=fun x b z=>OQ b (x.2) z
 r:=fun x b z=>OF b (x.2) z
 o:=fun x b z=>SC b (x.2) z
 nf:=0
set_option maxRecDepth 100000 in
theorem yL:Has Tryz.prog 21 kT:=by
 refine Has.ofE (fun _=>true) (fun _=>false) (fun _=>false) (l:=[(16,bb),(52,jE),(53,o9)]) ⟨dh,IQ,FV,trivial⟩ (fn:=Tryz.f21) Tryz.func21 rfl (by decide) (aZ rfl) ?_
 rintro⟨_,⟨(aj:List ByteArray),(ak:List Int),(an:List Int),(ao:Int),(ah:List Pt),(aq:Int),(ai:List Pt),(ar:Bool)⟩⟩ ⟨(rb:List Int),(rp:Int)⟩ (hp:lQ (rb,rp) (aj,ak,an,ao,ah,aq,ai,ar))
 show vc _ _ _ _ (entry [.s (.bp 0 0),.a [.vz ab aj,.vz ag ak,.vz ag an,.int ao,.vz ae ah,.int aq,.vz ae ai,.q ar]] [.a [.vw kL rb,.int rp]]) _
 obtain⟨hr,oS⟩:=hp
 have hr:FD (rb,rp) 970000:=hr
 have oS:ay.wf (aj,ak,an,ao,ah,aq,ai,ar):=oS
 have hp0:0≤rp:=hr.p0
 have hp1:rp≤970000:=hr.p1
 have hl:aj.length=64∧ak.length=64∧an.length=64:=oS.n
 refine⟨⟨⟨aa,aa,aa⟩,?_,?_⟩,fun x1 w2=>⟨fun w3=>⟨⟨⟨aa,aa⟩,?_⟩,fun x4 w5=>?_⟩,fun w6=>⟨⟨⟨aa,aa,aa⟩,?_,?_⟩,fun x7 w8=>?_⟩⟩⟩
 all_goals first|refine aw ?_|refine ax ?_|exact ba|(dsimp only [bb,cn];omega)|(dsimp only [jE,pZ];omega)|(dsimp only [o9,mS];omega)|exact a8|exact hr.at hp0 (by omega)|(have e:x1.2=rp+1:=w2.2;exact hr.at (by omega) (by omega))|skip
 ·have e1:x1.2=rp+1:=w2.2
  have e2:x1.2≤x4.2∧x4.2≤x1.2+1010:=w5
  refine⟨[],[],_,_,_,rfl,ch,((_,_,_,_,_),x4.2),⟨by show rp≤x4.2;omega,by show x4.2≤rp+1020;omega⟩,rfl,rfl,rfl⟩
 ·have e1:x1.2=rp+1:=w2.2
  have f7:=pk (n:=64) (by decide) w8
  obtain⟨f0,p7⟩:=x7
  have e7:p7=x1.2+1:=w8.2
  have hn0:((aj.length:Nat):Int)≠0:=by rw [hl.1];decide
  have hnp:(0:Int)<(aj.length:Int):=by rw [hl.1];decide
  have dk:∀k,(nth ab aj k).size≤1000000:=fun k=>FO (ek:=ab) (P:=fun x:ByteArray=>x.size≤1000000) (ZA8 _) oS.sz k
  refine cO (l:=[(16,bb),(52,jE),(53,o9)]) (ex:=fun _=>true) (wr:=fun _=>false) (pt:=fun _=>false) ⟨dh,IQ,FV,aa⟩ [.s 0,.s 3,.b 1003,.s 4,.b 1004,.s 5,.b 0] (fun i:Nat=>[(.s 6,.int i)]) (fun i=>i≤64) (fun i=>64-i) 0 [] (ZA8 _) dN ?_
  rintro i (hi:i≤64)
  have cr:decide ((i:Int)<(aj.length:Int))=true→i<64:=fun h=>by have:=aE h;omega
  refine⟨fun w1=>⟨⟨?_,?_⟩,⟨?_,?_⟩,⟨?_,?_⟩,aa,fun w2=>⟨aa,fun w3=>⟨fun w4=>⟨[.s 7],[.s 50],rfl,[.s 3],[.s 51],rfl,[.s 51],[.s 52],rfl,[.s 52,.b 1003],[.s 53],rfl,[.s 7],[.s 54],rfl,[.s 53,.s 54],[.s 55],rfl,⟨?_,?_⟩,[.s 55],[.s 56],rfl,[.s 56],[.s 57],rfl,[.s 3],[.s 58],rfl,[.s 58,.b 1003],[.s 59],rfl,[.s 7],[.s 60],rfl,[.s 59,.s 60],[.s 61],rfl,⟨?_,?_⟩,[.s 61],[.s 62],rfl,[.s 50,.s 57,.s 62],[.s 63],rfl,⟨⟨aa,aa,aa,aa,aa⟩,?_⟩,?_,fun x5 w6=>⟨[.s 63],[.s 49],rfl,[.s 49],[.s 64],rfl,[.s 49],[.s 65],rfl,[.b 1008],[.s 8,.b 1008],rfl,[.s 8,.s 64,.b 1008],[.b 1008],rfl,[.s 65],[.s 9],rfl,⟨⟨aa,aa,aa⟩,?_,?_⟩,fun x7 w8=>⟨fun w9=>⟨⟨⟨aa,aa,aa⟩,?_,?_⟩,fun x10 kk=>⟨⟨?_,?_⟩,?_⟩⟩,fun dI=>?_⟩⟩⟩,fun iJ=>⟨⟨?_,?_⟩,?_⟩⟩,fun gI=>⟨⟨?_,?_⟩,?_⟩⟩,fun pe=>⟨⟨?_,?_⟩,?_⟩⟩,fun kj=>?_⟩
  all_goals first|refine aw ?_|refine ax ?_|exact ba|(dsimp only [bb,cn];omega)|(dsimp only [jE,pZ];omega)|(dsimp only [o9,mS];omega)|exact a8|exact Int.emod_nonneg _ hn0|exact Int.emod_lt_of_pos _ hnp|exact ZE1 (Int.ofNat_le.2 (dk _)) (by decide)|exact aE w4|(have e8:x7.2=p7+1:=w8.2;exact hr.at (by omega) (by omega))|exact hr.at (show 0≤p7 by omega) (by omega)|(simp only [gO];have h:=pk (n:=9) (by decide) kk;omega)|(simp only [imax];have h:=pk (n:=9) (by decide) kk;omega)|skip
  ·have e8:x7.2=p7+1:=w8.2
   have e10:x10.2=x7.2+1:=kk.2
   refine⟨[],[],_,_,_,rfl,ch,(((gx ((f0+(i:Int)) % (aj.length:Int)) (max (1:Int) (nth ag an ((f0+(i:Int)) % (aj.length:Int)).toNat)) 0 (nth ab aj ((f0+(i:Int)) % (aj.length:Int)).toNat)).1.1,1+x10.1,(gx ((f0+(i:Int)) % (aj.length:Int)) (max (1:Int) (nth ag an ((f0+(i:Int)) % (aj.length:Int)).toNat)) 0 (nth ab aj ((f0+(i:Int)) % (aj.length:Int)).toNat)).1.2.2.1,(gx ((f0+(i:Int)) % (aj.length:Int)) (max (1:Int) (nth ag an ((f0+(i:Int)) % (aj.length:Int)).toNat)) 0 (nth ab aj ((f0+(i:Int)) % (aj.length:Int)).toNat)).1.2.2.2.1,(gx ((f0+(i:Int)) % (aj.length:Int)) (max (1:Int) (nth ag an ((f0+(i:Int)) % (aj.length:Int)).toNat)) 0 (nth ab aj ((f0+(i:Int)) % (aj.length:Int)).toNat)).1.2.2.2.2),x10.2),⟨by show rp≤x10.2;omega,by show x10.2≤rp+1020;omega⟩,rfl,rfl,rfl⟩
  ·have e8:x7.2=p7+1:=w8.2
   refine⟨[],[],_,_,_,rfl,ch,((gx ((f0+(i:Int)) % (aj.length:Int)) (max (1:Int) (nth ag an ((f0+(i:Int)) % (aj.length:Int)).toNat)) 0 (nth ab aj ((f0+(i:Int)) % (aj.length:Int)).toNat)).1,x7.2),⟨by show rp≤x7.2;omega,by show x7.2≤rp+1020;omega⟩,rfl,rfl,rfl⟩
  ·refine⟨(i+1),[],?_,?_,?_⟩
   rotate_right
   ·exact bX
   ·exact cr w1
   ·show 64-(i+1)<64-i;have:=cr w1;omega
  ·refine⟨(i+1),[],?_,?_,?_⟩
   rotate_right
   ·exact bX
   ·exact cr w1
   ·show 64-(i+1)<64-i;have:=cr w1;omega
  ·refine⟨(i+1),[],?_,?_,?_⟩
   rotate_right
   ·exact bX
   ·exact cr w1
   ·show 64-(i+1)<64-i;have:=cr w1;omega
  ·refine⟨[],[],_,_,_,rfl,ch,((_,_,_,_,_),p7),⟨by show rp≤p7;omega,by show p7≤rp+1020;omega⟩,rfl,rfl,rfl⟩
end GL
end Go.Proofs.YtbfgjadbfjkcdaaGreatDoor
