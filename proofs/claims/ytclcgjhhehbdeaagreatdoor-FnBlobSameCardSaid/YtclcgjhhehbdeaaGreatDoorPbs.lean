/- A drawn law returns true for every code (its row lists package variables, tied by the card): part 45. -/
import Derived.Test.YtclcgjhhehbdeaaGreatDoorPay
import Derived.Test.YtclcgjhhehbdeaaGreatDoorPbb
import Derived.Test.YtclcgjhhehbdeaaGreatDoorPbc
import Derived.Test.YtclcgjhhehbdeaaGreatDoorPbd
import Derived.Test.YtclcgjhhehbdeaaGreatDoorPbg
import Derived.Test.YtclcgjhhehbdeaaGreatDoorPbi
import Derived.Test.YtclcgjhhehbdeaaGreatDoorPbl
import Derived.Test.YtclcgjhhehbdeaaGreatDoorPbm
import Derived.Test.YtclcgjhhehbdeaaGreatDoorPbr
set_option maxHeartbeats 20000000
set_option maxRecDepth 100000
set_option linter.all false
namespace Go.Proofs.YtclcgjhhehbdeaaGreatDoor
namespace GL
noncomputable section
section
variable {s:ay}{i:Nat}
theorem ako (hi:i<64) (h:decide (nth ag s.last i>s.cg)=true):iG s=false:=my fun k=>absurd (k.P3 i hi) (Int.not_le.2 (aJ h))
theorem ag7 {p:Pt}(hp:p∈s.gone) (h:(!(aZ p))=true∨au p=true∨decide (p.2.1>s.cg-1)=true):iG s=false:=my fun k=>by
 obtain⟨h1,h2,h3⟩:=k.gone p hp
 rcases h with h |h |h
 ·rw [h1] at h;cases h
 ·rw [h2] at h;cases h
 ·have:=aJ h;omega
theorem ag8 {p:Pt}(hp:p∈s.dead) (h:(!(aZ p))=true∨au p=true∨decide (p.2.1>s.bZ)=true):iG s=false:=my fun k=>by
 obtain⟨h1,h2,h3⟩:=k.dead p hp
 rcases h with h |h |h
 ·rw [h1] at h;cases h
 ·rw [h2] at h;cases h
 ·have:=aJ h;omega
theorem aiw {n r:Nat}(hr:r<64) (h:¬(bn ((s.gone++s.dead).take n) r:Int)≤qE s r):iG s=false:=my fun k=>h (by
 have h1:=k.bn r hr
 have h2:=PN (List.take_sublist n (s.gone++s.dead)) r
 rw [bI] at h2
 omega)
end
theorem acv {rf la:List Int}(h:ry (rf,la)=true) {r:Nat}(hr:r<64):(0:Int)≤nth ag rf r:=by
 cases h1:decide ((rf.length:Int)≠64) with
 |true=>rw [NV (p:=(rf,la)) h1] at h;cases h
 |false=>
  cases h2:decide ((la.length:Int)≠64) with
  |true=>rw [NU (p:=(rf,la)) h2] at h;cases h
  |false=>
   rw [UT (p:=(rf,la)) h1 h2] at h
   have:=aez h hr
   exact (aJ this).1.1
def gdP (s:ay) (j:Nat):Pt:=bif Nat.blt j s.gone.length then nth ae s.gone j else nth ae s.dead (j-s.gone.length)
def gdT (s:ay) (j:Nat):Int:=bif Nat.blt j s.gone.length then s.cg-1 else s.bZ
def gdB (s:ay) (j:Nat):Bool:=aZ (gdP s j)&&(!(au (gdP s j))&& !(decide ((gdP s j).2.1>gdT s j)))
theorem aem {s:ay}{j:Nat}(h:gdB s j=true):aZ (gdP s j)=true∧au (gdP s j)=false∧(gdP s j).2.1≤gdT s j:=by
 unfold gdB at h
 simpa only [ZA9,ZF8,decide_eq_false_iff_not,ZG8] using h
theorem alg {s:ay}{i:Nat}(hi:i<s.gone.length) (h:(!(aZ (nth ae s.gone i)))=false) (h2:au (nth ae s.gone i)=false) (h3:decide ((nth ae s.gone i).2.1>s.cg-1)=false):gdB s i=true:=by
 have hb:Nat.blt i s.gone.length=true:=Nat.ble_eq_true_of_le hi
 unfold gdB gdP gdT;rw [hb];show (aZ (nth ae s.gone i)&&(!(au (nth ae s.gone i))&& !(decide ((nth ae s.gone i).2.1>s.cg-1))))=true
 rw [cL h,h2,h3];rfl
theorem alf {s:ay}{i k:Nat}(hi:¬i<s.gone.length) (hk:k=i-s.gone.length) (h:(!(aZ (nth ae s.dead k)))=false) (h2:au (nth ae s.dead k)=false) (h3:decide ((nth ae s.dead k).2.1>s.bZ)=false):gdB s i=true:=by
 have hb:Nat.blt i s.gone.length=false:=by
  cases hbb:Nat.blt i s.gone.length with
  |false=>rfl
  |true=>exact absurd (zqNlb hbb) hi
 subst hk
 unfold gdB gdP gdT;rw [hb];show (aZ (nth ae s.dead (i-s.gone.length))&&(!(au (nth ae s.dead (i-s.gone.length)))&& !(decide ((nth ae s.dead (i-s.gone.length)).2.1>s.bZ))))=true
 rw [cL h,h2,h3];rfl
theorem zY {l:List Pt}{i:Nat}{z:List Int}{q:Pt}(hz:z.length=64) (hc:∀r,(nth ag z r:Int)=(bn (l.take i) r:Int)) (hi:i<l.length) (hq:nth ae l i=q) (ho:aZ q=true) (hh:au q=false):∀r,(nth ag (z.set q.1.toNat (nth ag z q.1.toNat+1:Int)) r:Int)=(bn (l.take (i+1)) r:Int):=fun r=>by
 rw [NP hi,hq,bI]
 have hk:q.1.toNat<z.length:=by rw [hz];exact sk ho
 by_cases e:q.1.toNat=r
 ·subst e
  rw [nq (ek:=ag) hk,hc,rI hh];rfl
 ·rw [iv (ek:=ag) e,hc,yP e];rfl
theorem aeZ {l:List Pt}{i:Nat}{q:Pt}{f:Nat→Int}(hi:i<l.length) (hq:nth ae l i=q) (h:∀r,r<64→(bn (l.take i) r:Int)≤f r) (h2:(bn (l.take (i+1)) q.1.toNat:Int)≤f q.1.toNat):∀r,r<64→(bn (l.take (i+1)) r:Int)≤f r:=fun r hr=>by
 by_cases e:q.1.toNat=r
 ·rw [←e];exact h2
 ·rw [NP hi,hq,bI,yP e];exact h r hr
def qZ (S:ay):Prop:=S.gone.length≤1000000∧S.dead.length≤1000000
def bD (S:ay):AV:=.s (.q (iG S))
def WB (S:ay):List AV:=[]
def sI:cn where
 A:=[.a xq]
 B:=[]
 pre:=fun x b=>qZ x
 r:=fun x b _=>bD x
 o:=fun x b _=>WB x
theorem MC:Has Tryz.prog 22 sI:=by
 refine Has.fl zT zF zF (l:=[(52,mY),(40,gZ),(53,cX),(54,cx)]) ⟨CM,iy,iz,cz,aa⟩ Tryz.func22 ?_
 rintro⟨(aj:List ByteArray),(ak:List Int),(an:List Int),(ao:Int),(ah:List Pt),(aq:Int),(ai:List Pt),(ar:Bool)⟩ _ (hp:qZ (aj,ak,an,ao,ah,aq,ai,ar))
 show vc _ _ _ _ (entry [.a [.vz ab aj,.vz ag ak,.vz ag an,.int ao,.vz ae ah,.int aq,.vz ae ai,.q ar]] []) _
 let g':=(aj,ak,an,ao,ah,aq,ai,ar)
 obtain⟨(hg:ah.length≤1000000),(hd:ai.length≤1000000)⟩:=hp
 have hla:(!(ry (ak,an)))=false→ak.length=64∧an.length=64:=fun h=>QK (cL h)
 have hxt:(!(ig ao 1 900))=false→1≤ao∧ao≤900:=fun h=>cC.1 (cL h)
 have hxk:(!(ig aq 0 (ao-1)))=false→0≤aq∧aq≤ao-1:=fun h=>cC.1 (cL h)
 refine⟨aa,fun w1=>?_,fun w2=>⟨⟨⟨tv3,aa⟩,aa⟩,fun x3 w4=>⟨aa,fun w5=>?_,fun w6=>⟨⟨tv4,aa⟩,fun x7 w8=>⟨aa,fun w9=>?_,fun dx=>⟨⟨?_,?_⟩,⟨tv4,aa⟩,fun ku dI=>⟨fun iS=>?_,fun gN=>?_⟩⟩⟩⟩⟩⟩⟩
 all_goals first|refine aw ?_|refine ax ?_|exact a8|(dsimp only [mY,nK,cX,dY];omega)|exact a7|(show (-9223372036854775808:Int)≤ao-1;have:=hxt dx;omega)|(show ao-1≤(9223372036854775807:Int);have:=hxt dx;omega)|skip
 ·refine⟨[],[],_,_,_,rfl,az,(),aa,?_,?_,rfl⟩
  ·(show _=bD g');unfold bD;first|(rw [aiA (s:=g') w1];rfl)|rfl
  ·rfl
 ·refine⟨[],[],_,_,_,rfl,az,(),aa,?_,?_,rfl⟩
  ·(show _=bD g');unfold bD;first|(rw [aiz (s:=g') w5];rfl)|rfl
  ·rfl
 ·refine⟨[],[],_,_,_,rfl,az,(),aa,?_,?_,rfl⟩
  ·(show _=bD g');unfold bD;first|(rw [aiy (s:=g') w9];rfl)|rfl
  ·rfl
 ·refine⟨[],[],_,_,_,rfl,az,(),aa,?_,?_,rfl⟩
  ·(show _=bD g');unfold bD;first|(rw [aix (s:=g') iS];rfl)|rfl
  ·rfl
 have hlen:aj.length=64:=by have:=aA w2;omega
 have hrl:=hla w6
 have hsp:ry (ak,an)=true:=cL w6
 have htx:=hxt dx
 have hkp:=hxk gN
 have hz0:∀r,nth ag (List.replicate (Int.toNat 64) (EK.zero ag)) r=(0:Int):=fun r=>uJ _ r
 refine cN (l:=[(52,mY),(40,gZ),(53,cX),(54,cx)]) (ex:=zT) (wr:=zF) (pt:=zF) ⟨CM,iy,iz,cz,trivial⟩ [.s 1,.b 1001] (fun i:Nat=>[(.s 3,.int i)]) (fun i=>i≤64∧∀j,j<i→A7 g' j=true∧nth ag an j≤ao) (fun i=>64-i) 0 [] ⟨ZA7 _,fun j hj=>absurd hj (by omega)⟩ dL ?_
 rintro i ⟨(hi:i≤64),hj⟩
 have cm:decide ((i:Int)<64)=true→i<64:=fun h=>by have:=aJ h;omega
 refine⟨fun w1=>⟨Sq1,Sq37,rfl,[.s 37,.b 1001],Sq38,rfl,Sq3,Sq39,rfl,[.s 38,.s 39],Sq40,rfl,⟨?_,?_⟩,Sq40,Sq41,rfl,Sq41,Sq42,rfl,Sq42,Sq43,rfl,Sq43,Sq44,rfl,aa,fun w2=>⟨Sq44,Sq45,rfl,Sq44,Sq46,rfl,Sq44,Sq47,rfl,Sq44,Sq48,rfl,Sq44,Sq49,rfl,Sq44,Sq50,rfl,Sq44,Sq51,rfl,Sq44,Sq52,rfl,Sq44,Sq53,rfl,Sq44,Sq54,rfl,Sq44,Sq55,rfl,Sq44,Sq56,rfl,Sq44,Sq57,rfl,Sq44,Sq58,rfl,[.s 44,.s 58],Sq59,rfl,Sq59,Sq60,rfl,Sq60,Sq61,rfl,Sq60,Sq62,rfl,Sq60,Sq63,rfl,Sq60,Sq64,rfl,Sq60,Sq65,rfl,Sq60,Sq66,rfl,Sq60,Sq67,rfl,Sq60,Sq68,rfl,Sq60,Sq69,rfl,[.s 60,.s 69],Sq70,rfl,?_⟩,fun w3=>⟨[.s 44,.s 1],Sq45,rfl,[.s 44,.s 45,.b 1001],Sq46,rfl,[.s 44,.s 3],Sq47,rfl,[.s 44,.s 46,.s 47],Sq48,rfl,⟨?_,?_⟩,[.s 44,.s 48],Sq49,rfl,[.s 44,.s 49],Sq50,rfl,[.s 44,.s 1],Sq51,rfl,[.s 44,.s 51],Sq52,rfl,[.s 44,.s 52,.b 1001],Sq53,rfl,[.s 44,.s 3],Sq54,rfl,[.s 44,.s 53,.s 54],Sq55,rfl,⟨?_,?_⟩,[.s 44,.s 55],Sq56,rfl,[.s 44,.s 56],Sq57,rfl,[.s 44,.s 50,.s 57],Sq58,rfl,[.s 44,.s 58],Sq59,rfl,Sq59,Sq60,rfl,aa,fun w4=>⟨Sq60,Sq61,rfl,Sq60,Sq62,rfl,Sq60,Sq63,rfl,Sq60,Sq64,rfl,Sq60,Sq65,rfl,Sq60,Sq66,rfl,Sq60,Sq67,rfl,Sq60,Sq68,rfl,Sq60,Sq69,rfl,[.s 60,.s 69],Sq70,rfl,?_⟩,fun w5=>⟨[.s 60,.s 1],Sq61,rfl,[.s 60,.s 61],Sq62,rfl,[.s 60,.s 62,.b 1001],Sq63,rfl,[.s 60,.s 3],Sq64,rfl,[.s 60,.s 63,.s 64],Sq65,rfl,⟨?_,?_⟩,[.s 60,.s 65],Sq66,rfl,[.s 60,.s 1],Sq67,rfl,[.s 60,.s 67,.b 1001],Sq68,rfl,[.s 60,.s 66,.s 68],Sq69,rfl,[.s 60,.s 69],Sq70,rfl,fun w6=>?_,fun w7=>⟨⟨?_,?_⟩,?_⟩⟩⟩⟩,fun w8=>⟨⟨?_,?_,?_⟩,?_⟩⟩
 all_goals first|refine aw ?_|refine ax ?_|exact a8|(dsimp only [mY,nK,cX,dY];omega)|exact a7|(show (i:Int)<(ak.length:Int);rw [hrl.1];exact Int.ofNat_lt.2 (cm w1))|(show (i:Int)<(aj.length:Int);rw [hlen];exact Int.ofNat_lt.2 (cm w1))|(show (i:Int)<(an.length:Int);rw [hrl.2];exact Int.ofNat_lt.2 (cm w1))|skip
 ·refine⟨[],[],_,_,_,rfl,az,(),aa,?_,?_,rfl⟩
  ·(show _=bD g');unfold bD;first|(rw [afs (s:=g') (cm w1) (acy (s:=g') w2)];rfl)|rfl
  ·rfl
 ·refine⟨[],[],_,_,_,rfl,az,(),aa,?_,?_,rfl⟩
  ·(show _=bD g');unfold bD;first|(rw [afs (s:=g') (cm w1) (acx (s:=g') w4)];rfl)|rfl
  ·rfl
 ·refine⟨[],[],_,_,_,rfl,az,(),aa,?_,?_,rfl⟩
  ·(show _=bD g');unfold bD;first|(rw [ako (s:=g') (cm w1) w6];rfl)|rfl
  ·rfl
 ·refine⟨(i+1),[],?_,?_,?_⟩
  rotate_right
  ·exact bV
  ·refine⟨cm w1,fun j yF=>?_⟩
   by_cases e:j=i
   ·rw [e];exact⟨acw (s:=g') w3 w5,ZG8.1 (aA w7)⟩
   ·exact hj j (by omega)
  ·show 64-(i+1)<64-i;have:=cm w1;omega
 have abK:∀j,j<64→A7 g' j=true∧nth ag an j≤ao:=fun j yF=>hj j (by have:=aA w8;omega)
 clear hj cm hi
 refine cN (l:=[(52,mY),(40,gZ),(53,cX),(54,cx)]) (ex:=zT) (wr:=zF) (pt:=zF) ⟨CM,iy,iz,cz,trivial⟩ [.s 1,.b 1001,.s 4] (fun y:Nat×List Int=>[(.s 5,.int y.1),(.b 1071,.rs ag y.2)]) (fun y=>y.1≤ah.length+ai.length∧y.2.length=64∧(∀r,(nth ag y.2 r:Int)=(bn ((ah++ai).take y.1) r:Int))∧(∀r,r<64→(bn ((ah++ai).take y.1) r:Int)≤qE g' r)∧∀j,j<y.1→gdB g' j=true) (fun y=>ah.length+ai.length-y.1) (0,List.replicate (Int.toNat 64) (EK.zero ag)) [] ⟨ZA7 _,rfl,hz0,fun r hr=>(acv hsp hr),fun j hj=>absurd hj (by omega)⟩ dL ?_
 rintro⟨i,z⟩ ⟨(hi:i≤ah.length+ai.length),(hz:z.length=64),(hc:∀r,(nth ag z r:Int)=(bn ((ah++ai).take i) r:Int)),hle,hgd⟩
 have abN:decide ((i:Int)<(ah.length:Int)+(ai.length:Int))=true→i<(ah++ai).length:=fun h=>by rw [ZA0];have:=aJ h;omega
 have bU:decide ((i:Int)<(ah.length:Int)+(ai.length:Int))=true→i+1≤ah.length+ai.length:=fun h=>by have:=aJ h;omega
 have ad8:decide ((i:Int)<(ah.length:Int))=true→i<ah.length:=fun h=>by have:=aJ h;omega
 have hqG:decide ((i:Int)<(ah.length:Int))=true→nth ae (ah++ai) i=nth ae ah i:=fun h=>by
  unfold nth;rw [ZC2 (ad8 h)]
 have afV:decide ((i:Int)<(ah.length:Int))=false→((i:Int)-(ah.length:Int)).toNat=i-ah.length:=fun h=>by have:=aA h;omega
 have hqD:decide ((i:Int)<(ah.length:Int))=false→nth ae (ah++ai) i=nth ae ai ((i:Int)-(ah.length:Int)).toNat:=fun h=>by
  rw [afV h];have:=aA h
  exact Y7 (l:=ah) (m:=ai) (by omega)
 have hmD:decide ((i:Int)<(ah.length:Int))=false→decide ((i:Int)<(ah.length:Int)+(ai.length:Int))=true→nth ae ai ((i:Int)-(ah.length:Int)).toNat∈ai:=fun h h2=>by
  have:=aA h;have:=aJ h2
  exact bR (ek:=ae) (by omega)
 have hz1:∀k,(-9223372036854775808:Int)≤(nth ag z k+1:Int):=fun k=>by rw [hc k];omega
 have hz2:∀k,(nth ag z k+1:Int)≤(9223372036854775807:Int):=fun k=>by
  rw [hc k]
  have:bn ((ah++ai).take i) k≤((ah++ai).take i).length:=List.countP_le_length
  rw [ZC0,ZA0] at this
  have h3:bn ((ah++ai).take i) k≤2000000:=by omega
  exact ZE0 (Int.add_le_add_right (Int.ofNat_le.2 h3) 1) (by decide)
 have h64:(List.replicate (Int.toNat 64) (EK.zero ag)).length=64:=rfl
 refine⟨⟨?_,?_⟩,fun w1=>⟨⟨?_,?_⟩,fun w2=>⟨⟨?_,?_⟩,⟨⟨tv6,aa⟩,aa⟩,fun x3 w4=>⟨aa,fun w5=>?_,fun w6=>⟨⟨⟨tv6,aa⟩,aa⟩,fun x7 w8=>⟨aa,fun w9=>?_,fun dx=>⟨fun kx=>?_,fun dI=>⟨Sq4,Sq121,rfl,Sq7,Sq122,rfl,[.s 122,.b 1007],Sq123,rfl,Sq4,Sq124,rfl,Sq7,Sq125,rfl,[.s 125,.b 1007],Sq126,rfl,[.s 124,.s 126],Sq127,rfl,⟨?_,?_⟩,[.s 127,.b 1071],Sq128,rfl,?_,Sq128,Sq129,rfl,⟨?_,?_⟩,[.s 121,.s 123],Sq130,rfl,⟨?_,?_⟩,[.s 130,.s 129,.b 1071],[.b 1071],rfl,?_,Sq4,Sq131,rfl,Sq7,Sq132,rfl,[.s 132,.b 1007],Sq133,rfl,[.s 131,.s 133],Sq134,rfl,⟨?_,?_⟩,[.s 134,.b 1071],Sq135,rfl,?_,Sq1,Sq136,rfl,Sq136,Sq137,rfl,[.s 137,.b 1001],Sq138,rfl,Sq7,Sq139,rfl,[.s 139,.b 1007],Sq140,rfl,[.s 138,.s 140],Sq141,rfl,⟨?_,?_⟩,Sq141,Sq142,rfl,[.s 135,.s 142],Sq143,rfl,fun iS=>?_,fun gN=>⟨⟨?_,?_⟩,?_⟩⟩⟩⟩⟩⟩⟩,fun qG=>⟨⟨?_,?_⟩,⟨?_,?_⟩,⟨⟨tv6,aa⟩,aa⟩,fun x16 xd=>⟨aa,fun rO=>?_,fun oH=>⟨⟨⟨tv6,aa⟩,aa⟩,fun x20 AY=>⟨aa,fun AX=>?_,fun xF=>⟨fun rN=>?_,fun w25=>⟨Sq4,Sq121,rfl,Sq7,Sq122,rfl,[.s 122,.b 1007],Sq123,rfl,Sq4,Sq124,rfl,Sq7,Sq125,rfl,[.s 125,.b 1007],Sq126,rfl,[.s 124,.s 126],Sq127,rfl,⟨?_,?_⟩,[.s 127,.b 1071],Sq128,rfl,?_,Sq128,Sq129,rfl,⟨?_,?_⟩,[.s 121,.s 123],Sq130,rfl,⟨?_,?_⟩,[.s 130,.s 129,.b 1071],[.b 1071],rfl,?_,Sq4,Sq131,rfl,Sq7,Sq132,rfl,[.s 132,.b 1007],Sq133,rfl,[.s 131,.s 133],Sq134,rfl,⟨?_,?_⟩,[.s 134,.b 1071],Sq135,rfl,?_,Sq1,Sq136,rfl,Sq136,Sq137,rfl,[.s 137,.b 1001],Sq138,rfl,Sq7,Sq139,rfl,[.s 139,.b 1007],Sq140,rfl,[.s 138,.s 140],Sq141,rfl,⟨?_,?_⟩,Sq141,Sq142,rfl,[.s 135,.s 142],Sq143,rfl,fun w26=>?_,fun w27=>⟨⟨?_,?_⟩,?_⟩⟩⟩⟩⟩⟩⟩⟩,fun w28=>?_⟩
 all_goals first|refine aw ?_|refine ax ?_|exact a8|(dsimp only [mY,nK,cX,dY];omega)|exact a7|(show (i:Int)-(ah.length:Int)<(ai.length:Int);have:=aJ w1;omega)|(show (0:Int)≤(i:Int)-(ah.length:Int);have:=aA qG;omega)|exact (nP (cL w6)).1|exact (nP (cL oH)).1|exact (nP (cL w6)).2|exact (nP (cL oH)).2|(show _<(ak.length:Int);rw [hrl.1];exact (nP (cL w6)).2)|(show _<(ak.length:Int);rw [hrl.1];exact (nP (cL oH)).2)|exact hz1 _|exact hz2 _|(show (nth ae ah i).1.toNat<z.length;rw [hz];exact sk (cL w6))|(show (nth ae ai ((i:Int)-(ah.length:Int)).toNat).1.toNat<z.length;rw [hz];exact sk (cL oH))|(show (nth ae ah i).1.toNat<(List.set _ _ _).length;rw [ZC3,hz];exact sk (cL w6))|(show (nth ae ai ((i:Int)-(ah.length:Int)).toNat).1.toNat<(List.set _ _ _).length;rw [ZC3,hz];exact sk (cL oH))|skip
 ·refine⟨[],[],_,_,_,rfl,az,(),aa,?_,?_,rfl⟩
  ·(show _=bD g');unfold bD;first|(rw [ag7 (s:=g') (bR (ek:=ae) (ad8 w2)) (.inl w5)];rfl)|rfl
  ·rfl
 ·refine⟨[],[],_,_,_,rfl,az,(),aa,?_,?_,rfl⟩
  ·(show _=bD g');unfold bD;first|(rw [ag7 (s:=g') (bR (ek:=ae) (ad8 w2)) (.inr (.inl w9))];rfl)|rfl
  ·rfl
 ·refine⟨[],[],_,_,_,rfl,az,(),aa,?_,?_,rfl⟩
  ·(show _=bD g');unfold bD;first|(rw [ag7 (s:=g') (bR (ek:=ae) (ad8 w2)) (.inr (.inr kx))];rfl)|rfl
  ·rfl
 ·have mj:=zY hz hc (abN w1) (hqG w2) (cL w6) dx
  refine⟨[],[],_,_,_,rfl,az,(),aa,?_,?_,rfl⟩
  ·(show _=bD g');unfold bD;first|(rw [aiw (s:=g') (n:=i+1) (sk (cL w6)) (fun h=>by rw [←mj] at h;exact absurd h (Int.not_le.2 (aJ iS)))];rfl)|rfl
  ·rfl
 ·have mj:=zY hz hc (abN w1) (hqG w2) (cL w6) dx
  refine⟨(i+1,z.set (nth ae ah i).1.toNat (nth ag z (nth ae ah i).1.toNat+1:Int)),[],?_,?_,?_⟩
  rotate_right
  ·exact bV
  ·refine⟨bU w1,by show (List.set _ _ _).length=64;rw [ZC3,hz],mj,?_,?_⟩
   ·exact aeZ (abN w1) (hqG w2) hle (by rw [←mj];exact ZG8.1 (aA gN))
   ·intro j yF
    by_cases e:j=i
    ·rw [e];exact alg (s:=g') (ad8 w2) w6 dx dI
    ·exact hgd j (by have:j<i+1:=yF;omega)
  ·show ah.length+ai.length-(i+1)<ah.length+ai.length-i;have:=bU w1;omega
 ·refine⟨[],[],_,_,_,rfl,az,(),aa,?_,?_,rfl⟩
  ·(show _=bD g');unfold bD;first|(rw [ag8 (s:=g') (hmD qG w1) (.inl rO)];rfl)|rfl
  ·rfl
 ·refine⟨[],[],_,_,_,rfl,az,(),aa,?_,?_,rfl⟩
  ·(show _=bD g');unfold bD;first|(rw [ag8 (s:=g') (hmD qG w1) (.inr (.inl AX))];rfl)|rfl
  ·rfl
 ·refine⟨[],[],_,_,_,rfl,az,(),aa,?_,?_,rfl⟩
  ·(show _=bD g');unfold bD;first|(rw [ag8 (s:=g') (hmD qG w1) (.inr (.inr rN))];rfl)|rfl
  ·rfl
 ·have mj:=zY hz hc (abN w1) (hqD qG) (cL oH) xF
  refine⟨[],[],_,_,_,rfl,az,(),aa,?_,?_,rfl⟩
  ·(show _=bD g');unfold bD;first|(rw [aiw (s:=g') (n:=i+1) (sk (cL oH)) (fun h=>by rw [←mj] at h;exact absurd h (Int.not_le.2 (aJ w26)))];rfl)|rfl
  ·rfl
 ·have mj:=zY hz hc (abN w1) (hqD qG) (cL oH) xF
  refine⟨(i+1,z.set (nth ae ai ((i:Int)-(ah.length:Int)).toNat).1.toNat (nth ag z (nth ae ai ((i:Int)-(ah.length:Int)).toNat).1.toNat+1:Int)),[],?_,?_,?_⟩
  rotate_right
  ·exact bV
  ·refine⟨bU w1,by show (List.set _ _ _).length=64;rw [ZC3,hz],mj,?_,?_⟩
   ·exact aeZ (abN w1) (hqD qG) hle (by rw [←mj];exact ZG8.1 (aA w27))
   ·intro j yF
    by_cases e:j=i
    ·rw [e];exact alf (s:=g') (by have:=aA qG;show¬i<ah.length;omega) (afV qG) oH xF w25
    ·exact hgd j (by have:j<i+1:=yF;omega)
  ·show ah.length+ai.length-(i+1)<ah.length+ai.length-i;have:=bU w1;omega
 ·have hE:i=ah.length+ai.length:=by have:=aA (p:=(i:Int)<(ah.length:Int)+(ai.length:Int)) w28;omega
  have e:iG g'=true:=US
   {len:=hlen,sp:=hsp,cg:=htx,bZ:=hkp,P3:=fun j yF=>(abK j yF).2,row:=fun j yF=>GJ.1 (abK j yF).1
    gone:=fun p hp=>by
     obtain⟨j,hj,rfl⟩:=List.getElem_of_mem hp
     have hj:j<ah.length:=hj
     have:=aem (hgd j (by omega))
     rw [show gdP g' j=ah[j] by unfold gdP;rw [show Nat.blt j (ay.gone g').length=true from Nat.ble_eq_true_of_le hj];unfold nth;rw [cond_true];rw [show (ay.gone g')[j]?=some ah[j] from ZB1 hj],show gdT g' j=ao-1 by unfold gdT;rw [show Nat.blt j (ay.gone g').length=true from Nat.ble_eq_true_of_le hj];rfl] at this
     exact this
    dead:=fun p hp=>by
     obtain⟨j,hj,rfl⟩:=List.getElem_of_mem hp
     have hj:j<ai.length:=hj
     have:=aem (hgd (ah.length+j) (by omega))
     have hb:Nat.blt (ah.length+j) (ay.gone g').length=false:=by
      cases hbb:Nat.blt (ah.length+j) (ay.gone g').length with
      |false=>rfl
      |true=>have:ah.length+j<ah.length:=zqNlb hbb;omega
     rw [show gdP g' (ah.length+j)=ai[j] by unfold gdP;rw [hb,cond_false];rw [show ah.length+j-(ay.gone g').length=j from Nat.add_sub_cancel_left ..];unfold nth;rw [show (ay.dead g')[j]?=some ai[j] from ZB1 hj],show gdT g' (ah.length+j)=aq by unfold gdT;rw [hb];rfl] at this
     exact this
    bn:=fun r hr=>by
     have:=hle r hr
     rw [ZD1 (by rw [ZA0];omega),bI] at this
     exact this }
  refine⟨[],[],_,_,_,rfl,az,(),aa,?_,?_,rfl⟩
  ·(show _=bD g');unfold bD;first|(rw [e];rfl)|rfl
  ·rfl
def G3 (S:ay) (t:bf):Prop:=S.gone.length≤1000000∧S.dead.length≤1000000
def pJ (S:ay) (t:bf):AV:=.s (.q (iG S&&qF S t))
def abg (S:ay) (t:bf):List AV:=[]
def ae9:cn where
 A:=[.a xq,.a [.int,.int,.int,.int,.int,.int,.int]]
 B:=[]
 pre:=fun x b=>G3 (x.1) (x.2)
 r:=fun x b _=>pJ (x.1) (x.2)
 o:=fun x b _=>abg (x.1) (x.2)
theorem aiY:Has Tryz.prog 39 ae9:=by
 refine Has.fl zT zF zF (l:=[(22,sI),(23,JQ)]) ⟨MC,adJ,aa⟩ Tryz.func39 ?_
 rintro⟨⟨(aj:List ByteArray),(ak:List Int),(an:List Int),(ao:Int),(ah:List Pt),(aq:Int),(ai:List Pt),(ar:Bool)⟩,⟨(t1:Int),(t2:Int),(t3:Int),(t4:Int),(t5:Int),(t6:Int),(t7:Int)⟩⟩ _ (hp:G3 (aj,ak,an,ao,ah,aq,ai,ar) (t1,t2,t3,t4,t5,t6,t7))
 show vc _ _ _ _ (entry [.a [.vz ab aj,.vz ag ak,.vz ag an,.int ao,.vz ae ah,.int aq,.vz ae ai,.q ar],.a [.int t1,.int t2,.int t3,.int t4,.int t5,.int t6,.int t7]] []) _
 let g':=(aj,ak,an,ao,ah,aq,ai,ar)
 let A':=(t1,t2,t3,t4,t5,t6,t7)
 obtain⟨hg,hd⟩:=hp
 refine⟨⟨⟨tv9,aa⟩,?_,?_⟩,fun x1 w2=>⟨aa,fun w3=>⟨⟨⟨tv9,tv8,aa⟩,?_⟩,fun x4 w5=>?_⟩,fun w6=>?_⟩⟩
 all_goals first|refine aw ?_|refine ax ?_|exact a8|(dsimp only [sI,qZ,JQ,zm];omega)|exact a7|exact hg|exact hd|exact (QG.1 w3).rd|skip
 ·have e:(iG g'&&qF g' A')=qF g' A':=by rw [show iG g'=true from w3];rfl
  refine⟨[],[],_,_,_,rfl,az,(),aa,?_,?_,rfl⟩
  ·(show _=pJ g' A');unfold pJ;first|(rw [e];rfl)|rfl
  ·rfl
 ·have e:(iG g'&&qF g' A')=false:=by rw [show iG g'=false from w6];rfl
  refine⟨[],[],_,_,_,rfl,az,(),aa,?_,?_,rfl⟩
  ·(show _=pJ g' A');unfold pJ;first|(rw [e];rfl)|rfl
  ·rfl
end
end GL
namespace GL
def mm:ft:=(2,1,0,0,0,0,0,0,0,0)
def px:bf:=(0,0,0,0,0,0,0)
theorem abv (b:Bool):aB (j9 b) px=cu 16:=by
 have e:bA (j9 b) px=([bM],true):=vn (f:=2) (lv:=0) (l:=[bM]) rfl
 unfold aB;rw [e];rfl
theorem wD (b:Bool):Tree (j9 b) px 0 where
 rr:=⟨rfl,by decide,⟨rfl,fun h=>by cases h⟩⟩
 m0:=ZC1 _
 m1:=by decide
 dm:=rfl
 tail:=fun i _=>by rw [abv,B9];rfl
theorem SH (b:Bool) (k:Nat):getM (j9 b) px k=⟨#[]⟩:=mS (wD b) (j:=k) (Int.natCast_nonneg k)
theorem HO (b:Bool) (r:Nat):qE (j9 b) r=0:=uJ 64 r
theorem adp (b:Bool) (E:Nat→Bool) (r:Nat):gF (j9 b) px E r=0:=by
 have h:∀k,(bif E k then 0 else bn (dy (j9 b) (nodeAt (j9 b) px k)) r)=0:=fun k=>by
  rw [jQ (SH b k)];cases E k<;>rfl
 unfold gF
 have hs:∀l:List Nat,(l.map fun k=>bif E k then 0 else bn (dy (j9 b) (nodeAt (j9 b) px k)) r).sum=0:=fun l=>by
  induction l with
  |nil=>rfl
  |cons x l ih=>rw [ZE7,List.sum_cons,ih,h x]
 exact hs _
theorem Y9 (b:Bool):FI (j9 b) px (rM E0 0) (fun r=>O0 r+bn (dy (j9 b) mm) r) where
 tree:=wD b
 nodes:=fun k _ _=>.inl (SH b k)
 acc:=
  {wf:=⟨⟨rfl,rfl,rfl⟩,fun x hx=>by rw [(ZD6.1 hx).2];exact ZA7 _⟩
   up:=fun r=>by rw [HO];decide
   cg:=⟨ZC1 _,show (1:Int)≤1000000 by decide⟩
   sl:=fun r=>by
    rw [HO,adp,show bn (dy (j9 b) mm) r=0 from l5 rfl r,show bn (di (j9 b) px) r=0 from l5 rfl r]
    exact ZC1 _
   ok:=fun p hp=>by cases hp }
theorem SG (b:Bool):(aY (j9 b) px 0 (aC mm)).2.2=true:=by cases b<;>decide+kernel
theorem acz:cy mm=true:=by decide
theorem afF (b:Bool):FS (aY (j9 b) px 0 (aC mm)).1 (aY (j9 b) px 0 (aC mm)).2.1:=by
 obtain⟨h1,h2⟩:=(Y9 b).YU (i:=0) (n:=mm) (O:=O0) (by decide) (by decide) (fun h=>⟨h,wD b⟩) (SG b)
 have e:vM (rM E0 0) 0=E0:=by
  funext k
  unfold vM rM
  cases decide (k=0)<;>rfl
 rw [e] at h1
 refine⟨h1,?_⟩
 have h3:bz (getM (aY (j9 b) px 0 (aC mm)).1 (aY (j9 b) px 0 (aC mm)).2.1 0)=(mm,true):=(congrArg bz h2.at_).trans (tu acz)
 show (bz (getM (aY (j9 b) px 0 (aC mm)).1 (aY (j9 b) px 0 (aC mm)).2.1 0)).1.1=2
 rw [h3];rfl
end GL
namespace GL
theorem afE (b:Bool):iG (j9 b)=true:=US
 {len:=rfl
  sp:=show ry (List.replicate 64 0,List.replicate 64 0)=true by decide+kernel
  cg:=⟨ZC1 _,show (1:Int)≤900 by decide⟩
  bZ:=⟨ZC1 _,ZC1 _⟩
  P3:=fun i _=>by rw [show nth ag (j9 b).last i=(0:Int) from uJ 64 i];exact (show (0:Int)≤1 by decide)
  row:=fun i _=>by
   have e:nth ab (j9 b).rows i=⟨#[]⟩:=by
    by_cases h:i<(j9 b).rows.length
    ·exact (ZD6.1 (bR (ek:=ab) h)).2
    ·exact tn (ek:=ab) (by omega)
   rw [e,show nth ag (j9 b).refs i=(0:Int) from uJ 64 i]
   exact⟨ZA7 _,rfl⟩
  gone:=fun p hp=>by cases hp
  dead:=fun p hp=>by cases hp
  bn:=fun r _=>by rw [HO];exact ZC1 _ }
structure ajY (s:ay):Prop where
 ex:∃b,s=j9 b
def lN (S:ay):Prop:=ajY S
def OB (S:ay) (z:ay×bf):Prop:=FS z.1 z.2∧z.1.wg 10
def N0 (S:ay) (z:ay×bf):AV:=.t [.a (kT 0 1 2 3 4 z.1),trA z.2,.s (.q true)]
def R3 (S:ay) (z:ay×bf):List AV:=[.rs ab z.1.rows,.rs ag z.1.refs,.rs ag z.1.last,.rs ae z.1.gone,.rs ae z.1.dead]
def kR:cn where
 A:=[.a xq]
 B:=[]
 pre:=fun x b=>lN x
 α:=fun _ _=>ay×bf
 φ:=fun x b z=>OB x z
 r:=fun x b z=>N0 x z
 o:=fun x b z=>R3 x z
 nf:=5
theorem yD:Has Tryz.prog 78 kR:=by
 refine Has.fl zT zF zF (l:=[(22,sI),(25,jB),(115,vP)]) ⟨MC,IB,S4,aa⟩ Tryz.func78 ?_
 rintro⟨(aj:List ByteArray),(ak:List Int),(an:List Int),(ao:Int),(ah:List Pt),(aq:Int),(ai:List Pt),(ar:Bool)⟩ _ (hp:lN (aj,ak,an,ao,ah,aq,ai,ar))
 show vc _ _ _ _ (entry [.a [.vz ab aj,.vz ag ak,.vz ag an,.int ao,.vz ae ah,.int aq,.vz ae ai,.q ar]] []) _
 obtain⟨b,hb⟩:=hp.ex
 have hst:iG (aj,ak,an,ao,ah,aq,ai,ar)=true:=by rw [hb];exact afE b
 have hsm:ay.small (aj,ak,an,ao,ah,aq,ai,ar):=by rw [hb];exact⟨show 64≤1000000 by decide,show 64≤1000000 by decide,show 64≤1000000 by decide,ZA7 _,ZA7 _⟩
 have hw0:ay.wg (aj,ak,an,ao,ah,aq,ai,ar) 0:=by rw [hb];exact⟨(Y9 b).acc.wf,ZB5 _,ZB5 _,show (1:Int)≤1000 by decide⟩
 have lh:ay.wg (aj,ak,an,ao,ah,aq,ai,ar) 1046000:=hw0.mono (ZA7 _)
 have IV:(aY (aj,ak,an,ao,ah,aq,ai,ar) px 0 (aC mm)).2.2=true:=by rw [hb];exact SG b
 have uH:FS (aY (aj,ak,an,ao,ah,aq,ai,ar) px 0 (aC mm)).1 (aY (aj,ak,an,ao,ah,aq,ai,ar) px 0 (aC mm)).2.1:=by rw [hb];exact afF b
 have ai2:bf.ok px:=(wD b).ok
 have hw1:(aY (aj,ak,an,ao,ah,aq,ai,ar) px 0 (aC mm)).1.wg 10:=(ni hw0 ai2 (ZC1 _) (by decide)).1.mono (by omega)
 refine⟨⟨⟨tv9,aa⟩,?_,?_⟩,fun x1 w2=>⟨fun w3=>?_,fun w4=>⟨⟨⟨tv9,aa⟩,?_,?_,?_,?_,?_⟩,fun x5 w6=>⟨⟨⟨tv9,tv8,aa,tv11,aa⟩,⟨?_,?_,?_,?_,?_⟩,?_,?_,?_,?_⟩,fun x7 w8=>⟨fun w9=>?_,fun dx=>⟨[.s 5,.b 1005],Sq26,rfl,[.s 6,.b 1006],Sq27,rfl,[.s 2,.s 26,.b 1002],[.b 1002],rfl,[.s 3,.s 27,.b 1003],[.b 1003],rfl,[],Sq4,rfl,?_⟩⟩⟩⟩⟩⟩
 all_goals first|refine aw ?_|refine ax ?_|exact a8|(dsimp only [sI,qZ,jB,pS,vP,tf,gO];omega)|exact a7|exact hsm.1|exact hsm.2.1|exact hsm.2.2.1|exact hsm.2.2.2.1|exact hsm.2.2.2.2|exact lh|exact ai2|skip
 ·exact absurd (hst.symm.trans (uo w3)) (by decide)
 ·exact absurd (IV.symm.trans (uo w9)) (by decide)
 ·refine⟨[160000,160001,160002,1000190000,1000190001],[],_,_,_,rfl,cf,((aY (aj,ak,an,ao,ah,aq,ai,ar) px 0 (aC mm)).1,(aY (aj,ak,an,ao,ah,aq,ai,ar) px 0 (aC mm)).2.1),⟨uH,hw1⟩,rfl,rfl,rfl⟩
end GL
namespace GL
def aed:ByteArray:=⟨#[104,101,108,108,111,32,104,101,108,108,111,32,104,101,108,108,111]⟩
def qm:List Opr:=[(2,⟨#[47,97]⟩,⟨#[]⟩,0,⟨#[]⟩),(1,⟨#[47,98]⟩,⟨#[]⟩,0,⟨#[]⟩),(1,⟨#[47,97,47,98]⟩,⟨#[]⟩,0,⟨#[]⟩),(3,⟨#[47,98]⟩,⟨#[]⟩,0,aed),(2,⟨#[47,97,47,99]⟩,⟨#[]⟩,0,⟨#[]⟩),(3,⟨#[47,97,47,98]⟩,⟨#[]⟩,30,aed)]
def lH:Prop:=True
def sV:AV:=.s (.xs 0 5 0 qm.length)
def vg:List AV:=[.rs EI qm]
def kL:cn where
 A:=[]
 B:=[]
 pre:=fun x b=>lH
 r:=fun x b _=>sV
 o:=fun x b _=>vg
 nf:=1
theorem yx:Has Tryz.prog 80 kL:=by
 refine Has.fl zT zF zF (l:=[]) trivial Tryz.func80 ?_
 rintro _ _ (hp:lH)
 show vc _ _ _ _ (entry [] []) _
 refine⟨aa,?_⟩
 all_goals first|refine aw ?_|refine ax ?_|exact a8|exact a7|skip
 refine⟨[1007],[],_,_,_,rfl,az,(),aa,?_,?_,rfl⟩
 ·(show _=sV);unfold sV;first|rfl
 ·(show _=vg);unfold vg;first|rfl
end GL
namespace GL
theorem FS.gk {s:ay}{t:bf}{n:Nat}(h:FS s t) (hw:s.wg n) (hn:n≤900000):s.gk where
 n:=h.fi.acc.wf.n
 len:=ZB0 hw.g (by omega)
 ok:=fun p hp=>nP (h.fi.acc.ok p (by simp [hp])).1
 cg:=by have:=h.fi.acc.cg;omega
theorem FS.SD {s:ay}{t:bf}{n:Nat}(h:FS s t) (hw:s.wg n) (hn:n≤900000):FS (ie s) t∧(ie s).wg (n+1):=
 ⟨h.next (by have:=hw.t;omega),SE h.fi.acc hw hn⟩
theorem HG {o:Opr}(h:YZ o=true):0≤o.2.2.2.1∧o.2.2.2.1≤192∧o.2.2.2.2.size≤24:=by
 unfold YZ R5 at h
 cases h1: !(ig o.1 1 7)||(!(ga o.2.1)||((R4 o&& !(ga o.2.2.1))||(!(R4 o)&&decide (o.2.2.1≠⟨#[]⟩)))) with
 |true=>rw [h1] at h;cases h
 |false=>
  rw [h1,cond_false] at h
  cases h2:(decide (o.1≠3)&&decide (o.2.2.2.2≠⟨#[]⟩))||decide ((o.2.2.2.2.size:Int)>24) with
  |true=>rw [h2] at h;cases h
  |false=>
   rw [h2,cond_false] at h
   have h3:=aA (ZE1.1 h2).2
   rcases Bool.or_eq_true_iff.1 h with h |h
   ·have:=aJ h;omega
   ·have:=cC.1 (Bool.and_eq_true_iff.1 h).2;omega
theorem TS:∀k:Nat,(nth EI qm k).2.1.size≤1000∧(nth EI qm k).2.2.1.size≤1000∧0≤(nth EI qm k).2.2.2.1∧(nth EI qm k).2.2.2.1≤192∧(nth EI qm k).2.2.2.2.size≤1000
 |0 |1 |2 |3 |4 |5=>by decide
 |k+6=>by rw [tn (ek:=EI) (by show 6≤k+6;omega)];decide
def lI (r:List Int×Int):Prop:=Rdr r 900000
def OA (r:List Int×Int) (z:ay×bf×Int):Prop:=FS z.1 z.2.1∧z.1.wg 10000∧r.2≤z.2.2∧z.2.2≤r.2+20000
def NZ (r:List Int×Int) (z:ay×bf×Int):AV:=.t [.a (kT 1 2 3 4 5 z.1),trA z.2.1]
def RS (r:List Int×Int) (z:ay×bf×Int):List AV:=[.a [.vw ma r.1,.int z.2.2],.rs ab z.1.rows,.rs ag z.1.refs,.rs ag z.1.last,.rs ae z.1.gone,.rs ae z.1.dead]
def kM:cn where
 A:=[.b 0]
 B:=[.a [.vw ma,.int]]
 pre:=fun x b=>lI b
 α:=fun _ _=>ay×bf×Int
 φ:=fun x b z=>OA b z
 r:=fun x b z=>NZ b z
 o:=fun x b z=>RS b z
 nf:=5
theorem yy:Has Tryz.prog 48 kM:=by
 refine Has.fl zT zF zF (l:=[(21,ba),(79,kQ),(78,kR),(80,kL),(81,ua),(82,tU),(83,yX),(24,gY)]) ⟨dh,yC,yD,yx,O9,O3,W6,su,aa⟩ Tryz.func48 ?_
 rintro _ ⟨(rb:List Int),(rp:Int)⟩ (hp:lI (rb,rp))
 show vc _ _ _ _ (entry [.s (.bp 0 0)] [.a [.vw ma rb,.int rp]]) _
 have hr:Rdr (rb,rp) 900000:=hp
 have hp0:0≤rp:=hr.p0
 have hp1:rp≤900000:=hr.p1
 refine⟨⟨tv3,?_,?_⟩,fun x1 w2=>⟨⟨tv2,aa⟩,fun x3 w4=>⟨⟨⟨⟨⟨?_,?_⟩,⟨?_,?_⟩,⟨?_,?_⟩,aa,⟨?_,?_⟩,aa,⟨?_,?_⟩,tv2⟩,aa⟩,?_⟩,fun x5 w6=>⟨tv2,fun x7 w8=>⟨⟨?_,?_⟩,⟨tv3,?_,?_⟩,fun x9 dx=>?_⟩⟩⟩⟩⟩
 all_goals first|refine aw ?_|refine ax ?_|exact a8|(dsimp only [ba,ck,kQ,lM,kR,lN,kL,lH,ua,sa,tU,r8,yX,vf,gY,ji,gO];omega)|exact a7|exact hr.at (show 0≤rp by omega) (show rp≤_ by omega)|exact⟨⟨_,rfl⟩⟩|(show ((6:Nat):Int)+1≤imax;decide)|(show ((6:Nat):Int)+1≤1000000;decide)|exact hr.at (show 0≤x1.2 by have e:x1.2=rp+1:=w2.2;omega) (show x1.2≤_ by have e:x1.2=rp+1:=w2.2;omega)|skip
 have e1:x1.2=rp+1:=w2.2
 have e5:x9.2=x1.2+1:=dx.2
 have hk:0≤x9.1∧x9.1<7:=pk (n:=7) (by decide) dx
 have hF0:FS x5.1 x5.2:=w6.1
 have hW0:x5.1.wg 10:=w6.2
 refine cN (l:=[(21,ba),(79,kQ),(78,kR),(80,kL),(81,ua),(82,tU),(83,yX),(24,gY)]) (ex:=zT) (wr:=zF) (pt:=zF) ⟨dh,yC,yD,yx,O9,O3,W6,su,trivial⟩ [.s 0,.b 0,.s 2,.s 3,.b 1002,.b 1003,.s 4,.s 5,.s 7,.b 210000] (fun y:ay×bf×Int=>[(.s 8,.int y.2.2),(.b 1004,.a (kT 1000000001 1000000002 1000000003 1000000004 1000000005 y.1)),(.b 1005,.a [.int y.2.1.1,.int y.2.1.2.1,.int y.2.1.2.2.1,.int y.2.1.2.2.2.1,.int y.2.1.2.2.2.2.1,.int y.2.1.2.2.2.2.2.1,.int y.2.1.2.2.2.2.2.2]),(.b 1000000001,.rs ab y.1.rows),(.b 1000000002,.rs ag y.1.refs),(.b 1000000003,.rs ag y.1.last),(.b 1000000004,.rs ae y.1.gone),(.b 1000000005,.rs ae y.1.dead)]) (fun y=>FS y.1 y.2.1∧y.1.wg (10+300*(6-y.2.2).toNat)∧0≤y.2.2∧y.2.2≤6) (fun y=>y.2.2.toNat) (x5.1,x5.2,x9.1) [(1000000001,170000),(1000000002,170001),(1000000003,170002),(1000000004,170003),(1000000005,170004)] ⟨hF0,hW0.mono (by omega),hk.1,by have:=hk.2;show x9.1≤6;omega⟩ dL ?_
 rintro⟨u,tt,k⟩ ⟨(hF:FS u tt),(hW:u.wg (10+300*(6-k).toNat)),(hk0:0≤k),(hk6:k≤6)⟩
 have hop:=TS (6-k).toNat
 refine⟨fun w1=>⟨[.s 4,.b 1004],Sq31,rfl,[.s 5,.b 1005],Sq32,rfl,Sq7,Sq33,rfl,Sq7,Sq34,rfl,Sq34,Sq35,rfl,Sq8,Sq36,rfl,[.s 35,.s 36],Sq37,rfl,⟨?_,?_⟩,[.s 33,.s 37],Sq38,rfl,⟨?_,?_⟩,[.s 38,.b 210000],Sq39,rfl,?_,[.s 31,.s 32,.s 39,.b 1000000001,.b 1000000002,.b 1000000003,.b 1000000004,.b 1000000005,.b 1000410004,.b 1000410003,.b 1000410002,.b 1000410001,.b 1000410000],[.s 40,.b 1000000001,.b 1000000002,.b 1000000003,.b 1000000004,.b 1000000005,.b 1000410000,.b 1000410001,.b 1000410002,.b 1000410003,.b 1000410004],rfl,⟨⟨tv9,tv8,tv6,aa⟩,⟨?_,?_,?_,?_,?_⟩,?_,?_,?_,?_,?_,?_,?_⟩,?_,fun x2 w3=>⟨Sq40,Sq30,rfl,Sq30,Sq41,rfl,Sq30,Sq42,rfl,Sq30,Sq43,rfl,[.s 4,.s 41,.b 1004],[.b 1004],rfl,[.s 5,.s 42,.b 1005],[.b 1005],rfl,⟨?_,?_⟩,?_⟩⟩,fun w4=>⟨⟨tv3,?_,?_⟩,fun x5 w6=>?_⟩⟩
 all_goals first|refine aw ?_|refine ax ?_|exact a8|(dsimp only [ba,ck,kQ,lM,kR,lN,kL,lH,ua,sa,tU,r8,yX,vf,gY,ji,gO];omega)|exact a7|exact hF|exact hW.mono (by omega)|exact hop.1|exact hop.2.1|exact hop.2.2.1|exact hop.2.2.2.1|exact hop.2.2.2.2|exact hr.at (show 0≤x9.2 by omega) (show x9.2≤_ by omega)|exact⟨(u,tt,0),hF,fun n h=>h.mono (by omega)⟩|(show gJ≤((6:Nat):Int)-k;unfold gJ;omega)|(show ((6:Nat):Int)-k≤imax;unfold imax;omega)|(show 0≤((6:Nat):Int)-k;omega)|(show ((6:Nat):Int)-k<((6:Nat):Int);have h:=aJ (p:=k>0) w1;omega)|(show (((6:Nat):Int)-k).toNat<6;have h:=aJ (p:=k>0) w1;omega)|skip
 ·have ES:0<k:=aJ (p:=k>0) w1
  have hG:FS x2.1 x2.2.1:=w3.1
  have hV:x2.1.wg (10+300*(6-k).toNat+300):=w3.2 _ hW
  refine⟨(x2.1,x2.2.1,k-1),[(1000000001,1000410000),(1000000002,1000410001),(1000000003,1000410002),(1000000004,1000410003),(1000000005,1000410004)],?_,?_,?_⟩
  rotate_right
  ·exact bV
  ·exact⟨hG,hV.mono (by show 10+300*(6-k).toNat+300≤10+300*(6-(k-1)).toNat;omega),by show 0≤k-1;omega,by show k-1≤6;omega⟩
  ·show (k-1).toNat<k.toNat;omega
 ·have ES:¬k>0:=aA (p:=k>0) w4
  have e9:x5.2=x9.2+1:=w6.2
  have hm:0≤x5.1∧x5.1<12:=pk (n:=12) (by decide) w6
  refine cN (l:=[(21,ba),(79,kQ),(78,kR),(80,kL),(81,ua),(82,tU),(83,yX),(24,gY)]) (ex:=zT) (wr:=zF) (pt:=zF) ⟨dh,yC,yD,yx,O9,O3,W6,su,trivial⟩ [.s 0,.s 2,.s 3,.b 1002,.b 1003,.s 4,.s 5] (fun y:ay×bf×Int×Int=>[(.b 0,.a [.vw ma rb,.int y.2.2.2]),(.s 9,.int y.2.2.1),(.b 1004,.a (kT 1000000001 1000000002 1000000003 1000000004 1000000005 y.1)),(.b 1005,.a [.int y.2.1.1,.int y.2.1.2.1,.int y.2.1.2.2.1,.int y.2.1.2.2.2.1,.int y.2.1.2.2.2.2.1,.int y.2.1.2.2.2.2.2.1,.int y.2.1.2.2.2.2.2.2]),(.b 1000000001,.rs ab y.1.rows),(.b 1000000002,.rs ag y.1.refs),(.b 1000000003,.rs ag y.1.last),(.b 1000000004,.rs ae y.1.gone),(.b 1000000005,.rs ae y.1.dead)]) (fun y=>FS y.1 y.2.1∧y.1.wg (2000+301*(11-y.2.2.1).toNat)∧(0≤y.2.2.1∧y.2.2.1≤11)∧rp≤y.2.2.2∧y.2.2.2≤rp+3+1021*(11-y.2.2.1)) (fun y=>y.2.2.1.toNat) (u,tt,x5.1,x5.2) [] ⟨hF,hW.mono (by omega),⟨hm.1,by have:=hm.2;show x5.1≤11;omega⟩,by show rp≤x5.2;omega,by have:=hm.2;show x5.2≤rp+3+1021*(11-x5.1);omega⟩ dL ?_
  rintro⟨u,tt,k,q⟩ ⟨(hF:FS u tt),(hW:u.wg (2000+301*(11-k).toNat)),⟨(hk0:0≤k),(hk3:k≤11)⟩,(hq0:rp≤q),(hq1:q≤rp+3+1021*(11-k))⟩
  refine⟨fun w1=>⟨⟨tv2,?_⟩,fun x2 w3=>⟨⟨⟨tv6,aa⟩,?_,?_⟩,fun x4 w5=>⟨fun w6=>⟨⟨⟨tv9,tv8,tv6,aa⟩,⟨?_,?_,?_,?_,?_⟩,?_,?_,?_,?_,?_,?_,?_⟩,fun x7 w8=>⟨⟨tv3,?_,?_⟩,fun x9 dx=>⟨fun kx=>⟨⟨⟨tv9,aa⟩,⟨?_,?_,?_,?_,?_⟩,?_⟩,fun x12 iS=>⟨⟨?_,?_⟩,?_⟩⟩,fun gN=>⟨⟨?_,?_⟩,?_⟩⟩⟩⟩,fun qG=>⟨⟨tv3,?_,?_⟩,fun x16 xd=>⟨fun rO=>⟨⟨⟨tv9,aa⟩,⟨?_,?_,?_,?_,?_⟩,?_⟩,fun x19 uE=>⟨⟨?_,?_⟩,?_⟩⟩,fun AY=>⟨⟨?_,?_⟩,?_⟩⟩⟩⟩⟩⟩,fun AX=>⟨[.s 4,.b 1004],Sq67,rfl,[.s 5,.b 1005],Sq68,rfl,[.s 2,.s 67,.b 1002],[.b 1002],rfl,[.s 3,.s 68,.b 1003],[.b 1003],rfl,?_⟩⟩
  all_goals first|refine aw ?_|refine ax ?_|exact a8|(dsimp only [ba,ck,kQ,lM,kR,lN,kL,lH,ua,sa,tU,r8,yX,vf,gY,ji,gO];omega)|exact a7|exact hr.at (show 0≤q by omega) (show q≤_ by omega)|exact hF|exact hW.mono (by omega)|exact⟨(u,tt,0),hF,fun n h=>h.mono (by omega)⟩|(show x2.1.2.1.size≤1000000;have h:x2.1.2.1.size≤30:=w3.1.1;omega)|(show x2.1.2.2.1.size≤1000000;have h:x2.1.2.2.1.size≤30:=w3.1.2.1;omega)|(show x2.1.2.1.size≤1000;have h:x2.1.2.1.size≤30:=w3.1.1;omega)|(show x2.1.2.2.1.size≤1000;have h:x2.1.2.2.1.size≤30:=w3.1.2.1;omega)|exact (HG w6).1|exact (HG w6).2.1|exact ZB0 (HG w6).2.2 (by decide)|exact hr.at (show 0≤x2.2 by have e:q≤x2.2∧x2.2≤q+1020:=w3.2;omega) (show x2.2≤_ by have e:q≤x2.2∧x2.2≤q+1020:=w3.2;omega)|exact FS.gk (t:=x7.2.1) w8.1 (w8.2 _ hW) (by omega)|exact hF.gk hW (by omega)|skip
  ·have ES:0<k:=aJ (p:=k>0) w1
   have e2:q≤x2.2∧x2.2≤q+1020:=w3.2
   have e9:x9.2=x2.2+1:=dx.2
   have hV:=FS.SD (s:=x7.1) (t:=x7.2.1) w8.1 (w8.2 _ hW) (by omega)
   refine⟨(ie x7.1,x7.2.1,k-1,x9.2),[(1000000001,1000590000),(1000000002,1000590001),(1000000003,1000590002),(1000000004,670000),(1000000005,1000590004)],?_,?_,?_⟩
   rotate_right
   ·exact bV
   ·exact⟨hV.1,hV.2.mono (by show 2000+301*(11-k).toNat+300+1≤2000+301*(11-(k-1)).toNat;omega),⟨by show 0≤k-1;omega,by show k-1≤11;omega⟩,by show rp≤x9.2;omega,by show x9.2≤rp+3+1021*(11-(k-1));omega⟩
   ·show (k-1).toNat<k.toNat;omega
  ·have ES:0<k:=aJ (p:=k>0) w1
   have e2:q≤x2.2∧x2.2≤q+1020:=w3.2
   have e9:x9.2=x2.2+1:=dx.2
   have hG:FS x7.1 x7.2.1:=w8.1
   have hV:x7.1.wg (2000+301*(11-k).toNat+300):=w8.2 _ hW
   refine⟨(x7.1,x7.2.1,k-1,x9.2),[(1000000001,1000590000),(1000000002,1000590001),(1000000003,1000590002),(1000000004,1000590003),(1000000005,1000590004)],?_,?_,?_⟩
   rotate_right
   ·exact bV
   ·exact⟨hG,hV.mono (by show 2000+301*(11-k).toNat+300≤2000+301*(11-(k-1)).toNat;omega),⟨by show 0≤k-1;omega,by show k-1≤11;omega⟩,by show rp≤x9.2;omega,by show x9.2≤rp+3+1021*(11-(k-1));omega⟩
   ·show (k-1).toNat<k.toNat;omega
  ·have ES:0<k:=aJ (p:=k>0) w1
   have e2:q≤x2.2∧x2.2≤q+1020:=w3.2
   have e9:x16.2=x2.2+1:=xd.2
   have hV:=hF.SD hW (by omega)
   refine⟨(ie u,tt,k-1,x16.2),[(1000000004,670000)],?_,?_,?_⟩
   rotate_right
   ·exact bV
   ·exact⟨hV.1,hV.2.mono (by show 2000+301*(11-k).toNat+1≤2000+301*(11-(k-1)).toNat;omega),⟨by show 0≤k-1;omega,by show k-1≤11;omega⟩,by show rp≤x16.2;omega,by show x16.2≤rp+3+1021*(11-(k-1));omega⟩
   ·show (k-1).toNat<k.toNat;omega
  ·have ES:0<k:=aJ (p:=k>0) w1
   have e2:q≤x2.2∧x2.2≤q+1020:=w3.2
   have e9:x16.2=x2.2+1:=xd.2
   refine⟨(u,tt,k-1,x16.2),[],?_,?_,?_⟩
   rotate_right
   ·exact bV
   ·exact⟨hF,hW.mono (by show 2000+301*(11-k).toNat≤2000+301*(11-(k-1)).toNat;omega),⟨by show 0≤k-1;omega,by show k-1≤11;omega⟩,by show rp≤x16.2;omega,by show x16.2≤rp+3+1021*(11-(k-1));omega⟩
   ·show (k-1).toNat<k.toNat;omega
  ·refine⟨[1000000001,1000000002,1000000003,1000000004,1000000005],[],_,_,_,rfl,cf,(u,tt,q),⟨hF,hW.mono (by omega),hq0,by show q≤rp+20000;omega⟩,rfl,rfl,rfl⟩
end GL
end Go.Proofs.YtclcgjhhehbdeaaGreatDoor
