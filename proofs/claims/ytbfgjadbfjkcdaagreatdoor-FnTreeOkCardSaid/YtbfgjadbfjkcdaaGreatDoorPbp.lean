/- FnTreeOk returns true for every code (its row lists package variables, tied by the card): part 42. -/
import Derived.Test.YtbfgjadbfjkcdaaGreatDoorPav
import Derived.Test.YtbfgjadbfjkcdaaGreatDoorPay
import Derived.Test.YtbfgjadbfjkcdaaGreatDoorPaz
import Derived.Test.YtbfgjadbfjkcdaaGreatDoorPba
import Derived.Test.YtbfgjadbfjkcdaaGreatDoorPbd
import Derived.Test.YtbfgjadbfjkcdaaGreatDoorPbf
import Derived.Test.YtbfgjadbfjkcdaaGreatDoorPbi
import Derived.Test.YtbfgjadbfjkcdaaGreatDoorPbj
import Derived.Test.YtbfgjadbfjkcdaaGreatDoorPbo
set_option maxHeartbeats 20000000
set_option linter.all false
namespace Go.Proofs.YtbfgjadbfjkcdaaGreatDoor
namespace GL
noncomputable section
section
variable {s:ay}{i:Nat}
theorem akP (hi:i<64) (h:decide (nth ag s.last i>s.ck)=true):gK s=false:=mI fun k=>absurd (k.QO i hi) (Int.not_le.2 (aE h))
theorem ahz {p:Pt}(hp:p∈s.gone) (h:(!(a6 p))=true∨au p=true∨decide (p.2.1>s.ck-1)=true):gK s=false:=mI fun k=>by
 obtain⟨h1,h2,h3⟩:=k.gone p hp
 rcases h with h |h |h
 ·rw [h1] at h;cases h
 ·rw [h2] at h;cases h
 ·have:=aE h;omega
theorem ahA {p:Pt}(hp:p∈s.dead) (h:(!(a6 p))=true∨au p=true∨decide (p.2.1>s.bY)=true):gK s=false:=mI fun k=>by
 obtain⟨h1,h2,h3⟩:=k.dead p hp
 rcases h with h |h |h
 ·rw [h1] at h;cases h
 ·rw [h2] at h;cases h
 ·have:=aE h;omega
theorem aiW {n r:Nat}(hr:r<64) (h:¬(bq ((s.gone++s.dead).take n) r:Int)≤qO s r):gK s=false:=mI fun k=>h (by
 have h1:=k.bq r hr
 have h2:=P8 (List.take_sublist n (s.gone++s.dead)) r
 rw [bK] at h2
 omega)
end
theorem acV {rf la:List Int}(h:rK (rf,la)=true) {r:Nat}(hr:r<64):(0:Int)≤nth ag rf r:=by
 cases h1:decide ((rf.length:Int)≠64) with
 |true=>rw [OC (p:=(rf,la)) h1] at h;cases h
 |false=>
  cases h2:decide ((la.length:Int)≠64) with
  |true=>rw [OB (p:=(rf,la)) h2] at h;cases h
  |false=>
   rw [VH (p:=(rf,la)) h1 h2] at h
   have:=ae2 h hr
   exact (aE this).1.1
def gdP (s:ay) (j:Nat):Pt:=bif Nat.blt j s.gone.length then nth ae s.gone j else nth ae s.dead (j-s.gone.length)
def gdT (s:ay) (j:Nat):Int:=bif Nat.blt j s.gone.length then s.ck-1 else s.bY
def gdB (s:ay) (j:Nat):Bool:=a6 (gdP s j)&&(!(au (gdP s j))&& !(decide ((gdP s j).2.1>gdT s j)))
theorem aeP {s:ay}{j:Nat}(h:gdB s j=true):a6 (gdP s j)=true∧au (gdP s j)=false∧(gdP s j).2.1≤gdT s j:=by
 unfold gdB at h
 simpa only [ZB0,ZF9,decide_eq_false_iff_not,ZG9] using h
theorem alJ {s:ay}{i:Nat}(hi:i<s.gone.length) (h:(!(a6 (nth ae s.gone i)))=false) (h2:au (nth ae s.gone i)=false) (h3:decide ((nth ae s.gone i).2.1>s.ck-1)=false):gdB s i=true:=by
 have hb:Nat.blt i s.gone.length=true:=Nat.ble_eq_true_of_le hi
 unfold gdB gdP gdT;rw [hb];show (a6 (nth ae s.gone i)&&(!(au (nth ae s.gone i))&& !(decide ((nth ae s.gone i).2.1>s.ck-1))))=true
 rw [cI h,h2,h3];rfl
theorem alI {s:ay}{i k:Nat}(hi:¬i<s.gone.length) (hk:k=i-s.gone.length) (h:(!(a6 (nth ae s.dead k)))=false) (h2:au (nth ae s.dead k)=false) (h3:decide ((nth ae s.dead k).2.1>s.bY)=false):gdB s i=true:=by
 have hb:Nat.blt i s.gone.length=false:=by
  cases hbb:Nat.blt i s.gone.length with
  |false=>rfl
  |true=>exact absurd (aZ hbb) hi
 subst hk
 unfold gdB gdP gdT;rw [hb];show (a6 (nth ae s.dead (i-s.gone.length))&&(!(au (nth ae s.dead (i-s.gone.length)))&& !(decide ((nth ae s.dead (i-s.gone.length)).2.1>s.bY))))=true
 rw [cI h,h2,h3];rfl
theorem AI {l:List Pt}{i:Nat}{z:List Int}{q:Pt}(hz:z.length=64) (hc:∀r,(nth ag z r:Int)=(bq (l.take i) r:Int)) (hi:i<l.length) (hq:nth ae l i=q) (ho:a6 q=true) (hh:au q=false):∀r,(nth ag (z.set q.1.toNat (nth ag z q.1.toNat+1:Int)) r:Int)=(bq (l.take (i+1)) r:Int):=fun r=>by
 rw [N6 hi,hq,bK]
 have hk:q.1.toNat<z.length:=by rw [hz];exact sA ho
 by_cases e:q.1.toNat=r
 ·subst e
  rw [nC (ek:=ag) hk,hc,rU hh];rfl
 ·rw [ix (ek:=ag) e,hc,y9 e];rfl
theorem afs {l:List Pt}{i:Nat}{q:Pt}{f:Nat→Int}(hi:i<l.length) (hq:nth ae l i=q) (h:∀r,r<64→(bq (l.take i) r:Int)≤f r) (h2:(bq (l.take (i+1)) q.1.toNat:Int)≤f q.1.toNat):∀r,r<64→(bq (l.take (i+1)) r:Int)≤f r:=fun r hr=>by
 by_cases e:q.1.toNat=r
 ·rw [←e];exact h2
 ·rw [N6 hi,hq,bK,y9 e];exact h r hr
def rk (S:ay):Prop:=S.gone.length≤1000000∧S.dead.length≤1000000
def bF (S:ay):AV:=.s (.q (gK S))
def W1 (S:ay):List AV:=[]
def sR:Con where
 A:=[.a xE]
 B:=[]
 pre:=fun x b=>rk x
 α:=fun _ _=>Unit
 φ:=fun _ _ _=>True
 r:=fun x b _=>bF x
 o:=fun x b _=>W1 x
 nf:=0
set_option maxRecDepth 100000 in
theorem MT:Has Tryz.prog 10 sR:=by
 refine Has.ofE (fun _=>true) (fun _=>false) (fun _=>false) (l:=[(23,nr),(24,dE),(25,cY),(26,bm)]) ⟨CY,iA,iB,cB,trivial⟩ (fn:=Tryz.f10) Tryz.func10 rfl (by decide) (aZ rfl) ?_
 rintro⟨(aj:List ByteArray),(ak:List Int),(an:List Int),(ao:Int),(ah:List Pt),(aq:Int),(ai:List Pt),(ar:Bool)⟩ _ (hp:rk (aj,ak,an,ao,ah,aq,ai,ar))
 show vc _ _ _ _ (entry [.a [.vz ab aj,.vz ag ak,.vz ag an,.int ao,.vz ae ah,.int aq,.vz ae ai,.q ar]] []) _
 obtain⟨(hg:ah.length≤1000000),(hd:ai.length≤1000000)⟩:=hp
 have hla:(!(rK (ak,an)))=false→ak.length=64∧an.length=64:=fun h=>Q6 (cI h)
 have hxt:(!(iC ao 1 900))=false→1≤ao∧ao≤900:=fun h=>cz.1 (cI h)
 have hxk:(!(iC aq 0 (ao-1)))=false→0≤aq∧aq≤ao-1:=fun h=>cz.1 (cI h)
 refine⟨aa,fun w1=>?_,fun w2=>⟨⟨⟨⟨aa,aa,aa⟩,aa⟩,aa⟩,fun x3 w4=>⟨aa,fun w5=>?_,fun w6=>⟨⟨⟨aa,aa,aa,aa⟩,aa⟩,fun x7 w8=>⟨aa,fun w9=>?_,fun dq=>⟨⟨?_,?_⟩,⟨⟨aa,aa,aa,aa⟩,aa⟩,fun kE dI=>⟨fun iJ=>?_,fun gI=>?_⟩⟩⟩⟩⟩⟩⟩
 all_goals first|refine aw ?_|refine ax ?_|exact ba|(dsimp only [nr,nV];omega)|(dsimp only [dE,gX];omega)|(dsimp only [cY,ee];omega)|(dsimp only [bm,cj];omega)|exact a8|(show (-9223372036854775808:Int)≤ao-1;have:=hxt dq;omega)|(show ao-1≤(9223372036854775807:Int);have:=hxt dq;omega)|skip
 ·refine⟨[],[],_,_,_,rfl,az,(),aa,?_,?_,rfl⟩
  ·(show _=bF (aj,ak,an,ao,ah,aq,ai,ar));unfold bF;first|(rw [ai0 (s:=(aj,ak,an,ao,ah,aq,ai,ar)) w1];rfl)|rfl
  ·rfl
 ·refine⟨[],[],_,_,_,rfl,az,(),aa,?_,?_,rfl⟩
  ·(show _=bF (aj,ak,an,ao,ah,aq,ai,ar));unfold bF;first|(rw [aiZ (s:=(aj,ak,an,ao,ah,aq,ai,ar)) w5];rfl)|rfl
  ·rfl
 ·refine⟨[],[],_,_,_,rfl,az,(),aa,?_,?_,rfl⟩
  ·(show _=bF (aj,ak,an,ao,ah,aq,ai,ar));unfold bF;first|(rw [aiY (s:=(aj,ak,an,ao,ah,aq,ai,ar)) w9];rfl)|rfl
  ·rfl
 ·refine⟨[],[],_,_,_,rfl,az,(),aa,?_,?_,rfl⟩
  ·(show _=bF (aj,ak,an,ao,ah,aq,ai,ar));unfold bF;first|(rw [aiX (s:=(aj,ak,an,ao,ah,aq,ai,ar)) iJ];rfl)|rfl
  ·rfl
 have hlen:aj.length=64:=by have:=aA w2;omega
 have hrl:=hla w6
 have hsp:rK (ak,an)=true:=cI w6
 have htx:=hxt dq
 have hkp:=hxk gI
 have hz0:∀r,nth ag (List.replicate (Int.toNat 64) (EK.zero ag)) r=(0:Int):=fun r=>uS _ r
 refine cO (l:=[(23,nr),(24,dE),(25,cY),(26,bm)]) (ex:=fun _=>true) (wr:=fun _=>false) (pt:=fun _=>false) ⟨CY,iA,iB,cB,trivial⟩ [.s 1,.b 1001] (fun i:Nat=>[(.s 3,.int i)]) (fun i=>i≤64∧∀j,j<i→BH (aj,ak,an,ao,ah,aq,ai,ar) j=true∧nth ag an j≤ao) (fun i=>64-i) 0 [] ⟨ZA8 _,fun j hj=>absurd hj (by omega)⟩ dN ?_
 rintro i ⟨(hi:i≤64),hj⟩
 have cr:decide ((i:Int)<64)=true→i<64:=fun h=>by have:=aE h;omega
 refine⟨fun w1=>⟨[.s 1],[.s 37],rfl,[.s 37,.b 1001],[.s 38],rfl,[.s 3],[.s 39],rfl,[.s 38,.s 39],[.s 40],rfl,⟨?_,?_⟩,[.s 40],[.s 41],rfl,[.s 41],[.s 42],rfl,[.s 42],[.s 43],rfl,[.s 43],[.s 44],rfl,aa,fun w2=>⟨[.s 44],[.s 45],rfl,[.s 44],[.s 46],rfl,[.s 44],[.s 47],rfl,[.s 44],[.s 48],rfl,[.s 44],[.s 49],rfl,[.s 44],[.s 50],rfl,[.s 44],[.s 51],rfl,[.s 44],[.s 52],rfl,[.s 44],[.s 53],rfl,[.s 44],[.s 54],rfl,[.s 44],[.s 55],rfl,[.s 44],[.s 56],rfl,[.s 44],[.s 57],rfl,[.s 44],[.s 58],rfl,[.s 44,.s 58],[.s 59],rfl,[.s 59],[.s 60],rfl,[.s 60],[.s 61],rfl,[.s 60],[.s 62],rfl,[.s 60],[.s 63],rfl,[.s 60],[.s 64],rfl,[.s 60],[.s 65],rfl,[.s 60],[.s 66],rfl,[.s 60],[.s 67],rfl,[.s 60],[.s 68],rfl,[.s 60],[.s 69],rfl,[.s 60,.s 69],[.s 70],rfl,?_⟩,fun w3=>⟨[.s 44,.s 1],[.s 45],rfl,[.s 44,.s 45,.b 1001],[.s 46],rfl,[.s 44,.s 3],[.s 47],rfl,[.s 44,.s 46,.s 47],[.s 48],rfl,⟨?_,?_⟩,[.s 44,.s 48],[.s 49],rfl,[.s 44,.s 49],[.s 50],rfl,[.s 44,.s 1],[.s 51],rfl,[.s 44,.s 51],[.s 52],rfl,[.s 44,.s 52,.b 1001],[.s 53],rfl,[.s 44,.s 3],[.s 54],rfl,[.s 44,.s 53,.s 54],[.s 55],rfl,⟨?_,?_⟩,[.s 44,.s 55],[.s 56],rfl,[.s 44,.s 56],[.s 57],rfl,[.s 44,.s 50,.s 57],[.s 58],rfl,[.s 44,.s 58],[.s 59],rfl,[.s 59],[.s 60],rfl,aa,fun w4=>⟨[.s 60],[.s 61],rfl,[.s 60],[.s 62],rfl,[.s 60],[.s 63],rfl,[.s 60],[.s 64],rfl,[.s 60],[.s 65],rfl,[.s 60],[.s 66],rfl,[.s 60],[.s 67],rfl,[.s 60],[.s 68],rfl,[.s 60],[.s 69],rfl,[.s 60,.s 69],[.s 70],rfl,?_⟩,fun w5=>⟨[.s 60,.s 1],[.s 61],rfl,[.s 60,.s 61],[.s 62],rfl,[.s 60,.s 62,.b 1001],[.s 63],rfl,[.s 60,.s 3],[.s 64],rfl,[.s 60,.s 63,.s 64],[.s 65],rfl,⟨?_,?_⟩,[.s 60,.s 65],[.s 66],rfl,[.s 60,.s 1],[.s 67],rfl,[.s 60,.s 67,.b 1001],[.s 68],rfl,[.s 60,.s 66,.s 68],[.s 69],rfl,[.s 60,.s 69],[.s 70],rfl,fun w6=>?_,fun w7=>⟨⟨?_,?_⟩,?_⟩⟩⟩⟩,fun w8=>⟨⟨?_,?_,?_⟩,?_⟩⟩
 all_goals first|refine aw ?_|refine ax ?_|exact ba|(dsimp only [nr,nV];omega)|(dsimp only [dE,gX];omega)|(dsimp only [cY,ee];omega)|(dsimp only [bm,cj];omega)|exact a8|(show (i:Int)<(ak.length:Int);rw [hrl.1];exact Int.ofNat_lt.2 (cr w1))|(show (i:Int)<(aj.length:Int);rw [hlen];exact Int.ofNat_lt.2 (cr w1))|(show (i:Int)<(an.length:Int);rw [hrl.2];exact Int.ofNat_lt.2 (cr w1))|skip
 ·refine⟨[],[],_,_,_,rfl,az,(),aa,?_,?_,rfl⟩
  ·(show _=bF (aj,ak,an,ao,ah,aq,ai,ar));unfold bF;first|(rw [afS (s:=(aj,ak,an,ao,ah,aq,ai,ar)) (cr w1) (acY (s:=(aj,ak,an,ao,ah,aq,ai,ar)) w2)];rfl)|rfl
  ·rfl
 ·refine⟨[],[],_,_,_,rfl,az,(),aa,?_,?_,rfl⟩
  ·(show _=bF (aj,ak,an,ao,ah,aq,ai,ar));unfold bF;first|(rw [afS (s:=(aj,ak,an,ao,ah,aq,ai,ar)) (cr w1) (acX (s:=(aj,ak,an,ao,ah,aq,ai,ar)) w4)];rfl)|rfl
  ·rfl
 ·refine⟨[],[],_,_,_,rfl,az,(),aa,?_,?_,rfl⟩
  ·(show _=bF (aj,ak,an,ao,ah,aq,ai,ar));unfold bF;first|(rw [akP (s:=(aj,ak,an,ao,ah,aq,ai,ar)) (cr w1) w6];rfl)|rfl
  ·rfl
 ·refine⟨(i+1),[],?_,?_,?_⟩
  rotate_right
  ·exact bX
  ·refine⟨cr w1,fun j yU=>?_⟩
   by_cases e:j=i
   ·rw [e];exact⟨acW (s:=(aj,ak,an,ao,ah,aq,ai,ar)) w3 w5,ZG9.1 (aA w7)⟩
   ·exact hj j (by omega)
  ·show 64-(i+1)<64-i;have:=cr w1;omega
 have acd:∀j,j<64→BH (aj,ak,an,ao,ah,aq,ai,ar) j=true∧nth ag an j≤ao:=fun j yU=>hj j (by have:=aA w8;omega)
 clear hj cr hi
 refine cO (l:=[(23,nr),(24,dE),(25,cY),(26,bm)]) (ex:=fun _=>true) (wr:=fun _=>false) (pt:=fun _=>false) ⟨CY,iA,iB,cB,trivial⟩ [.s 1,.b 1001,.s 4] (fun y:Nat×List Int=>[(.s 5,.int y.1),(.b 1071,.rs ag y.2)]) (fun y=>y.1≤ah.length+ai.length∧y.2.length=64∧(∀r,(nth ag y.2 r:Int)=(bq ((ah++ai).take y.1) r:Int))∧(∀r,r<64→(bq ((ah++ai).take y.1) r:Int)≤qO (aj,ak,an,ao,ah,aq,ai,ar) r)∧∀j,j<y.1→gdB (aj,ak,an,ao,ah,aq,ai,ar) j=true) (fun y=>ah.length+ai.length-y.1) (0,List.replicate (Int.toNat 64) (EK.zero ag)) [] ⟨ZA8 _,rfl,hz0,fun r hr=>(acV hsp hr),fun j hj=>absurd hj (by omega)⟩ dN ?_
 rintro⟨i,z⟩ ⟨(hi:i≤ah.length+ai.length),(hz:z.length=64),(hc:∀r,(nth ag z r:Int)=(bq ((ah++ai).take i) r:Int)),hle,hgd⟩
 have acg:decide ((i:Int)<(ah.length:Int)+(ai.length:Int))=true→i<(ah++ai).length:=fun h=>by rw [ZA0];have:=aE h;omega
 have bU:decide ((i:Int)<(ah.length:Int)+(ai.length:Int))=true→i+1≤ah.length+ai.length:=fun h=>by have:=aE h;omega
 have aeA:decide ((i:Int)<(ah.length:Int))=true→i<ah.length:=fun h=>by have:=aE h;omega
 have hqG:decide ((i:Int)<(ah.length:Int))=true→nth ae (ah++ai) i=nth ae ah i:=fun h=>by
  unfold nth;rw [ZC2 (aeA h)]
 have agl:decide ((i:Int)<(ah.length:Int))=false→((i:Int)-(ah.length:Int)).toNat=i-ah.length:=fun h=>by have:=aA h;omega
 have hqD:decide ((i:Int)<(ah.length:Int))=false→nth ae (ah++ai) i=nth ae ai ((i:Int)-(ah.length:Int)).toNat:=fun h=>by
  rw [agl h];have:=aA h
  exact ZV (l:=ah) (m:=ai) (by omega)
 have hmD:decide ((i:Int)<(ah.length:Int))=false→decide ((i:Int)<(ah.length:Int)+(ai.length:Int))=true→nth ae ai ((i:Int)-(ah.length:Int)).toNat∈ai:=fun h h2=>by
  have:=aA h;have:=aE h2
  exact bT (ek:=ae) (by omega)
 have hz1:∀k,(-9223372036854775808:Int)≤(nth ag z k+1:Int):=fun k=>by rw [hc k];omega
 have hz2:∀k,(nth ag z k+1:Int)≤(9223372036854775807:Int):=fun k=>by
  rw [hc k]
  have:bq ((ah++ai).take i) k≤((ah++ai).take i).length:=List.countP_le_length
  rw [ZB8,ZA0] at this
  have h3:bq ((ah++ai).take i) k≤2000000:=by omega
  exact ZE1 (Int.add_le_add_right (Int.ofNat_le.2 h3) 1) (by decide)
 have h64:(List.replicate (Int.toNat 64) (EK.zero ag)).length=64:=rfl
 refine⟨⟨?_,?_⟩,fun w1=>⟨⟨?_,?_⟩,fun w2=>⟨⟨?_,?_⟩,⟨⟨⟨aa,aa,aa,aa,aa,aa⟩,aa⟩,aa⟩,fun x3 w4=>⟨aa,fun w5=>?_,fun w6=>⟨⟨⟨⟨aa,aa,aa,aa,aa,aa⟩,aa⟩,aa⟩,fun x7 w8=>⟨aa,fun w9=>?_,fun dq=>⟨fun kk=>?_,fun dI=>⟨[.s 4],[.s 121],rfl,[.s 7],[.s 122],rfl,[.s 122,.b 1007],[.s 123],rfl,[.s 4],[.s 124],rfl,[.s 7],[.s 125],rfl,[.s 125,.b 1007],[.s 126],rfl,[.s 124,.s 126],[.s 127],rfl,⟨?_,?_⟩,[.s 127,.b 1071],[.s 128],rfl,?_,[.s 128],[.s 129],rfl,⟨?_,?_⟩,[.s 121,.s 123],[.s 130],rfl,⟨?_,?_⟩,[.s 130,.s 129,.b 1071],[.b 1071],rfl,?_,[.s 4],[.s 131],rfl,[.s 7],[.s 132],rfl,[.s 132,.b 1007],[.s 133],rfl,[.s 131,.s 133],[.s 134],rfl,⟨?_,?_⟩,[.s 134,.b 1071],[.s 135],rfl,?_,[.s 1],[.s 136],rfl,[.s 136],[.s 137],rfl,[.s 137,.b 1001],[.s 138],rfl,[.s 7],[.s 139],rfl,[.s 139,.b 1007],[.s 140],rfl,[.s 138,.s 140],[.s 141],rfl,⟨?_,?_⟩,[.s 141],[.s 142],rfl,[.s 135,.s 142],[.s 143],rfl,fun iJ=>?_,fun gI=>⟨⟨?_,?_⟩,?_⟩⟩⟩⟩⟩⟩⟩,fun pe=>⟨⟨?_,?_⟩,⟨?_,?_⟩,⟨⟨⟨aa,aa,aa,aa,aa,aa⟩,aa⟩,aa⟩,fun x16 wC=>⟨aa,fun qX=>?_,fun oB=>⟨⟨⟨⟨aa,aa,aa,aa,aa,aa⟩,aa⟩,aa⟩,fun x20 zm=>⟨aa,fun zl=>?_,fun xD=>⟨fun rG=>?_,fun w25=>⟨[.s 4],[.s 121],rfl,[.s 7],[.s 122],rfl,[.s 122,.b 1007],[.s 123],rfl,[.s 4],[.s 124],rfl,[.s 7],[.s 125],rfl,[.s 125,.b 1007],[.s 126],rfl,[.s 124,.s 126],[.s 127],rfl,⟨?_,?_⟩,[.s 127,.b 1071],[.s 128],rfl,?_,[.s 128],[.s 129],rfl,⟨?_,?_⟩,[.s 121,.s 123],[.s 130],rfl,⟨?_,?_⟩,[.s 130,.s 129,.b 1071],[.b 1071],rfl,?_,[.s 4],[.s 131],rfl,[.s 7],[.s 132],rfl,[.s 132,.b 1007],[.s 133],rfl,[.s 131,.s 133],[.s 134],rfl,⟨?_,?_⟩,[.s 134,.b 1071],[.s 135],rfl,?_,[.s 1],[.s 136],rfl,[.s 136],[.s 137],rfl,[.s 137,.b 1001],[.s 138],rfl,[.s 7],[.s 139],rfl,[.s 139,.b 1007],[.s 140],rfl,[.s 138,.s 140],[.s 141],rfl,⟨?_,?_⟩,[.s 141],[.s 142],rfl,[.s 135,.s 142],[.s 143],rfl,fun E1=>?_,fun w27=>⟨⟨?_,?_⟩,?_⟩⟩⟩⟩⟩⟩⟩⟩,fun w28=>?_⟩
 all_goals first|refine aw ?_|refine ax ?_|exact ba|(dsimp only [nr,nV];omega)|(dsimp only [dE,gX];omega)|(dsimp only [cY,ee];omega)|(dsimp only [bm,cj];omega)|exact a8|(show (i:Int)-(ah.length:Int)<(ai.length:Int);have:=aE w1;omega)|(show (0:Int)≤(i:Int)-(ah.length:Int);have:=aA pe;omega)|exact (n0 (cI w6)).1|exact (n0 (cI oB)).1|exact (n0 (cI w6)).2|exact (n0 (cI oB)).2|(show _<(ak.length:Int);rw [hrl.1];exact (n0 (cI w6)).2)|(show _<(ak.length:Int);rw [hrl.1];exact (n0 (cI oB)).2)|exact hz1 _|exact hz2 _|(show (nth ae ah i).1.toNat<z.length;rw [hz];exact sA (cI w6))|(show (nth ae ai ((i:Int)-(ah.length:Int)).toNat).1.toNat<z.length;rw [hz];exact sA (cI oB))|(show (nth ae ah i).1.toNat<(List.set _ _ _).length;rw [ZC3,hz];exact sA (cI w6))|(show (nth ae ai ((i:Int)-(ah.length:Int)).toNat).1.toNat<(List.set _ _ _).length;rw [ZC3,hz];exact sA (cI oB))|skip
 ·refine⟨[],[],_,_,_,rfl,az,(),aa,?_,?_,rfl⟩
  ·(show _=bF (aj,ak,an,ao,ah,aq,ai,ar));unfold bF;first|(rw [ahz (s:=(aj,ak,an,ao,ah,aq,ai,ar)) (bT (ek:=ae) (aeA w2)) (.inl w5)];rfl)|rfl
  ·rfl
 ·refine⟨[],[],_,_,_,rfl,az,(),aa,?_,?_,rfl⟩
  ·(show _=bF (aj,ak,an,ao,ah,aq,ai,ar));unfold bF;first|(rw [ahz (s:=(aj,ak,an,ao,ah,aq,ai,ar)) (bT (ek:=ae) (aeA w2)) (.inr (.inl w9))];rfl)|rfl
  ·rfl
 ·refine⟨[],[],_,_,_,rfl,az,(),aa,?_,?_,rfl⟩
  ·(show _=bF (aj,ak,an,ao,ah,aq,ai,ar));unfold bF;first|(rw [ahz (s:=(aj,ak,an,ao,ah,aq,ai,ar)) (bT (ek:=ae) (aeA w2)) (.inr (.inr kk))];rfl)|rfl
  ·rfl
 ·have kh:=AI hz hc (acg w1) (hqG w2) (cI w6) dq
  refine⟨[],[],_,_,_,rfl,az,(),aa,?_,?_,rfl⟩
  ·(show _=bF (aj,ak,an,ao,ah,aq,ai,ar));unfold bF;first|(rw [aiW (s:=(aj,ak,an,ao,ah,aq,ai,ar)) (n:=i+1) (sA (cI w6)) (fun h=>by rw [←kh] at h;exact absurd h (Int.not_le.2 (aE iJ)))];rfl)|rfl
  ·rfl
 ·have kh:=AI hz hc (acg w1) (hqG w2) (cI w6) dq
  refine⟨(i+1,z.set (nth ae ah i).1.toNat (nth ag z (nth ae ah i).1.toNat+1:Int)),[],?_,?_,?_⟩
  rotate_right
  ·exact bX
  ·refine⟨bU w1,by show (List.set _ _ _).length=64;rw [ZC3,hz],kh,?_,?_⟩
   ·exact afs (acg w1) (hqG w2) hle (by rw [←kh];exact ZG9.1 (aA gI))
   ·intro j yU
    by_cases e:j=i
    ·rw [e];exact alJ (s:=(aj,ak,an,ao,ah,aq,ai,ar)) (aeA w2) w6 dq dI
    ·exact hgd j (by have:j<i+1:=yU;omega)
  ·show ah.length+ai.length-(i+1)<ah.length+ai.length-i;have:=bU w1;omega
 ·refine⟨[],[],_,_,_,rfl,az,(),aa,?_,?_,rfl⟩
  ·(show _=bF (aj,ak,an,ao,ah,aq,ai,ar));unfold bF;first|(rw [ahA (s:=(aj,ak,an,ao,ah,aq,ai,ar)) (hmD pe w1) (.inl qX)];rfl)|rfl
  ·rfl
 ·refine⟨[],[],_,_,_,rfl,az,(),aa,?_,?_,rfl⟩
  ·(show _=bF (aj,ak,an,ao,ah,aq,ai,ar));unfold bF;first|(rw [ahA (s:=(aj,ak,an,ao,ah,aq,ai,ar)) (hmD pe w1) (.inr (.inl zl))];rfl)|rfl
  ·rfl
 ·refine⟨[],[],_,_,_,rfl,az,(),aa,?_,?_,rfl⟩
  ·(show _=bF (aj,ak,an,ao,ah,aq,ai,ar));unfold bF;first|(rw [ahA (s:=(aj,ak,an,ao,ah,aq,ai,ar)) (hmD pe w1) (.inr (.inr rG))];rfl)|rfl
  ·rfl
 ·have kh:=AI hz hc (acg w1) (hqD pe) (cI oB) xD
  refine⟨[],[],_,_,_,rfl,az,(),aa,?_,?_,rfl⟩
  ·(show _=bF (aj,ak,an,ao,ah,aq,ai,ar));unfold bF;first|(rw [aiW (s:=(aj,ak,an,ao,ah,aq,ai,ar)) (n:=i+1) (sA (cI oB)) (fun h=>by rw [←kh] at h;exact absurd h (Int.not_le.2 (aE E1)))];rfl)|rfl
  ·rfl
 ·have kh:=AI hz hc (acg w1) (hqD pe) (cI oB) xD
  refine⟨(i+1,z.set (nth ae ai ((i:Int)-(ah.length:Int)).toNat).1.toNat (nth ag z (nth ae ai ((i:Int)-(ah.length:Int)).toNat).1.toNat+1:Int)),[],?_,?_,?_⟩
  rotate_right
  ·exact bX
  ·refine⟨bU w1,by show (List.set _ _ _).length=64;rw [ZC3,hz],kh,?_,?_⟩
   ·exact afs (acg w1) (hqD pe) hle (by rw [←kh];exact ZG9.1 (aA w27))
   ·intro j yU
    by_cases e:j=i
    ·rw [e];exact alI (s:=(aj,ak,an,ao,ah,aq,ai,ar)) (by have:=aA pe;show¬i<ah.length;omega) (agl pe) oB xD w25
    ·exact hgd j (by have:j<i+1:=yU;omega)
  ·show ah.length+ai.length-(i+1)<ah.length+ai.length-i;have:=bU w1;omega
 ·have hE:i=ah.length+ai.length:=by have:=aA (p:=(i:Int)<(ah.length:Int)+(ai.length:Int)) w28;omega
  have e:gK (aj,ak,an,ao,ah,aq,ai,ar)=true:=VG
   {len:=hlen,sp:=hsp,ck:=htx,bY:=hkp,QO:=fun j yU=>(acd j yU).2,row:=fun j yU=>G1.1 (acd j yU).1
    gone:=fun p hp=>by
     obtain⟨j,hj,rfl⟩:=List.getElem_of_mem hp
     have hj:j<ah.length:=hj
     have:=aeP (hgd j (by omega))
     rw [show gdP (aj,ak,an,ao,ah,aq,ai,ar) j=ah[j] by unfold gdP;rw [show Nat.blt j (ay.gone (aj,ak,an,ao,ah,aq,ai,ar)).length=true from Nat.ble_eq_true_of_le hj];unfold nth;rw [cond_true];rw [show (ay.gone (aj,ak,an,ao,ah,aq,ai,ar))[j]?=some ah[j] from ZB2 hj],show gdT (aj,ak,an,ao,ah,aq,ai,ar) j=ao-1 by unfold gdT;rw [show Nat.blt j (ay.gone (aj,ak,an,ao,ah,aq,ai,ar)).length=true from Nat.ble_eq_true_of_le hj];rfl] at this
     exact this
    dead:=fun p hp=>by
     obtain⟨j,hj,rfl⟩:=List.getElem_of_mem hp
     have hj:j<ai.length:=hj
     have:=aeP (hgd (ah.length+j) (by omega))
     have hb:Nat.blt (ah.length+j) (ay.gone (aj,ak,an,ao,ah,aq,ai,ar)).length=false:=by
      cases hbb:Nat.blt (ah.length+j) (ay.gone (aj,ak,an,ao,ah,aq,ai,ar)).length with
      |false=>rfl
      |true=>have:ah.length+j<ah.length:=aZ hbb;omega
     rw [show gdP (aj,ak,an,ao,ah,aq,ai,ar) (ah.length+j)=ai[j] by unfold gdP;rw [hb,cond_false];rw [show ah.length+j-(ay.gone (aj,ak,an,ao,ah,aq,ai,ar)).length=j from Nat.add_sub_cancel_left ..];unfold nth;rw [show (ay.dead (aj,ak,an,ao,ah,aq,ai,ar))[j]?=some ai[j] from ZB2 hj],show gdT (aj,ak,an,ao,ah,aq,ai,ar) (ah.length+j)=aq by unfold gdT;rw [hb];rfl] at this
     exact this
    bq:=fun r hr=>by
     have:=hle r hr
     rw [ZD1 (by rw [ZA0];omega),bK] at this
     exact this }
  refine⟨[],[],_,_,_,rfl,az,(),aa,?_,?_,rfl⟩
  ·(show _=bF (aj,ak,an,ao,ah,aq,ai,ar));unfold bF;first|(rw [e];rfl)|rfl
  ·rfl
def yw (S:ay) (t:bf):Prop:=S.gone.length≤1000000∧S.dead.length≤1000000
def pS (S:ay) (t:bf):AV:=.s (.q (gK S&&oI S t))
def abF (S:ay) (t:bf):List AV:=[]
def KH:Con where
 A:=[.a xE,.a [.int,.int,.int,.int,.int,.int,.int]]
 B:=[]
 pre:=fun x b=>yw (x.1) (x.2)
 α:=fun _ _=>Unit
 φ:=fun _ _ _=>True
 r:=fun x b _=>pS (x.1) (x.2)
 o:=fun x b _=>abF (x.1) (x.2)
 nf:=0
set_option maxRecDepth 100000 in
theorem ael:Has Tryz.prog 6 KH:=by
 refine Has.ofE (fun _=>true) (fun _=>false) (fun _=>false) (l:=[(10,sR),(11,J6)]) ⟨MT,ad8,trivial⟩ (fn:=Tryz.f6) Tryz.func6 rfl (by decide) (aZ rfl) ?_
 rintro⟨⟨(aj:List ByteArray),(ak:List Int),(an:List Int),(ao:Int),(ah:List Pt),(aq:Int),(ai:List Pt),(ar:Bool)⟩,⟨(t1:Int),(t2:Int),(t3:Int),(t4:Int),(t5:Int),(t6:Int),(t7:Int)⟩⟩ _ (hp:yw (aj,ak,an,ao,ah,aq,ai,ar) (t1,t2,t3,t4,t5,t6,t7))
 show vc _ _ _ _ (entry [.a [.vz ab aj,.vz ag ak,.vz ag an,.int ao,.vz ae ah,.int aq,.vz ae ai,.q ar],.a [.int t1,.int t2,.int t3,.int t4,.int t5,.int t6,.int t7]] []) _
 obtain⟨hg,hd⟩:=hp
 refine⟨⟨⟨⟨aa,aa,aa,aa,aa,aa,aa,aa,aa⟩,aa⟩,?_,?_⟩,fun x1 w2=>⟨aa,fun w3=>⟨⟨⟨⟨aa,aa,aa,aa,aa,aa,aa,aa,aa⟩,⟨aa,aa,aa,aa,aa,aa,aa,aa⟩,aa⟩,?_⟩,fun x4 w5=>?_⟩,fun w6=>?_⟩⟩
 all_goals first|refine aw ?_|refine ax ?_|exact ba|(dsimp only [sR,rk];omega)|(dsimp only [J6,zF];omega)|exact a8|exact hg|exact hd|exact (Q1.1 w3).rd|skip
 ·have e:(gK (aj,ak,an,ao,ah,aq,ai,ar)&&oI (aj,ak,an,ao,ah,aq,ai,ar) (t1,t2,t3,t4,t5,t6,t7))=oI (aj,ak,an,ao,ah,aq,ai,ar) (t1,t2,t3,t4,t5,t6,t7):=by rw [show gK (aj,ak,an,ao,ah,aq,ai,ar)=true from w3];rfl
  refine⟨[],[],_,_,_,rfl,az,(),aa,?_,?_,rfl⟩
  ·(show _=pS (aj,ak,an,ao,ah,aq,ai,ar) (t1,t2,t3,t4,t5,t6,t7));unfold pS;first|(rw [e];rfl)|rfl
  ·rfl
 ·have e:(gK (aj,ak,an,ao,ah,aq,ai,ar)&&oI (aj,ak,an,ao,ah,aq,ai,ar) (t1,t2,t3,t4,t5,t6,t7))=false:=by rw [show gK (aj,ak,an,ao,ah,aq,ai,ar)=false from w6];rfl
  refine⟨[],[],_,_,_,rfl,az,(),aa,?_,?_,rfl⟩
  ·(show _=pS (aj,ak,an,ao,ah,aq,ai,ar) (t1,t2,t3,t4,t5,t6,t7));unfold pS;first|(rw [e];rfl)|rfl
  ·rfl
end
end GL
namespace GL
def mB:fu:=(2,1,0,0,0,0,0,0,0,0)
def pG:bf:=(0,0,0,0,0,0,0)
theorem abT (b:Bool):aB (kf b) pG=cw 16:=by
 have e:bC (kf b) pG=([bO],true):=vD (f:=2) (lv:=0) (l:=[bO]) rfl
 unfold aB;rw [e];rfl
theorem wP (b:Bool):Tree (kf b) pG 0 where
 rH:=⟨rfl,by decide,⟨rfl,fun h=>by cases h⟩⟩
 m0:=ZC1 _
 m1:=by decide
 dm:=rfl
 tail:=fun i _=>by rw [abT,CJ];rfl
theorem S6 (b:Bool) (k:Nat):getM (kf b) pG k=⟨#[]⟩:=ng (wP b) (j:=k) (Int.natCast_nonneg k)
theorem H5 (b:Bool) (r:Nat):qO (kf b) r=0:=uS 64 r
theorem adO (b:Bool) (E:Nat→Bool) (r:Nat):gJ (kf b) pG E r=0:=by
 have h:∀k,(bif E k then 0 else bq (dA (kf b) (nodeAt (kf b) pG k)) r)=0:=fun k=>by
  rw [jU (S6 b k)];cases E k<;>rfl
 unfold gJ
 have hs:∀l:List Nat,(l.map fun k=>bif E k then 0 else bq (dA (kf b) (nodeAt (kf b) pG k)) r).sum=0:=fun l=>by
  induction l with
  |nil=>rfl
  |cons x l ih=>rw [ZE8,List.sum_cons,ih,h x]
 exact hs _
theorem ZX (b:Bool):FI (kf b) pG (rX E0 0) (fun r=>O0 r+bq (dA (kf b) mB) r) where
 tree:=wP b
 nodes:=fun k _ _=>.inl (S6 b k)
 acc:=
  {wf:=⟨⟨rfl,rfl,rfl⟩,fun x hx=>by rw [(ZD6.1 hx).2];exact ZA8 _⟩
   up:=fun r=>by rw [H5];decide
   ck:=⟨ZC1 _,show (1:Int)≤1000000 by decide⟩
   sl:=fun r=>by
    rw [H5,adO,show bq (dA (kf b) mB) r=0 from mj rfl r,show bq (di (kf b) pG) r=0 from mj rfl r]
    exact ZC1 _
   ok:=fun p hp=>by cases hp }
theorem S5 (b:Bool):(aY (kf b) pG 0 (aC mB)).2.2=true:=by cases b<;>decide+kernel
theorem acZ:cy mB=true:=by decide
theorem af5 (b:Bool):FS (aY (kf b) pG 0 (aC mB)).1 (aY (kf b) pG 0 (aC mB)).2.1:=by
 obtain⟨h1,h2⟩:=(ZX b).ZJ (i:=0) (n:=mB) (O:=O0) (by decide) (by decide) (fun h=>⟨h,wP b⟩) (S5 b)
 have e:vX (rX E0 0) 0=E0:=by
  funext k
  unfold vX rX
  cases decide (k=0)<;>rfl
 rw [e] at h1
 refine⟨h1,?_⟩
 have h3:bB (getM (aY (kf b) pG 0 (aC mB)).1 (aY (kf b) pG 0 (aC mB)).2.1 0)=(mB,true):=(congrArg bB h2.at_).trans (tF acZ)
 show (bB (getM (aY (kf b) pG 0 (aC mB)).1 (aY (kf b) pG 0 (aC mB)).2.1 0)).1.1=2
 rw [h3];rfl
end GL
namespace GL
theorem af4 (b:Bool):gK (kf b)=true:=VG
 {len:=rfl
  sp:=show rK (List.replicate 64 0,List.replicate 64 0)=true by decide+kernel
  ck:=⟨ZC1 _,show (1:Int)≤900 by decide⟩
  bY:=⟨ZC1 _,ZC1 _⟩
  QO:=fun i _=>by rw [show nth ag (kf b).last i=(0:Int) from uS 64 i];exact (show (0:Int)≤1 by decide)
  row:=fun i _=>by
   have e:nth ab (kf b).rows i=⟨#[]⟩:=by
    by_cases h:i<(kf b).rows.length
    ·exact (ZD6.1 (bT (ek:=ab) h)).2
    ·exact tD (ek:=ab) (by omega)
   rw [e,show nth ag (kf b).refs i=(0:Int) from uS 64 i]
   exact⟨ZA8 _,rfl⟩
  gone:=fun p hp=>by cases hp
  dead:=fun p hp=>by cases hp
  bq:=fun r _=>by rw [H5];exact ZC1 _ }
structure akp (s:ay):Prop where
 ex:∃b,s=kf b
def lY (S:ay):Prop:=akp S
def OS (S:ay) (z:ay×bf):Prop:=FS z.1 z.2∧z.1.wg 10
def OH (S:ay) (z:ay×bf):AV:=.t [.a (k9 0 1 2 3 4 z.1),trA z.2,.s (.q true)]
def SO (S:ay) (z:ay×bf):List AV:=[.rs ab z.1.rows,.rs ag z.1.refs,.rs ag z.1.last,.rs ae z.1.gone,.rs ae z.1.dead]
def k7:Con where
 A:=[.a xE]
 B:=[]
 pre:=fun x b=>lY x
 α:=fun _ _=>ay×bf
 φ:=fun x b z=>OS x z
 r:=fun x b z=>OH x z
 o:=fun x b z=>SO x z
 nf:=5
set_option maxRecDepth 100000 in
theorem yS:Has Tryz.prog 39 k7:=by
 refine Has.ofE (fun _=>true) (fun _=>false) (fun _=>false) (l:=[(10,sR),(54,jF),(63,v7)]) ⟨MT,IT,TT,trivial⟩ (fn:=Tryz.f39) Tryz.func39 rfl (by decide) (aZ rfl) ?_
 rintro⟨(aj:List ByteArray),(ak:List Int),(an:List Int),(ao:Int),(ah:List Pt),(aq:Int),(ai:List Pt),(ar:Bool)⟩ _ (hp:lY (aj,ak,an,ao,ah,aq,ai,ar))
 show vc _ _ _ _ (entry [.a [.vz ab aj,.vz ag ak,.vz ag an,.int ao,.vz ae ah,.int aq,.vz ae ai,.q ar]] []) _
 obtain⟨b,hb⟩:=hp.ex
 have hst:gK (aj,ak,an,ao,ah,aq,ai,ar)=true:=by rw [hb];exact af4 b
 have hsm:ay.small (aj,ak,an,ao,ah,aq,ai,ar):=by rw [hb];exact⟨show 64≤1000000 by decide,show 64≤1000000 by decide,show 64≤1000000 by decide,ZA8 _,ZA8 _⟩
 have hw0:ay.wg (aj,ak,an,ao,ah,aq,ai,ar) 0:=by rw [hb];exact⟨(ZX b).acc.wf,ZB6 _,ZB6 _,show (1:Int)≤1000 by decide⟩
 have lB:ay.wg (aj,ak,an,ao,ah,aq,ai,ar) 1046000:=hw0.mono (ZA8 _)
 have JB:(aY (aj,ak,an,ao,ah,aq,ai,ar) pG 0 (aC mB)).2.2=true:=by rw [hb];exact S5 b
 have uQ:FS (aY (aj,ak,an,ao,ah,aq,ai,ar) pG 0 (aC mB)).1 (aY (aj,ak,an,ao,ah,aq,ai,ar) pG 0 (aC mB)).2.1:=by rw [hb];exact af5 b
 have ajs:bf.ok pG:=(wP b).ok
 have hw1:(aY (aj,ak,an,ao,ah,aq,ai,ar) pG 0 (aC mB)).1.wg 10:=(ny hw0 ajs (ZC1 _) (by decide)).1.mono (by omega)
 refine⟨⟨⟨⟨aa,aa,aa,aa,aa,aa,aa,aa,aa⟩,aa⟩,?_,?_⟩,fun x1 w2=>⟨fun w3=>?_,fun w4=>⟨⟨⟨⟨aa,aa,aa,aa,aa,aa,aa,aa,aa⟩,aa⟩,?_,?_,?_,?_,?_⟩,fun x5 w6=>⟨⟨⟨⟨aa,aa,aa,aa,aa,aa,aa,aa,aa⟩,⟨aa,aa,aa,aa,aa,aa,aa,aa⟩,aa,⟨aa,aa,aa,aa,aa,aa,aa,aa,aa,aa,aa⟩,aa⟩,⟨?_,?_,?_,?_,?_⟩,?_,?_,?_,?_⟩,fun x7 w8=>⟨fun w9=>?_,fun dq=>⟨[.s 5,.b 1005],[.s 26],rfl,[.s 6,.b 1006],[.s 27],rfl,[.s 2,.s 26,.b 1002],[.b 1002],rfl,[.s 3,.s 27,.b 1003],[.b 1003],rfl,[],[.s 4],rfl,?_⟩⟩⟩⟩⟩⟩
 all_goals first|refine aw ?_|refine ax ?_|exact ba|(dsimp only [sR,rk];omega)|(dsimp only [jF,p8];omega)|(dsimp only [v7,tn];omega)|exact a8|exact hsm.1|exact hsm.2.1|exact hsm.2.2.1|exact hsm.2.2.2.1|exact hsm.2.2.2.2|exact lB|exact ajs|skip
 ·exact absurd (hst.symm.trans (rm w3)) (by decide)
 ·exact absurd (JB.symm.trans (rm w9)) (by decide)
 ·refine⟨[160000,160001,160002,1000190000,1000190001],[],_,_,_,rfl,ch,((aY (aj,ak,an,ao,ah,aq,ai,ar) pG 0 (aC mB)).1,(aY (aj,ak,an,ao,ah,aq,ai,ar) pG 0 (aC mB)).2.1),⟨uQ,hw1⟩,rfl,rfl,rfl⟩
end GL
namespace GL
def aeF:ByteArray:=⟨#[104,101,108,108,111,32,104,101,108,108,111,32,104,101,108,108,111]⟩
def qx:List Opr:=[(2,⟨#[47,97]⟩,⟨#[]⟩,0,⟨#[]⟩),(1,⟨#[47,98]⟩,⟨#[]⟩,0,⟨#[]⟩),(1,⟨#[47,97,47,98]⟩,⟨#[]⟩,0,⟨#[]⟩),(3,⟨#[47,98]⟩,⟨#[]⟩,0,aeF),(2,⟨#[47,97,47,99]⟩,⟨#[]⟩,0,⟨#[]⟩),(3,⟨#[47,97,47,98]⟩,⟨#[]⟩,30,aeF)]
def lR:Prop:=True
def s7:AV:=.s (.xs 0 5 0 qx.length)
def vt:List AV:=[.rs EZ qx]
def kU:Con where
 A:=[]
 B:=[]
 pre:=fun x b=>lR
 α:=fun _ _=>Unit
 φ:=fun _ _ _=>True
 r:=fun x b _=>s7
 o:=fun x b _=>vt
 nf:=1
set_option maxRecDepth 100000 in
theorem yM:Has Tryz.prog 41 kU:=by
 refine Has.ofE (fun _=>true) (fun _=>false) (fun _=>false) (l:=[]) trivial (fn:=Tryz.f41) Tryz.func41 rfl (by decide) (aZ rfl) ?_
 rintro _ _ (hp:lR)
 show vc _ _ _ _ (entry [] []) _
 refine⟨aa,?_⟩
 all_goals first|refine aw ?_|refine ax ?_|exact ba|exact a8|skip
 refine⟨[1007],[],_,_,_,rfl,az,(),aa,?_,?_,rfl⟩
 ·(show _=s7);unfold s7;first|rfl
 ·(show _=vt);unfold vt;first|rfl
end GL
namespace GL
theorem FS.gk {s:ay}{t:bf}{n:Nat}(h:FS s t) (hw:s.wg n) (hn:n≤900000):s.gk where
 n:=h.fi.acc.wf.n
 len:=ZB1 hw.g (by omega)
 ok:=fun p hp=>n0 (h.fi.acc.ok p (by simp [hp])).1
 ck:=by have:=h.fi.acc.ck;omega
theorem FS.S2 {s:ay}{t:bf}{n:Nat}(h:FS s t) (hw:s.wg n) (hn:n≤900000):FS (ik s) t∧(ik s).wg (n+1):=
 ⟨h.next (by have:=hw.t;omega),S3 h.fi.acc hw hn⟩
theorem HW {o:Opr}(h:ZO o=true):0≤o.2.2.2.1∧o.2.2.2.1≤192∧o.2.2.2.2.size≤24:=by
 unfold ZO SR at h
 cases h1: !(iC o.1 1 7)||(!(gb o.2.1)||((SQ o&& !(gb o.2.2.1))||(!(SQ o)&&decide (o.2.2.1≠⟨#[]⟩)))) with
 |true=>rw [h1] at h;cases h
 |false=>
  rw [h1,cond_false] at h
  cases h2:(decide (o.1≠3)&&decide (o.2.2.2.2≠⟨#[]⟩))||decide ((o.2.2.2.2.size:Int)>24) with
  |true=>rw [h2] at h;cases h
  |false=>
   rw [h2,cond_false] at h
   have h3:=aA (ZD7.1 h2).2
   rcases Bool.or_eq_true_iff.1 h with h |h
   ·have:=aE h;omega
   ·have:=cz.1 (Bool.and_eq_true_iff.1 h).2;omega
theorem UG:∀k:Nat,(nth EZ qx k).2.1.size≤1000∧(nth EZ qx k).2.2.1.size≤1000∧0≤(nth EZ qx k).2.2.2.1∧(nth EZ qx k).2.2.2.1≤192∧(nth EZ qx k).2.2.2.2.size≤1000
 |0 |1 |2 |3 |4 |5=>by decide
 |k+6=>by rw [tD (ek:=EZ) (by show 6≤k+6;omega)];decide
def lS (r:List Int×Int):Prop:=FD r 900000
def OR (r:List Int×Int) (z:ay×bf×Int):Prop:=FS z.1 z.2.1∧z.1.wg 10000∧r.2≤z.2.2∧z.2.2≤r.2+20000
def OG (r:List Int×Int) (z:ay×bf×Int):AV:=.t [.a (k9 1 2 3 4 5 z.1),trA z.2.1]
def SD (r:List Int×Int) (z:ay×bf×Int):List AV:=[.a [.vw kL r.1,.int z.2.2],.rs ab z.1.rows,.rs ag z.1.refs,.rs ag z.1.last,.rs ae z.1.gone,.rs ae z.1.dead]
def kV:Con where
 A:=[.b 0]
 B:=[.a [.vw kL,.int]]
 pre:=fun x b=>lS b
 α:=fun _ _=>ay×bf×Int
 φ:=fun x b z=>OR b z
 r:=fun x b z=>OG b z
 o:=fun x b z=>SD b z
 nf:=5
set_option maxRecDepth 100000 in
theorem yN:Has Tryz.prog 15 kV:=by
 refine Has.ofE (fun _=>true) (fun _=>false) (fun _=>false) (l:=[(16,bb),(40,kZ),(39,k7),(41,kU),(42,ui),(43,uc),(44,zh),(20,ib)]) ⟨dh,yR,yS,yM,PS,PL,XS,sG,trivial⟩ (fn:=Tryz.f15) Tryz.func15 rfl (by decide) (aZ rfl) ?_
 rintro _ ⟨(rb:List Int),(rp:Int)⟩ (hp:lS (rb,rp))
 show vc _ _ _ _ (entry [.s (.bp 0 0)] [.a [.vw kL rb,.int rp]]) _
 have hr:FD (rb,rp) 900000:=hp
 have hp0:0≤rp:=hr.p0
 have hp1:rp≤900000:=hr.p1
 refine⟨⟨⟨aa,aa,aa⟩,?_,?_⟩,fun x1 w2=>⟨⟨⟨aa,aa⟩,aa⟩,fun x3 w4=>⟨⟨⟨⟨⟨?_,?_⟩,⟨?_,?_⟩,⟨?_,?_⟩,aa,⟨?_,?_⟩,aa,⟨?_,?_⟩,aa,aa⟩,aa⟩,?_⟩,fun x5 w6=>⟨⟨aa,aa⟩,fun x7 w8=>⟨⟨?_,?_⟩,⟨⟨aa,aa,aa⟩,?_,?_⟩,fun x9 dq=>?_⟩⟩⟩⟩⟩
 all_goals first|refine aw ?_|refine ax ?_|exact ba|(dsimp only [bb,cn];omega)|(dsimp only [kZ,lW];omega)|(dsimp only [k7,lY];omega)|(dsimp only [kU,lR];omega)|(dsimp only [ui,sn];omega)|(dsimp only [uc,sj];omega)|(dsimp only [zh,vr];omega)|(dsimp only [ib,jm];omega)|exact a8|exact hr.at (show 0≤rp by omega) (show rp≤_ by omega)|exact⟨⟨_,rfl⟩⟩|(show ((6:Nat):Int)+1≤imax;decide)|(show ((6:Nat):Int)+1≤1000000;decide)|exact hr.at (show 0≤x1.2 by have e:x1.2=rp+1:=w2.2;omega) (show x1.2≤_ by have e:x1.2=rp+1:=w2.2;omega)|skip
 have e1:x1.2=rp+1:=w2.2
 have e5:x9.2=x1.2+1:=dq.2
 have hk:0≤x9.1∧x9.1<7:=pk (n:=7) (by decide) dq
 have hF0:FS x5.1 x5.2:=w6.1
 have hW0:x5.1.wg 10:=w6.2
 refine cO (l:=[(16,bb),(40,kZ),(39,k7),(41,kU),(42,ui),(43,uc),(44,zh),(20,ib)]) (ex:=fun _=>true) (wr:=fun _=>false) (pt:=fun _=>false) ⟨dh,yR,yS,yM,PS,PL,XS,sG,trivial⟩ [.s 0,.b 0,.s 2,.s 3,.b 1002,.b 1003,.s 4,.s 5,.s 7,.b 210000] (fun y:ay×bf×Int=>[(.s 8,.int y.2.2),(.b 1004,.a (k9 1000000001 1000000002 1000000003 1000000004 1000000005 y.1)),(.b 1005,.a [.int y.2.1.1,.int y.2.1.2.1,.int y.2.1.2.2.1,.int y.2.1.2.2.2.1,.int y.2.1.2.2.2.2.1,.int y.2.1.2.2.2.2.2.1,.int y.2.1.2.2.2.2.2.2]),(.b 1000000001,.rs ab y.1.rows),(.b 1000000002,.rs ag y.1.refs),(.b 1000000003,.rs ag y.1.last),(.b 1000000004,.rs ae y.1.gone),(.b 1000000005,.rs ae y.1.dead)]) (fun y=>FS y.1 y.2.1∧y.1.wg (10+300*(6-y.2.2).toNat)∧0≤y.2.2∧y.2.2≤6) (fun y=>y.2.2.toNat) (x5.1,x5.2,x9.1) [(1000000001,170000),(1000000002,170001),(1000000003,170002),(1000000004,170003),(1000000005,170004)] ⟨hF0,hW0.mono (by omega),hk.1,by have:=hk.2;show x9.1≤6;omega⟩ dN ?_
 rintro⟨u,tt,k⟩ ⟨(hF:FS u tt),(hW:u.wg (10+300*(6-k).toNat)),(hk0:0≤k),(hk6:k≤6)⟩
 have hop:=UG (6-k).toNat
 refine⟨fun w1=>⟨[.s 4,.b 1004],[.s 31],rfl,[.s 5,.b 1005],[.s 32],rfl,[.s 7],[.s 33],rfl,[.s 7],[.s 34],rfl,[.s 34],[.s 35],rfl,[.s 8],[.s 36],rfl,[.s 35,.s 36],[.s 37],rfl,⟨?_,?_⟩,[.s 33,.s 37],[.s 38],rfl,⟨?_,?_⟩,[.s 38,.b 210000],[.s 39],rfl,?_,[.s 31,.s 32,.s 39,.b 1000000001,.b 1000000002,.b 1000000003,.b 1000000004,.b 1000000005,.b 1000410004,.b 1000410003,.b 1000410002,.b 1000410001,.b 1000410000],[.s 40,.b 1000000001,.b 1000000002,.b 1000000003,.b 1000000004,.b 1000000005,.b 1000410000,.b 1000410001,.b 1000410002,.b 1000410003,.b 1000410004],rfl,⟨⟨⟨aa,aa,aa,aa,aa,aa,aa,aa,aa⟩,⟨aa,aa,aa,aa,aa,aa,aa,aa⟩,⟨aa,aa,aa,aa,aa,aa⟩,aa⟩,⟨?_,?_,?_,?_,?_⟩,?_,?_,?_,?_,?_,?_,?_⟩,?_,fun x2 w3=>⟨[.s 40],[.s 30],rfl,[.s 30],[.s 41],rfl,[.s 30],[.s 42],rfl,[.s 30],[.s 43],rfl,[.s 4,.s 41,.b 1004],[.b 1004],rfl,[.s 5,.s 42,.b 1005],[.b 1005],rfl,⟨?_,?_⟩,?_⟩⟩,fun w4=>⟨⟨⟨aa,aa,aa⟩,?_,?_⟩,fun x5 w6=>?_⟩⟩
 all_goals first|refine aw ?_|refine ax ?_|exact ba|(dsimp only [bb,cn];omega)|(dsimp only [kZ,lW];omega)|(dsimp only [k7,lY];omega)|(dsimp only [kU,lR];omega)|(dsimp only [ui,sn];omega)|(dsimp only [uc,sj];omega)|(dsimp only [zh,vr];omega)|(dsimp only [ib,jm];omega)|exact a8|exact hF|exact hW.mono (by omega)|exact hop.1|exact hop.2.1|exact hop.2.2.1|exact hop.2.2.2.1|exact hop.2.2.2.2|exact hr.at (show 0≤x9.2 by omega) (show x9.2≤_ by omega)|exact⟨(u,tt,0),hF,fun n h=>h.mono (by omega)⟩|(show gO≤((6:Nat):Int)-k;unfold gO;omega)|(show ((6:Nat):Int)-k≤imax;unfold imax;omega)|(show 0≤((6:Nat):Int)-k;omega)|(show ((6:Nat):Int)-k<((6:Nat):Int);have h:=aE (p:=k>0) w1;omega)|(show (((6:Nat):Int)-k).toNat<6;have h:=aE (p:=k>0) w1;omega)|skip
 ·have E8:0<k:=aE (p:=k>0) w1
  have hG:FS x2.1 x2.2.1:=w3.1
  have hV:x2.1.wg (10+300*(6-k).toNat+300):=w3.2 _ hW
  refine⟨(x2.1,x2.2.1,k-1),[(1000000001,1000410000),(1000000002,1000410001),(1000000003,1000410002),(1000000004,1000410003),(1000000005,1000410004)],?_,?_,?_⟩
  rotate_right
  ·exact bX
  ·exact⟨hG,hV.mono (by show 10+300*(6-k).toNat+300≤10+300*(6-(k-1)).toNat;omega),by show 0≤k-1;omega,by show k-1≤6;omega⟩
  ·show (k-1).toNat<k.toNat;omega
 ·have E8:¬k>0:=aA (p:=k>0) w4
  have e9:x5.2=x9.2+1:=w6.2
  have hm:0≤x5.1∧x5.1<12:=pk (n:=12) (by decide) w6
  refine cO (l:=[(16,bb),(40,kZ),(39,k7),(41,kU),(42,ui),(43,uc),(44,zh),(20,ib)]) (ex:=fun _=>true) (wr:=fun _=>false) (pt:=fun _=>false) ⟨dh,yR,yS,yM,PS,PL,XS,sG,trivial⟩ [.s 0,.s 2,.s 3,.b 1002,.b 1003,.s 4,.s 5] (fun y:ay×bf×Int×Int=>[(.b 0,.a [.vw kL rb,.int y.2.2.2]),(.s 9,.int y.2.2.1),(.b 1004,.a (k9 1000000001 1000000002 1000000003 1000000004 1000000005 y.1)),(.b 1005,.a [.int y.2.1.1,.int y.2.1.2.1,.int y.2.1.2.2.1,.int y.2.1.2.2.2.1,.int y.2.1.2.2.2.2.1,.int y.2.1.2.2.2.2.2.1,.int y.2.1.2.2.2.2.2.2]),(.b 1000000001,.rs ab y.1.rows),(.b 1000000002,.rs ag y.1.refs),(.b 1000000003,.rs ag y.1.last),(.b 1000000004,.rs ae y.1.gone),(.b 1000000005,.rs ae y.1.dead)]) (fun y=>FS y.1 y.2.1∧y.1.wg (2000+301*(11-y.2.2.1).toNat)∧(0≤y.2.2.1∧y.2.2.1≤11)∧rp≤y.2.2.2∧y.2.2.2≤rp+3+1021*(11-y.2.2.1)) (fun y=>y.2.2.1.toNat) (u,tt,x5.1,x5.2) [] ⟨hF,hW.mono (by omega),⟨hm.1,by have:=hm.2;show x5.1≤11;omega⟩,by show rp≤x5.2;omega,by have:=hm.2;show x5.2≤rp+3+1021*(11-x5.1);omega⟩ dN ?_
  rintro⟨u,tt,k,q⟩ ⟨(hF:FS u tt),(hW:u.wg (2000+301*(11-k).toNat)),⟨(hk0:0≤k),(hk3:k≤11)⟩,(hq0:rp≤q),(hq1:q≤rp+3+1021*(11-k))⟩
  refine⟨fun w1=>⟨⟨⟨aa,aa⟩,?_⟩,fun x2 w3=>⟨⟨⟨⟨aa,aa,aa,aa,aa,aa⟩,aa⟩,?_,?_⟩,fun x4 w5=>⟨fun w6=>⟨⟨⟨⟨aa,aa,aa,aa,aa,aa,aa,aa,aa⟩,⟨aa,aa,aa,aa,aa,aa,aa,aa⟩,⟨aa,aa,aa,aa,aa,aa⟩,aa⟩,⟨?_,?_,?_,?_,?_⟩,?_,?_,?_,?_,?_,?_,?_⟩,fun x7 w8=>⟨⟨⟨aa,aa,aa⟩,?_,?_⟩,fun x9 dq=>⟨fun kk=>⟨⟨⟨⟨aa,aa,aa,aa,aa,aa,aa,aa,aa⟩,aa⟩,⟨?_,?_,?_,?_,?_⟩,?_⟩,fun x12 iJ=>⟨⟨?_,?_⟩,?_⟩⟩,fun gI=>⟨⟨?_,?_⟩,?_⟩⟩⟩⟩,fun pe=>⟨⟨⟨aa,aa,aa⟩,?_,?_⟩,fun x16 wC=>⟨fun qX=>⟨⟨⟨⟨aa,aa,aa,aa,aa,aa,aa,aa,aa⟩,aa⟩,⟨?_,?_,?_,?_,?_⟩,?_⟩,fun x19 uw=>⟨⟨?_,?_⟩,?_⟩⟩,fun zm=>⟨⟨?_,?_⟩,?_⟩⟩⟩⟩⟩⟩,fun zl=>⟨[.s 4,.b 1004],[.s 67],rfl,[.s 5,.b 1005],[.s 68],rfl,[.s 2,.s 67,.b 1002],[.b 1002],rfl,[.s 3,.s 68,.b 1003],[.b 1003],rfl,?_⟩⟩
  all_goals first|refine aw ?_|refine ax ?_|exact ba|(dsimp only [bb,cn];omega)|(dsimp only [kZ,lW];omega)|(dsimp only [k7,lY];omega)|(dsimp only [kU,lR];omega)|(dsimp only [ui,sn];omega)|(dsimp only [uc,sj];omega)|(dsimp only [zh,vr];omega)|(dsimp only [ib,jm];omega)|exact a8|exact hr.at (show 0≤q by omega) (show q≤_ by omega)|exact hF|exact hW.mono (by omega)|exact⟨(u,tt,0),hF,fun n h=>h.mono (by omega)⟩|(show x2.1.2.1.size≤1000000;have h:x2.1.2.1.size≤30:=w3.1.1;omega)|(show x2.1.2.2.1.size≤1000000;have h:x2.1.2.2.1.size≤30:=w3.1.2.1;omega)|(show x2.1.2.1.size≤1000;have h:x2.1.2.1.size≤30:=w3.1.1;omega)|(show x2.1.2.2.1.size≤1000;have h:x2.1.2.2.1.size≤30:=w3.1.2.1;omega)|exact (HW w6).1|exact (HW w6).2.1|exact ZB1 (HW w6).2.2 (by decide)|exact hr.at (show 0≤x2.2 by have e:q≤x2.2∧x2.2≤q+1020:=w3.2;omega) (show x2.2≤_ by have e:q≤x2.2∧x2.2≤q+1020:=w3.2;omega)|exact FS.gk (t:=x7.2.1) w8.1 (w8.2 _ hW) (by omega)|exact hF.gk hW (by omega)|skip
  ·have E8:0<k:=aE (p:=k>0) w1
   have e2:q≤x2.2∧x2.2≤q+1020:=w3.2
   have e9:x9.2=x2.2+1:=dq.2
   have hV:=FS.S2 (s:=x7.1) (t:=x7.2.1) w8.1 (w8.2 _ hW) (by omega)
   refine⟨(ik x7.1,x7.2.1,k-1,x9.2),[(1000000001,1000590000),(1000000002,1000590001),(1000000003,1000590002),(1000000004,670000),(1000000005,1000590004)],?_,?_,?_⟩
   rotate_right
   ·exact bX
   ·exact⟨hV.1,hV.2.mono (by show 2000+301*(11-k).toNat+300+1≤2000+301*(11-(k-1)).toNat;omega),⟨by show 0≤k-1;omega,by show k-1≤11;omega⟩,by show rp≤x9.2;omega,by show x9.2≤rp+3+1021*(11-(k-1));omega⟩
   ·show (k-1).toNat<k.toNat;omega
  ·have E8:0<k:=aE (p:=k>0) w1
   have e2:q≤x2.2∧x2.2≤q+1020:=w3.2
   have e9:x9.2=x2.2+1:=dq.2
   have hG:FS x7.1 x7.2.1:=w8.1
   have hV:x7.1.wg (2000+301*(11-k).toNat+300):=w8.2 _ hW
   refine⟨(x7.1,x7.2.1,k-1,x9.2),[(1000000001,1000590000),(1000000002,1000590001),(1000000003,1000590002),(1000000004,1000590003),(1000000005,1000590004)],?_,?_,?_⟩
   rotate_right
   ·exact bX
   ·exact⟨hG,hV.mono (by show 2000+301*(11-k).toNat+300≤2000+301*(11-(k-1)).toNat;omega),⟨by show 0≤k-1;omega,by show k-1≤11;omega⟩,by show rp≤x9.2;omega,by show x9.2≤rp+3+1021*(11-(k-1));omega⟩
   ·show (k-1).toNat<k.toNat;omega
  ·have E8:0<k:=aE (p:=k>0) w1
   have e2:q≤x2.2∧x2.2≤q+1020:=w3.2
   have e9:x16.2=x2.2+1:=wC.2
   have hV:=hF.S2 hW (by omega)
   refine⟨(ik u,tt,k-1,x16.2),[(1000000004,670000)],?_,?_,?_⟩
   rotate_right
   ·exact bX
   ·exact⟨hV.1,hV.2.mono (by show 2000+301*(11-k).toNat+1≤2000+301*(11-(k-1)).toNat;omega),⟨by show 0≤k-1;omega,by show k-1≤11;omega⟩,by show rp≤x16.2;omega,by show x16.2≤rp+3+1021*(11-(k-1));omega⟩
   ·show (k-1).toNat<k.toNat;omega
  ·have E8:0<k:=aE (p:=k>0) w1
   have e2:q≤x2.2∧x2.2≤q+1020:=w3.2
   have e9:x16.2=x2.2+1:=wC.2
   refine⟨(u,tt,k-1,x16.2),[],?_,?_,?_⟩
   rotate_right
   ·exact bX
   ·exact⟨hF,hW.mono (by show 2000+301*(11-k).toNat≤2000+301*(11-(k-1)).toNat;omega),⟨by show 0≤k-1;omega,by show k-1≤11;omega⟩,by show rp≤x16.2;omega,by show x16.2≤rp+3+1021*(11-(k-1));omega⟩
   ·show (k-1).toNat<k.toNat;omega
  ·refine⟨[1000000001,1000000002,1000000003,1000000004,1000000005],[],_,_,_,rfl,ch,(u,tt,q),⟨hF,hW.mono (by omega),hq0,by show q≤rp+20000;omega⟩,rfl,rfl,rfl⟩
end GL
end Go.Proofs.YtbfgjadbfjkcdaaGreatDoor
