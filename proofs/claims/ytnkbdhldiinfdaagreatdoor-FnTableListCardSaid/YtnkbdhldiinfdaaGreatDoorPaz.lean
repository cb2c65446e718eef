/- Part 26 of the proof of a drawn law. -/
import Derived.Test.YtnkbdhldiinfdaaGreatDoorPan
import Derived.Test.YtnkbdhldiinfdaaGreatDoorPap
import Derived.Test.YtnkbdhldiinfdaaGreatDoorPaq
import Derived.Test.YtnkbdhldiinfdaaGreatDoorPas
import Derived.Test.YtnkbdhldiinfdaaGreatDoorPat
import Derived.Test.YtnkbdhldiinfdaaGreatDoorPav
import Derived.Test.YtnkbdhldiinfdaaGreatDoorPay
set_option maxHeartbeats 20000000
set_option maxRecDepth 100000
set_option linter.all false
namespace Go.Proofs.YtnkbdhldiinfdaaGreatDoor
namespace GL
noncomputable section
section
variable {s:ay}{i:Nat}
theorem akx (hi:i<64) (h:decide (nth ag s.last i>s.cg)=true):iI s=false:=mC λk=>absurd (k.P9 i hi) (Int.not_le.2 (aJ h))
theorem ahf {p:Pt}(hp:p∈s.gone) (h:(!(aZ p))=true∨au p=true∨decide (p.2.1>s.cg-1)=true):iI s=false:=mC λk=>by
 obtain⟨h1,h2,h3⟩:=k.gone p hp
 rcases h with h |h |h
 ·rw [h1] at h;cases h
 ·rw [h2] at h;cases h
 ·have:=aJ h;omega
theorem ahg {p:Pt}(hp:p∈s.dead) (h:(!(aZ p))=true∨au p=true∨decide (p.2.1>s.bZ)=true):iI s=false:=mC λk=>by
 obtain⟨h1,h2,h3⟩:=k.dead p hp
 rcases h with h |h |h
 ·rw [h1] at h;cases h
 ·rw [h2] at h;cases h
 ·have:=aJ h;omega
theorem aiE {n r:Nat}(hr:r<64) (h:¬(bn ((s.gone++s.dead).take n) r:Int)≤qI s r):iI s=false:=mC λk=>h (by
 have h1:=k.bn r hr
 have h2:=PU (List.take_sublist n (s.gone++s.dead)) r
 rw [bI] at h2
 omega)
end
theorem acD {rf la:List Int}(h:rC (rf,la)=true) {r:Nat}(hr:r<64):(0:Int)≤nth ag rf r:=by
 cases h1:decide ((rf.length:Int)≠64) with
 |true=>rw [N1 (p:=(rf,la)) h1] at h;cases h
 |false=>
  cases h2:decide ((la.length:Int)≠64) with
  |true=>rw [N0 (p:=(rf,la)) h2] at h;cases h
  |false=>
   rw [U1 (p:=(rf,la)) h1 h2] at h
   have:=aeH h hr
   exact (aJ this).1.1
def gdP (s:ay) (j:Nat):Pt:=bif Nat.blt j s.gone.length then nth ae s.gone j else nth ae s.dead (j-s.gone.length)
def gdT (s:ay) (j:Nat):Int:=bif Nat.blt j s.gone.length then s.cg-1 else s.bZ
def gdB (s:ay) (j:Nat):Bool:=aZ (gdP s j)&&(!(au (gdP s j))&& !(decide ((gdP s j).2.1>gdT s j)))
theorem aeu {s:ay}{j:Nat}(h:gdB s j=true):aZ (gdP s j)=true∧au (gdP s j)=false∧(gdP s j).2.1≤gdT s j:=by
 unfold gdB at h
 simpa only [ZA9,ZF8,decide_eq_false_iff_not,ZH1] using h
theorem alq {s:ay}{i:Nat}(hi:i<s.gone.length) (h:(!(aZ (nth ae s.gone i)))=false) (h2:au (nth ae s.gone i)=false) (h3:decide ((nth ae s.gone i).2.1>s.cg-1)=false):gdB s i=true:=by
 have hb:Nat.blt i s.gone.length=true:=Nat.ble_eq_true_of_le hi
 unfold gdB gdP gdT;rw [hb];show (aZ (nth ae s.gone i)&&(!(au (nth ae s.gone i))&& !(decide ((nth ae s.gone i).2.1>s.cg-1))))=true
 rw [cL h,h2,h3];rfl
theorem alp {s:ay}{i k:Nat}(hi:¬i<s.gone.length) (hk:k=i-s.gone.length) (h:(!(aZ (nth ae s.dead k)))=false) (h2:au (nth ae s.dead k)=false) (h3:decide ((nth ae s.dead k).2.1>s.bZ)=false):gdB s i=true:=by
 have hb:Nat.blt i s.gone.length=false:=by
  cases hbb:Nat.blt i s.gone.length with
  |false=>rfl
  |true=>exact absurd (zqNlb hbb) hi
 subst hk
 unfold gdB gdP gdT;rw [hb];show (aZ (nth ae s.dead (i-s.gone.length))&&(!(au (nth ae s.dead (i-s.gone.length)))&& !(decide ((nth ae s.dead (i-s.gone.length)).2.1>s.bZ))))=true
 rw [cL h,h2,h3];rfl
theorem z8 {l:List Pt}{i:Nat}{z:List Int}{q:Pt}(hz:z.length=64) (hc:∀r,(nth ag z r:Int)=(bn (l.take i) r:Int)) (hi:i<l.length) (hq:nth ae l i=q) (ho:aZ q=true) (hh:au q=false):∀r,(nth ag (z.set q.1.toNat (nth ag z q.1.toNat+1:Int)) r:Int)=(bn (l.take (i+1)) r:Int):=λr=>by
 rw [NV hi,hq,bI]
 have hk:q.1.toNat<z.length:=by rw [hz];exact sr ho
 by_cases e:q.1.toNat=r
 ·subst e
  rw [nu (ek:=ag) hk,hc,rM hh];rfl
 ·rw [ix (ek:=ag) e,hc,yU e];rfl
theorem ae7 {l:List Pt}{i:Nat}{q:Pt}{f:Nat→Int}(hi:i<l.length) (hq:nth ae l i=q) (h:∀r,r<64→(bn (l.take i) r:Int)≤f r) (h2:(bn (l.take (i+1)) q.1.toNat:Int)≤f q.1.toNat):∀r,r<64→(bn (l.take (i+1)) r:Int)≤f r:=λr hr=>by
 by_cases e:q.1.toNat=r
 ·rw [←e];exact h2
 ·rw [NV hi,hq,bI,yU e];exact h r hr
def q9 (S:ay):Prop:=S.gone.length≤1000000∧S.dead.length≤1000000
def bD (S:ay):AV:=.s (.q (iI S))
def WI (S:ay):List AV:=[]
def sM:cn where
 A:=[.a xv]
 B:=[]
 pre:=λx b=>q9 x
 r:=λx b _=>bD x
 o:=λx b _=>WI x
theorem MI:Has Tryz.prog 45 sM:=by
 refine Has.fm zT zF zF (l:=[(79,nc),(35,hZ),(80,cX),(81,cx)]) ⟨CS,iA,iB,cz,aa⟩ Tryz.func45 ?_
 rintro⟨(aj:List ByteArray),(ak:List Int),(an:List Int),(ao:Int),(ah:List Pt),(aq:Int),(ai:List Pt),(ar:Bool)⟩ _ (hp:q9 (aj,ak,an,ao,ah,aq,ai,ar))
 show vc _ _ _ _ (entry [.a [.vz ab aj,.vz ag ak,.vz ag an,.int ao,.vz ae ah,.int aq,.vz ae ai,.q ar]] []) _
 let g':=(aj,ak,an,ao,ah,aq,ai,ar)
 obtain⟨(hg:ah.length≤1000000),(hd:ai.length≤1000000)⟩:=hp
 have hla:(!(rC (ak,an)))=false→ak.length=64∧an.length=64:=λh=>QQ (cL h)
 have hxt:(!(ik ao 1 900))=false→1≤ao∧ao≤900:=λh=>cC.1 (cL h)
 have hxk:(!(ik aq 0 (ao-1)))=false→0≤aq∧aq≤ao-1:=λh=>cC.1 (cL h)
 refine⟨aa,λw1=>?_,λw2=>⟨⟨⟨tv3,aa⟩,aa⟩,λx3 w4=>⟨aa,λw5=>?_,λw6=>⟨⟨tv4,aa⟩,λx7 w8=>⟨aa,λw9=>?_,λdy=>⟨⟨?_,?_⟩,⟨tv4,aa⟩,λkz dJ=>⟨λiU=>?_,λgO=>?_⟩⟩⟩⟩⟩⟩⟩
 all_goals first|refine aw ?_|refine ax ?_|exact a8|(dsimp only [nc,nO,cX,dZ];omega)|exact a7|(show (-9223372036854775808:Int)≤ao-1;have:=hxt dy;omega)|(show ao-1≤(9223372036854775807:Int);have:=hxt dy;omega)|skip
 ·refine⟨[],[],_,_,_,ζ,az,(),aa,?_,?_,ζ⟩
  ·(show _=bD g');unfold bD;first|(rw [aiI (s:=g') w1];rfl)|rfl
  ·rfl
 ·refine⟨[],[],_,_,_,ζ,az,(),aa,?_,?_,ζ⟩
  ·(show _=bD g');unfold bD;first|(rw [aiH (s:=g') w5];rfl)|rfl
  ·rfl
 ·refine⟨[],[],_,_,_,ζ,az,(),aa,?_,?_,ζ⟩
  ·(show _=bD g');unfold bD;first|(rw [aiG (s:=g') w9];rfl)|rfl
  ·rfl
 ·refine⟨[],[],_,_,_,ζ,az,(),aa,?_,?_,ζ⟩
  ·(show _=bD g');unfold bD;first|(rw [aiF (s:=g') iU];rfl)|rfl
  ·rfl
 have hlen:aj.length=64:=by have:=aA w2;omega
 have hrl:=hla w6
 have hsp:rC (ak,an)=true:=cL w6
 have htx:=hxt dy
 have hkp:=hxk gO
 have hz0:∀r,nth ag (List.replicate (Int.toNat 64) (EK.zero ag)) r=(0:Int):=λr=>uN _ r
 refine cN (l:=[(79,nc),(35,hZ),(80,cX),(81,cx)]) (ex:=zT) (wr:=zF) (pt:=zF) ⟨CS,iA,iB,cz,trivial⟩ [.s 1,.b 1001] (λi:Nat=>[(.s 3,.int i)]) (λi=>i≤64∧∀j,j<i→BC g' j=true∧nth ag an j≤ao) (λi=>64-i) 0 [] ⟨ZA7 _,λj hj=>absurd hj (by omega)⟩ dM ?_
 rintro i ⟨(hi:i≤64),hj⟩
 have cm:decide ((i:Int)<64)=true→i<64:=λh=>by have:=aJ h;omega
 refine⟨λw1=>⟨Sq1,Sq37,ζ,[.s 37,.b 1001],Sq38,ζ,Sq3,Sq39,ζ,[.s 38,.s 39],Sq40,ζ,⟨?_,?_⟩,Sq40,Sq41,ζ,Sq41,Sq42,ζ,Sq42,Sq43,ζ,Sq43,Sq44,ζ,aa,λw2=>⟨Sq44,Sq45,ζ,Sq44,Sq46,ζ,Sq44,Sq47,ζ,Sq44,Sq48,ζ,Sq44,Sq49,ζ,Sq44,Sq50,ζ,Sq44,Sq51,ζ,Sq44,Sq52,ζ,Sq44,Sq53,ζ,Sq44,Sq54,ζ,Sq44,Sq55,ζ,Sq44,Sq56,ζ,Sq44,Sq57,ζ,Sq44,Sq58,ζ,[.s 44,.s 58],Sq59,ζ,Sq59,Sq60,ζ,Sq60,Sq61,ζ,Sq60,Sq62,ζ,Sq60,Sq63,ζ,Sq60,Sq64,ζ,Sq60,Sq65,ζ,Sq60,Sq66,ζ,Sq60,Sq67,ζ,Sq60,Sq68,ζ,Sq60,Sq69,ζ,[.s 60,.s 69],Sq70,ζ,?_⟩,λw3=>⟨[.s 44,.s 1],Sq45,ζ,[.s 44,.s 45,.b 1001],Sq46,ζ,[.s 44,.s 3],Sq47,ζ,[.s 44,.s 46,.s 47],Sq48,ζ,⟨?_,?_⟩,[.s 44,.s 48],Sq49,ζ,[.s 44,.s 49],Sq50,ζ,[.s 44,.s 1],Sq51,ζ,[.s 44,.s 51],Sq52,ζ,[.s 44,.s 52,.b 1001],Sq53,ζ,[.s 44,.s 3],Sq54,ζ,[.s 44,.s 53,.s 54],Sq55,ζ,⟨?_,?_⟩,[.s 44,.s 55],Sq56,ζ,[.s 44,.s 56],Sq57,ζ,[.s 44,.s 50,.s 57],Sq58,ζ,[.s 44,.s 58],Sq59,ζ,Sq59,Sq60,ζ,aa,λw4=>⟨Sq60,Sq61,ζ,Sq60,Sq62,ζ,Sq60,Sq63,ζ,Sq60,Sq64,ζ,Sq60,Sq65,ζ,Sq60,Sq66,ζ,Sq60,Sq67,ζ,Sq60,Sq68,ζ,Sq60,Sq69,ζ,[.s 60,.s 69],Sq70,ζ,?_⟩,λw5=>⟨[.s 60,.s 1],Sq61,ζ,[.s 60,.s 61],Sq62,ζ,[.s 60,.s 62,.b 1001],Sq63,ζ,[.s 60,.s 3],Sq64,ζ,[.s 60,.s 63,.s 64],Sq65,ζ,⟨?_,?_⟩,[.s 60,.s 65],Sq66,ζ,[.s 60,.s 1],Sq67,ζ,[.s 60,.s 67,.b 1001],Sq68,ζ,[.s 60,.s 66,.s 68],Sq69,ζ,[.s 60,.s 69],Sq70,ζ,λw6=>?_,λw7=>⟨⟨?_,?_⟩,?_⟩⟩⟩⟩,λw8=>⟨⟨?_,?_,?_⟩,?_⟩⟩
 all_goals first|refine aw ?_|refine ax ?_|exact a8|(dsimp only [nc,nO,cX,dZ];omega)|exact a7|(show (i:Int)<(ak.length:Int);rw [hrl.1];exact Int.ofNat_lt.2 (cm w1))|(show (i:Int)<(aj.length:Int);rw [hlen];exact Int.ofNat_lt.2 (cm w1))|(show (i:Int)<(an.length:Int);rw [hrl.2];exact Int.ofNat_lt.2 (cm w1))|skip
 ·refine⟨[],[],_,_,_,ζ,az,(),aa,?_,?_,ζ⟩
  ·(show _=bD g');unfold bD;first|(rw [afA (s:=g') (cm w1) (acG (s:=g') w2)];rfl)|rfl
  ·rfl
 ·refine⟨[],[],_,_,_,ζ,az,(),aa,?_,?_,ζ⟩
  ·(show _=bD g');unfold bD;first|(rw [afA (s:=g') (cm w1) (acF (s:=g') w4)];rfl)|rfl
  ·rfl
 ·refine⟨[],[],_,_,_,ζ,az,(),aa,?_,?_,ζ⟩
  ·(show _=bD g');unfold bD;first|(rw [akx (s:=g') (cm w1) w6];rfl)|rfl
  ·rfl
 ·refine⟨(i+1),[],?_,?_,?_⟩
  rotate_right
  ·exact bV
  ·refine⟨cm w1,λj yK=>?_⟩
   by_cases e:j=i
   ·rw [e];exact⟨acE (s:=g') w3 w5,ZH1.1 (aA w7)⟩
   ·exact hj j (by omega)
  ·show 64-(i+1)<64-i;have:=cm w1;omega
 have abR:∀j,j<64→BC g' j=true∧nth ag an j≤ao:=λj yK=>hj j (by have:=aA w8;omega)
 clear hj cm hi
 refine cN (l:=[(79,nc),(35,hZ),(80,cX),(81,cx)]) (ex:=zT) (wr:=zF) (pt:=zF) ⟨CS,iA,iB,cz,trivial⟩ [.s 1,.b 1001,.s 4] (λy:Nat×List Int=>[(.s 5,.int y.1),(.b 1071,.rs ag y.2)]) (λy=>y.1≤ah.length+ai.length∧y.2.length=64∧(∀r,(nth ag y.2 r:Int)=(bn ((ah++ai).take y.1) r:Int))∧(∀r,r<64→(bn ((ah++ai).take y.1) r:Int)≤qI g' r)∧∀j,j<y.1→gdB g' j=true) (λy=>ah.length+ai.length-y.1) (0,List.replicate (Int.toNat 64) (EK.zero ag)) [] ⟨ZA7 _,rfl,hz0,λr hr=>(acD hsp hr),λj hj=>absurd hj (by omega)⟩ dM ?_
 rintro⟨i,z⟩ ⟨(hi:i≤ah.length+ai.length),(hz:z.length=64),(hc:∀r,(nth ag z r:Int)=(bn ((ah++ai).take i) r:Int)),hle,hgd⟩
 have abU:decide ((i:Int)<(ah.length:Int)+(ai.length:Int))=true→i<(ah++ai).length:=λh=>by rw [ZA0];have:=aJ h;omega
 have bU:decide ((i:Int)<(ah.length:Int)+(ai.length:Int))=true→i+1≤ah.length+ai.length:=λh=>by have:=aJ h;omega
 have aeg:decide ((i:Int)<(ah.length:Int))=true→i<ah.length:=λh=>by have:=aJ h;omega
 have hqG:decide ((i:Int)<(ah.length:Int))=true→nth ae (ah++ai) i=nth ae ah i:=λh=>by
  unfold nth;rw [ZC2 (aeg h)]
 have af3:decide ((i:Int)<(ah.length:Int))=false→((i:Int)-(ah.length:Int)).toNat=i-ah.length:=λh=>by have:=aA h;omega
 have hqD:decide ((i:Int)<(ah.length:Int))=false→nth ae (ah++ai) i=nth ae ai ((i:Int)-(ah.length:Int)).toNat:=λh=>by
  rw [af3 h];have:=aA h
  exact ZE (l:=ah) (m:=ai) (by omega)
 have hmD:decide ((i:Int)<(ah.length:Int))=false→decide ((i:Int)<(ah.length:Int)+(ai.length:Int))=true→nth ae ai ((i:Int)-(ah.length:Int)).toNat∈ai:=λh h2=>by
  have:=aA h;have:=aJ h2
  exact bR (ek:=ae) (by omega)
 have hz1:∀k,(-9223372036854775808:Int)≤(nth ag z k+1:Int):=λk=>by rw [hc k];omega
 have hz2:∀k,(nth ag z k+1:Int)≤(9223372036854775807:Int):=λk=>by
  rw [hc k]
  have:bn ((ah++ai).take i) k≤((ah++ai).take i).length:=List.countP_le_length
  rw [ZB9,ZA0] at this
  have h3:bn ((ah++ai).take i) k≤2000000:=by omega
  exact ZE0 (Int.add_le_add_right (Int.ofNat_le.2 h3) 1) (by decide)
 have h64:(List.replicate (Int.toNat 64) (EK.zero ag)).length=64:=rfl
 refine⟨⟨?_,?_⟩,λw1=>⟨⟨?_,?_⟩,λw2=>⟨⟨?_,?_⟩,⟨⟨tv6,aa⟩,aa⟩,λx3 w4=>⟨aa,λw5=>?_,λw6=>⟨⟨⟨tv6,aa⟩,aa⟩,λx7 w8=>⟨aa,λw9=>?_,λdy=>⟨λkA=>?_,λdJ=>⟨Sq4,Sq121,ζ,Sq7,Sq122,ζ,[.s 122,.b 1007],Sq123,ζ,Sq4,Sq124,ζ,Sq7,Sq125,ζ,[.s 125,.b 1007],Sq126,ζ,[.s 124,.s 126],Sq127,ζ,⟨?_,?_⟩,[.s 127,.b 1071],Sq128,ζ,?_,Sq128,Sq129,ζ,⟨?_,?_⟩,[.s 121,.s 123],Sq130,ζ,⟨?_,?_⟩,[.s 130,.s 129,.b 1071],[.b 1071],ζ,?_,Sq4,Sq131,ζ,Sq7,Sq132,ζ,[.s 132,.b 1007],Sq133,ζ,[.s 131,.s 133],Sq134,ζ,⟨?_,?_⟩,[.s 134,.b 1071],Sq135,ζ,?_,Sq1,Sq136,ζ,Sq136,Sq137,ζ,[.s 137,.b 1001],Sq138,ζ,Sq7,Sq139,ζ,[.s 139,.b 1007],Sq140,ζ,[.s 138,.s 140],Sq141,ζ,⟨?_,?_⟩,Sq141,Sq142,ζ,[.s 135,.s 142],Sq143,ζ,λiU=>?_,λgO=>⟨⟨?_,?_⟩,?_⟩⟩⟩⟩⟩⟩⟩,λqK=>⟨⟨?_,?_⟩,⟨?_,?_⟩,⟨⟨tv6,aa⟩,aa⟩,λx16 xh=>⟨aa,λrS=>?_,λoL=>⟨⟨⟨tv6,aa⟩,aa⟩,λx20 A4=>⟨aa,λA3=>?_,λxK=>⟨λrR=>?_,λw25=>⟨Sq4,Sq121,ζ,Sq7,Sq122,ζ,[.s 122,.b 1007],Sq123,ζ,Sq4,Sq124,ζ,Sq7,Sq125,ζ,[.s 125,.b 1007],Sq126,ζ,[.s 124,.s 126],Sq127,ζ,⟨?_,?_⟩,[.s 127,.b 1071],Sq128,ζ,?_,Sq128,Sq129,ζ,⟨?_,?_⟩,[.s 121,.s 123],Sq130,ζ,⟨?_,?_⟩,[.s 130,.s 129,.b 1071],[.b 1071],ζ,?_,Sq4,Sq131,ζ,Sq7,Sq132,ζ,[.s 132,.b 1007],Sq133,ζ,[.s 131,.s 133],Sq134,ζ,⟨?_,?_⟩,[.s 134,.b 1071],Sq135,ζ,?_,Sq1,Sq136,ζ,Sq136,Sq137,ζ,[.s 137,.b 1001],Sq138,ζ,Sq7,Sq139,ζ,[.s 139,.b 1007],Sq140,ζ,[.s 138,.s 140],Sq141,ζ,⟨?_,?_⟩,Sq141,Sq142,ζ,[.s 135,.s 142],Sq143,ζ,λw26=>?_,λw27=>⟨⟨?_,?_⟩,?_⟩⟩⟩⟩⟩⟩⟩⟩,λw28=>?_⟩
 all_goals first|refine aw ?_|refine ax ?_|exact a8|(dsimp only [nc,nO,cX,dZ];omega)|exact a7|(show (i:Int)-(ah.length:Int)<(ai.length:Int);have:=aJ w1;omega)|(show (0:Int)≤(i:Int)-(ah.length:Int);have:=aA qK;omega)|exact (nT (cL w6)).1|exact (nT (cL oL)).1|exact (nT (cL w6)).2|exact (nT (cL oL)).2|(show _<(ak.length:Int);rw [hrl.1];exact (nT (cL w6)).2)|(show _<(ak.length:Int);rw [hrl.1];exact (nT (cL oL)).2)|exact hz1 _|exact hz2 _|(show (nth ae ah i).1.toNat<z.length;rw [hz];exact sr (cL w6))|(show (nth ae ai ((i:Int)-(ah.length:Int)).toNat).1.toNat<z.length;rw [hz];exact sr (cL oL))|(show (nth ae ah i).1.toNat<(List.set _ _ _).length;rw [ZC3,hz];exact sr (cL w6))|(show (nth ae ai ((i:Int)-(ah.length:Int)).toNat).1.toNat<(List.set _ _ _).length;rw [ZC3,hz];exact sr (cL oL))|skip
 ·refine⟨[],[],_,_,_,ζ,az,(),aa,?_,?_,ζ⟩
  ·(show _=bD g');unfold bD;first|(rw [ahf (s:=g') (bR (ek:=ae) (aeg w2)) (.inl w5)];rfl)|rfl
  ·rfl
 ·refine⟨[],[],_,_,_,ζ,az,(),aa,?_,?_,ζ⟩
  ·(show _=bD g');unfold bD;first|(rw [ahf (s:=g') (bR (ek:=ae) (aeg w2)) (.inr (.inl w9))];rfl)|rfl
  ·rfl
 ·refine⟨[],[],_,_,_,ζ,az,(),aa,?_,?_,ζ⟩
  ·(show _=bD g');unfold bD;first|(rw [ahf (s:=g') (bR (ek:=ae) (aeg w2)) (.inr (.inr kA))];rfl)|rfl
  ·rfl
 ·have mq:=z8 hz hc (abU w1) (hqG w2) (cL w6) dy
  refine⟨[],[],_,_,_,ζ,az,(),aa,?_,?_,ζ⟩
  ·(show _=bD g');unfold bD;first|(rw [aiE (s:=g') (n:=i+1) (sr (cL w6)) (λh=>by rw [←mq] at h;exact absurd h (Int.not_le.2 (aJ iU)))];rfl)|rfl
  ·rfl
 ·have mq:=z8 hz hc (abU w1) (hqG w2) (cL w6) dy
  refine⟨(i+1,z.set (nth ae ah i).1.toNat (nth ag z (nth ae ah i).1.toNat+1:Int)),[],?_,?_,?_⟩
  rotate_right
  ·exact bV
  ·refine⟨bU w1,by show (List.set _ _ _).length=64;rw [ZC3,hz],mq,?_,?_⟩
   ·exact ae7 (abU w1) (hqG w2) hle (by rw [←mq];exact ZH1.1 (aA gO))
   ·intro j yK
    by_cases e:j=i
    ·rw [e];exact alq (s:=g') (aeg w2) w6 dy dJ
    ·exact hgd j (by have:j<i+1:=yK;omega)
  ·show ah.length+ai.length-(i+1)<ah.length+ai.length-i;have:=bU w1;omega
 ·refine⟨[],[],_,_,_,ζ,az,(),aa,?_,?_,ζ⟩
  ·(show _=bD g');unfold bD;first|(rw [ahg (s:=g') (hmD qK w1) (.inl rS)];rfl)|rfl
  ·rfl
 ·refine⟨[],[],_,_,_,ζ,az,(),aa,?_,?_,ζ⟩
  ·(show _=bD g');unfold bD;first|(rw [ahg (s:=g') (hmD qK w1) (.inr (.inl A3))];rfl)|rfl
  ·rfl
 ·refine⟨[],[],_,_,_,ζ,az,(),aa,?_,?_,ζ⟩
  ·(show _=bD g');unfold bD;first|(rw [ahg (s:=g') (hmD qK w1) (.inr (.inr rR))];rfl)|rfl
  ·rfl
 ·have mq:=z8 hz hc (abU w1) (hqD qK) (cL oL) xK
  refine⟨[],[],_,_,_,ζ,az,(),aa,?_,?_,ζ⟩
  ·(show _=bD g');unfold bD;first|(rw [aiE (s:=g') (n:=i+1) (sr (cL oL)) (λh=>by rw [←mq] at h;exact absurd h (Int.not_le.2 (aJ w26)))];rfl)|rfl
  ·rfl
 ·have mq:=z8 hz hc (abU w1) (hqD qK) (cL oL) xK
  refine⟨(i+1,z.set (nth ae ai ((i:Int)-(ah.length:Int)).toNat).1.toNat (nth ag z (nth ae ai ((i:Int)-(ah.length:Int)).toNat).1.toNat+1:Int)),[],?_,?_,?_⟩
  rotate_right
  ·exact bV
  ·refine⟨bU w1,by show (List.set _ _ _).length=64;rw [ZC3,hz],mq,?_,?_⟩
   ·exact ae7 (abU w1) (hqD qK) hle (by rw [←mq];exact ZH1.1 (aA w27))
   ·intro j yK
    by_cases e:j=i
    ·rw [e];exact alp (s:=g') (by have:=aA qK;show¬i<ah.length;omega) (af3 qK) oL xK w25
    ·exact hgd j (by have:j<i+1:=yK;omega)
  ·show ah.length+ai.length-(i+1)<ah.length+ai.length-i;have:=bU w1;omega
 ·have hE:i=ah.length+ai.length:=by have:=aA (p:=(i:Int)<(ah.length:Int)+(ai.length:Int)) w28;omega
  have e:iI g'=true:=U0
   {len:=hlen,sp:=hsp,cg:=htx,bZ:=hkp,P9:=λj yK=>(abR j yK).2,row:=λj yK=>GP.1 (abR j yK).1
    gone:=λp hp=>by
     obtain⟨j,hj,rfl⟩:=List.getElem_of_mem hp
     have hj:j<ah.length:=hj
     have:=aeu (hgd j (by omega))
     rw [show gdP g' j=ah[j] by unfold gdP;rw [show Nat.blt j (ay.gone g').length=true from Nat.ble_eq_true_of_le hj];unfold nth;rw [cond_true];rw [show (ay.gone g')[j]?=some ah[j] from ZB1 hj],show gdT g' j=ao-1 by unfold gdT;rw [show Nat.blt j (ay.gone g').length=true from Nat.ble_eq_true_of_le hj];rfl] at this
     exact this
    dead:=λp hp=>by
     obtain⟨j,hj,rfl⟩:=List.getElem_of_mem hp
     have hj:j<ai.length:=hj
     have:=aeu (hgd (ah.length+j) (by omega))
     have hb:Nat.blt (ah.length+j) (ay.gone g').length=false:=by
      cases hbb:Nat.blt (ah.length+j) (ay.gone g').length with
      |false=>rfl
      |true=>have:ah.length+j<ah.length:=zqNlb hbb;omega
     rw [show gdP g' (ah.length+j)=ai[j] by unfold gdP;rw [hb,cond_false];rw [show ah.length+j-(ay.gone g').length=j from ZG4 ..];unfold nth;rw [show (ay.dead g')[j]?=some ai[j] from ZB1 hj],show gdT g' (ah.length+j)=aq by unfold gdT;rw [hb];rfl] at this
     exact this
    bn:=λr hr=>by
     have:=hle r hr
     rw [ZD1 (by rw [ZA0];omega),bI] at this
     exact this }
  refine⟨[],[],_,_,_,ζ,az,(),aa,?_,?_,ζ⟩
  ·(show _=bD g');unfold bD;first|(rw [e];rfl)|rfl
  ·rfl
end
end GL
namespace GL
def mu:fu:=(2,1,0,0,0,0,0,0,0,0)
def pC:bf:=(0,0,0,0,0,0,0)
theorem abC (b:Bool):aB (kc b) pC=cu 16:=by
 have e:bA (kc b) pC=([bM],true):=vt (f:=2) (lv:=0) (l:=[bM]) rfl
 unfold aB;rw [e];rfl
theorem wH (b:Bool):Tree (kc b) pC 0 where
 rz:=⟨rfl,by decide,⟨rfl,λh=>by cases h⟩⟩
 m0:=ZC1 _
 m1:=by decide
 dm:=rfl
 tail:=λi _=>by rw [abC,CE];rfl
theorem SN (b:Bool) (k:Nat):getM (kc b) pC k=⟨#[]⟩:=mW (wH b) (j:=k) (Int.natCast_nonneg k)
theorem HU (b:Bool) (r:Nat):qI (kc b) r=0:=uN 64 r
theorem adx (b:Bool) (E:Nat→Bool) (r:Nat):gG (kc b) pC E r=0:=by
 have h:∀k,(bif E k then 0 else bn (dz (kc b) (nodeAt (kc b) pC k)) r)=0:=λk=>by
  rw [jT (SN b k)];cases E k<;>rfl
 unfold gG
 have hs:∀l:List Nat,(l.map λk=>bif E k then 0 else bn (dz (kc b) (nodeAt (kc b) pC k)) r).sum=0:=λl=>by
  induction l with
  |nil=>rfl
  |cons x l ih=>rw [ZE7,List.sum_cons,ih,h x]
 exact hs _
theorem ZG (b:Bool):FI (kc b) pC (rQ E0 0) (λr=>O0 r+bn (dz (kc b) mu) r) where
 tree:=wH b
 nodes:=λk _ _=>.inl (SN b k)
 acc:=
  {wf:=⟨⟨rfl,rfl,rfl⟩,λx hx=>by rw [(ZD6.1 hx).2];exact ZA7 _⟩
   up:=λr=>by rw [HU];decide
   cg:=⟨ZC1 _,show (1:Int)≤1000000 by decide⟩
   sl:=λr=>by
    rw [HU,adx,show bn (dz (kc b) mu) r=0 from l9 rfl r,show bn (di (kc b) pC) r=0 from l9 rfl r]
    exact ZC1 _
   ok:=λp hp=>by cases hp }
theorem SM (b:Bool):(aY (kc b) pC 0 (aC mu)).2.2=true:=by cases b<;>decide+kernel
theorem acH:cy mu=true:=by decide
theorem afN (b:Bool):FS (aY (kc b) pC 0 (aC mu)).1 (aY (kc b) pC 0 (aC mu)).2.1:=by
 obtain⟨h1,h2⟩:=(ZG b).Y1 (i:=0) (n:=mu) (O:=O0) (by decide) (by decide) (λh=>⟨h,wH b⟩) (SM b)
 have e:vQ (rQ E0 0) 0=E0:=by
  funext k
  unfold vQ rQ
  cases decide (k=0)<;>rfl
 rw [e] at h1
 refine⟨h1,?_⟩
 have h3:bz (getM (aY (kc b) pC 0 (aC mu)).1 (aY (kc b) pC 0 (aC mu)).2.1 0)=(mu,true):=(congrArg bz h2.at_).trans (tB acH)
 show (bz (getM (aY (kc b) pC 0 (aC mu)).1 (aY (kc b) pC 0 (aC mu)).2.1 0)).1.1=2
 rw [h3];rfl
end GL
namespace GL
theorem afM (b:Bool):iI (kc b)=true:=U0
 {len:=rfl
  sp:=show rC (List.replicate 64 0,List.replicate 64 0)=true by decide+kernel
  cg:=⟨ZC1 _,show (1:Int)≤900 by decide⟩
  bZ:=⟨ZC1 _,ZC1 _⟩
  P9:=λi _=>by rw [show nth ag (kc b).last i=(0:Int) from uN 64 i];exact (show (0:Int)≤1 by decide)
  row:=λi _=>by
   have e:nth ab (kc b).rows i=⟨#[]⟩:=by
    by_cases h:i<(kc b).rows.length
    ·exact (ZD6.1 (bR (ek:=ab) h)).2
    ·exact tz (ek:=ab) (by omega)
   rw [e,show nth ag (kc b).refs i=(0:Int) from uN 64 i]
   exact⟨ZA7 _,rfl⟩
  gone:=λp hp=>by cases hp
  dead:=λp hp=>by cases hp
  bn:=λr _=>by rw [HU];exact ZC1 _ }
structure aj6 (s:ay):Prop where
 ex:∃b,s=kc b
def lQ (S:ay):Prop:=aj6 S
def OH (S:ay) (z:ay×bf):Prop:=FS z.1 z.2∧z.1.wg 10
def N6 (S:ay) (z:ay×bf):AV:=.t [.a (kW 0 1 2 3 4 z.1),trA z.2,.s (.q true)]
def R9 (S:ay) (z:ay×bf):List AV:=[.rs ab z.1.rows,.rs ag z.1.refs,.rs ag z.1.last,.rs ae z.1.gone,.rs ae z.1.dead]
def kU:cn where
 A:=[.a xv]
 B:=[]
 pre:=λx b=>lQ x
 α:=λ_ _=>ay×bf
 φ:=λx b z=>OH x z
 r:=λx b z=>N6 x z
 o:=λx b z=>R9 x z
 nf:=5
theorem yI:Has Tryz.prog 87 kU:=by
 refine Has.fm zT zF zF (l:=[(45,sM),(99,jD),(77,vT)]) ⟨MI,IH,TB,aa⟩ Tryz.func87 ?_
 rintro⟨(aj:List ByteArray),(ak:List Int),(an:List Int),(ao:Int),(ah:List Pt),(aq:Int),(ai:List Pt),(ar:Bool)⟩ _ (hp:lQ (aj,ak,an,ao,ah,aq,ai,ar))
 show vc _ _ _ _ (entry [.a [.vz ab aj,.vz ag ak,.vz ag an,.int ao,.vz ae ah,.int aq,.vz ae ai,.q ar]] []) _
 obtain⟨b,hb⟩:=hp.ex
 have hst:iI (aj,ak,an,ao,ah,aq,ai,ar)=true:=by rw [hb];exact afM b
 have hsm:ay.small (aj,ak,an,ao,ah,aq,ai,ar):=by rw [hb];exact⟨show 64≤1000000 by decide,show 64≤1000000 by decide,show 64≤1000000 by decide,ZA7 _,ZA7 _⟩
 have hw0:ay.wg (aj,ak,an,ao,ah,aq,ai,ar) 0:=by rw [hb];exact⟨(ZG b).acc.wf,ZB5 _,ZB5 _,show (1:Int)≤1000 by decide⟩
 have ll:ay.wg (aj,ak,an,ao,ah,aq,ai,ar) 1046000:=hw0.mono (ZA7 _)
 have I1:(aY (aj,ak,an,ao,ah,aq,ai,ar) pC 0 (aC mu)).2.2=true:=by rw [hb];exact SM b
 have uL:FS (aY (aj,ak,an,ao,ah,aq,ai,ar) pC 0 (aC mu)).1 (aY (aj,ak,an,ao,ah,aq,ai,ar) pC 0 (aC mu)).2.1:=by rw [hb];exact afN b
 have aja:bf.ok pC:=(wH b).ok
 have hw1:(aY (aj,ak,an,ao,ah,aq,ai,ar) pC 0 (aC mu)).1.wg 10:=(nq hw0 aja (ZC1 _) (by decide)).1.mono (by omega)
 refine⟨⟨⟨tv9,aa⟩,?_,?_⟩,λx1 w2=>⟨λw3=>?_,λw4=>⟨⟨⟨tv9,aa⟩,?_,?_,?_,?_,?_⟩,λx5 w6=>⟨⟨⟨tv9,tv8,aa,tv11,aa⟩,⟨?_,?_,?_,?_,?_⟩,?_,?_,?_,?_⟩,λx7 w8=>⟨λw9=>?_,λdy=>⟨[.s 5,.b 1005],Sq26,ζ,[.s 6,.b 1006],Sq27,ζ,[.s 2,.s 26,.b 1002],[.b 1002],ζ,[.s 3,.s 27,.b 1003],[.b 1003],ζ,[],Sq4,ζ,?_⟩⟩⟩⟩⟩⟩
 all_goals first|refine aw ?_|refine ax ?_|exact a8|(dsimp only [sM,q9,jD,pX,vT,tj,gP];omega)|exact a7|exact hsm.1|exact hsm.2.1|exact hsm.2.2.1|exact hsm.2.2.2.1|exact hsm.2.2.2.2|exact ll|exact aja|skip
 ·exact absurd (hst.symm.trans (uv w3)) (by decide)
 ·exact absurd (I1.symm.trans (uv w9)) (by decide)
 ·refine⟨[160000,160001,160002,1000190000,1000190001],[],_,_,_,ζ,cf,((aY (aj,ak,an,ao,ah,aq,ai,ar) pC 0 (aC mu)).1,(aY (aj,ak,an,ao,ah,aq,ai,ar) pC 0 (aC mu)).2.1),⟨uL,hw1⟩,ζ,ζ,ζ⟩
end GL
namespace GL
def ael:ByteArray:=⟨#[104,101,108,108,111,32,104,101,108,108,111,32,104,101,108,108,111]⟩
def qs:List Opr:=[(2,⟨#[47,97]⟩,⟨#[]⟩,0,⟨#[]⟩),(1,⟨#[47,98]⟩,⟨#[]⟩,0,⟨#[]⟩),(1,⟨#[47,97,47,98]⟩,⟨#[]⟩,0,⟨#[]⟩),(3,⟨#[47,98]⟩,⟨#[]⟩,0,ael),(2,⟨#[47,97,47,99]⟩,⟨#[]⟩,0,⟨#[]⟩),(3,⟨#[47,97,47,98]⟩,⟨#[]⟩,30,ael)]
def lK:Prop:=True
def sZ:AV:=.s (.xs 0 5 0 qs.length)
def vk:List AV:=[.rs EN qs]
def kO:cn where
 A:=[]
 B:=[]
 pre:=λx b=>lK
 r:=λx b _=>sZ
 o:=λx b _=>vk
 nf:=1
theorem yC:Has Tryz.prog 89 kO:=by
 refine Has.fm zT zF zF (l:=[]) trivial Tryz.func89 ?_
 rintro _ _ (hp:lK)
 show vc _ _ _ _ (entry [] []) _
 refine⟨aa,?_⟩
 all_goals first|refine aw ?_|refine ax ?_|exact a8|exact a7|skip
 refine⟨[1007],[],_,_,_,ζ,az,(),aa,?_,?_,ζ⟩
 ·(show _=sZ);unfold sZ;first|rfl
 ·(show _=vk);unfold vk;first|rfl
end GL
namespace GL
theorem FS.gk {s:ay}{t:bf}{n:Nat}(h:FS s t) (hw:s.wg n) (hn:n≤900000):s.gk where
 n:=h.fi.acc.wf.n
 len:=ZB0 hw.g (by omega)
 ok:=λp hp=>nT (h.fi.acc.ok p (by simp [hp])).1
 cg:=by have:=h.fi.acc.cg;omega
theorem FS.SJ {s:ay}{t:bf}{n:Nat}(h:FS s t) (hw:s.wg n) (hn:n≤900000):FS (ij s) t∧(ij s).wg (n+1):=
 ⟨h.next (by have:=hw.t;omega),SK h.fi.acc hw hn⟩
theorem HL {o:Opr}(h:Y6 o=true):0≤o.2.2.2.1∧o.2.2.2.1≤192∧o.2.2.2.2.size≤24:=by
 unfold Y6 SB at h
 cases h1: !(ik o.1 1 7)||(!(gb o.2.1)||((SA o&& !(gb o.2.2.1))||(!(SA o)&&decide (o.2.2.1≠⟨#[]⟩)))) with
 |true=>rw [h1] at h;cases h
 |false=>
  rw [h1,cond_false] at h
  cases h2:(decide (o.1≠3)&&decide (o.2.2.2.2≠⟨#[]⟩))||decide ((o.2.2.2.2.size:Int)>24) with
  |true=>rw [h2] at h;cases h
  |false=>
   rw [h2,cond_false] at h
   have h3:=aA (ZE1.1 h2).2
   rcases Bool.or_eq_true_iff.1 h with h |h
   ·have:=aJ h;omega
   ·have:=cC.1 (Bool.and_eq_true_iff.1 h).2;omega
theorem TZ:∀k:Nat,(nth EN qs k).2.1.size≤1000∧(nth EN qs k).2.2.1.size≤1000∧0≤(nth EN qs k).2.2.2.1∧(nth EN qs k).2.2.2.1≤192∧(nth EN qs k).2.2.2.2.size≤1000
 |0 |1 |2 |3 |4 |5=>by decide
 |k+6=>by rw [tz (ek:=EN) (by show 6≤k+6;omega)];decide
def lL (r:List Int×Int):Prop:=Rdr r 900000
def OG (r:List Int×Int) (z:ay×bf×Int):Prop:=FS z.1 z.2.1∧z.1.wg 10000∧r.2≤z.2.2∧z.2.2≤r.2+20000
def N5 (r:List Int×Int) (z:ay×bf×Int):AV:=.t [.a (kW 1 2 3 4 5 z.1),trA z.2.1]
def RY (r:List Int×Int) (z:ay×bf×Int):List AV:=[.a [.vw mf r.1,.int z.2.2],.rs ab z.1.rows,.rs ag z.1.refs,.rs ag z.1.last,.rs ae z.1.gone,.rs ae z.1.dead]
def kP:cn where
 A:=[.b 0]
 B:=[.a [.vw mf,.int]]
 pre:=λx b=>lL b
 α:=λ_ _=>ay×bf×Int
 φ:=λx b z=>OG b z
 r:=λx b z=>N5 b z
 o:=λx b z=>RY b z
 nf:=5
theorem yD:Has Tryz.prog 57 kP:=by
 refine Has.fm zT zF zF (l:=[(58,ba),(88,kT),(87,kU),(89,kO),(90,ue),(91,tY),(92,y7),(62,gZ)]) ⟨dh,yH,yI,yC,PF,O9,XC,sB,aa⟩ Tryz.func57 ?_
 rintro _ ⟨(rb:List Int),(rp:Int)⟩ (hp:lL (rb,rp))
 show vc _ _ _ _ (entry [.s (.bp 0 0)] [.a [.vw mf rb,.int rp]]) _
 have hr:Rdr (rb,rp) 900000:=hp
 have hp0:0≤rp:=hr.p0
 have hp1:rp≤900000:=hr.p1
 refine⟨⟨tv3,?_,?_⟩,λx1 w2=>⟨⟨tv2,aa⟩,λx3 w4=>⟨⟨⟨⟨⟨?_,?_⟩,⟨?_,?_⟩,⟨?_,?_⟩,aa,⟨?_,?_⟩,aa,⟨?_,?_⟩,tv2⟩,aa⟩,?_⟩,λx5 w6=>⟨tv2,λx7 w8=>⟨⟨?_,?_⟩,⟨tv3,?_,?_⟩,λx9 dy=>?_⟩⟩⟩⟩⟩
 all_goals first|refine aw ?_|refine ax ?_|exact a8|(dsimp only [ba,ck,kT,lP,kU,lQ,kO,lK,ue,se,tY,sc,y7,vj,gZ,jk,gP];omega)|exact a7|exact hr.at (show 0≤rp by omega) (show rp≤_ by omega)|exact⟨⟨_,rfl⟩⟩|(show ((6:Nat):Int)+1≤imax;decide)|(show ((6:Nat):Int)+1≤1000000;decide)|exact hr.at (show 0≤x1.2 by have e:x1.2=rp+1:=w2.2;omega) (show x1.2≤_ by have e:x1.2=rp+1:=w2.2;omega)|skip
 have e1:x1.2=rp+1:=w2.2
 have e5:x9.2=x1.2+1:=dy.2
 have hk:0≤x9.1∧x9.1<7:=pk (n:=7) (by decide) dy
 have hF0:FS x5.1 x5.2:=w6.1
 have hW0:x5.1.wg 10:=w6.2
 refine cN (l:=[(58,ba),(88,kT),(87,kU),(89,kO),(90,ue),(91,tY),(92,y7),(62,gZ)]) (ex:=zT) (wr:=zF) (pt:=zF) ⟨dh,yH,yI,yC,PF,O9,XC,sB,trivial⟩ [.s 0,.b 0,.s 2,.s 3,.b 1002,.b 1003,.s 4,.s 5,.s 7,.b 210000] (λy:ay×bf×Int=>[(.s 8,.int y.2.2),(.b 1004,.a (kW 1000000001 1000000002 1000000003 1000000004 1000000005 y.1)),(.b 1005,.a [.int y.2.1.1,.int y.2.1.2.1,.int y.2.1.2.2.1,.int y.2.1.2.2.2.1,.int y.2.1.2.2.2.2.1,.int y.2.1.2.2.2.2.2.1,.int y.2.1.2.2.2.2.2.2]),(.b 1000000001,.rs ab y.1.rows),(.b 1000000002,.rs ag y.1.refs),(.b 1000000003,.rs ag y.1.last),(.b 1000000004,.rs ae y.1.gone),(.b 1000000005,.rs ae y.1.dead)]) (λy=>FS y.1 y.2.1∧y.1.wg (10+300*(6-y.2.2).toNat)∧0≤y.2.2∧y.2.2≤6) (λy=>y.2.2.toNat) (x5.1,x5.2,x9.1) [(1000000001,170000),(1000000002,170001),(1000000003,170002),(1000000004,170003),(1000000005,170004)] ⟨hF0,hW0.mono (by omega),hk.1,by have:=hk.2;show x9.1≤6;omega⟩ dM ?_
 rintro⟨u,tt,k⟩ ⟨(hF:FS u tt),(hW:u.wg (10+300*(6-k).toNat)),(hk0:0≤k),(hk6:k≤6)⟩
 have hop:=TZ (6-k).toNat
 refine⟨λw1=>⟨[.s 4,.b 1004],Sq31,ζ,[.s 5,.b 1005],Sq32,ζ,Sq7,Sq33,ζ,Sq7,Sq34,ζ,Sq34,Sq35,ζ,Sq8,Sq36,ζ,[.s 35,.s 36],Sq37,ζ,⟨?_,?_⟩,[.s 33,.s 37],Sq38,ζ,⟨?_,?_⟩,[.s 38,.b 210000],Sq39,ζ,?_,[.s 31,.s 32,.s 39,.b 1000000001,.b 1000000002,.b 1000000003,.b 1000000004,.b 1000000005,.b 1000410004,.b 1000410003,.b 1000410002,.b 1000410001,.b 1000410000],[.s 40,.b 1000000001,.b 1000000002,.b 1000000003,.b 1000000004,.b 1000000005,.b 1000410000,.b 1000410001,.b 1000410002,.b 1000410003,.b 1000410004],ζ,⟨⟨tv9,tv8,tv6,aa⟩,⟨?_,?_,?_,?_,?_⟩,?_,?_,?_,?_,?_,?_,?_⟩,?_,λx2 w3=>⟨Sq40,Sq30,ζ,Sq30,Sq41,ζ,Sq30,Sq42,ζ,Sq30,Sq43,ζ,[.s 4,.s 41,.b 1004],[.b 1004],ζ,[.s 5,.s 42,.b 1005],[.b 1005],ζ,⟨?_,?_⟩,?_⟩⟩,λw4=>⟨⟨tv3,?_,?_⟩,λx5 w6=>?_⟩⟩
 all_goals first|refine aw ?_|refine ax ?_|exact a8|(dsimp only [ba,ck,kT,lP,kU,lQ,kO,lK,ue,se,tY,sc,y7,vj,gZ,jk,gP];omega)|exact a7|exact hF|exact hW.mono (by omega)|exact hop.1|exact hop.2.1|exact hop.2.2.1|exact hop.2.2.2.1|exact hop.2.2.2.2|exact hr.at (show 0≤x9.2 by omega) (show x9.2≤_ by omega)|exact⟨(u,tt,0),hF,λn h=>h.mono (by omega)⟩|(show gK≤((6:Nat):Int)-k;unfold gK;omega)|(show ((6:Nat):Int)-k≤imax;unfold imax;omega)|(show 0≤((6:Nat):Int)-k;omega)|(show ((6:Nat):Int)-k<((6:Nat):Int);have h:=aJ (p:=k>0) w1;omega)|(show (((6:Nat):Int)-k).toNat<6;have h:=aJ (p:=k>0) w1;omega)|skip
 ·have EX:0<k:=aJ (p:=k>0) w1
  have hG:FS x2.1 x2.2.1:=w3.1
  have hV:x2.1.wg (10+300*(6-k).toNat+300):=w3.2 _ hW
  refine⟨(x2.1,x2.2.1,k-1),[(1000000001,1000410000),(1000000002,1000410001),(1000000003,1000410002),(1000000004,1000410003),(1000000005,1000410004)],?_,?_,?_⟩
  rotate_right
  ·exact bV
  ·exact⟨hG,hV.mono (by show 10+300*(6-k).toNat+300≤10+300*(6-(k-1)).toNat;omega),by show 0≤k-1;omega,by show k-1≤6;omega⟩
  ·show (k-1).toNat<k.toNat;omega
 ·have EX:¬k>0:=aA (p:=k>0) w4
  have e9:x5.2=x9.2+1:=w6.2
  have hm:0≤x5.1∧x5.1<12:=pk (n:=12) (by decide) w6
  refine cN (l:=[(58,ba),(88,kT),(87,kU),(89,kO),(90,ue),(91,tY),(92,y7),(62,gZ)]) (ex:=zT) (wr:=zF) (pt:=zF) ⟨dh,yH,yI,yC,PF,O9,XC,sB,trivial⟩ [.s 0,.s 2,.s 3,.b 1002,.b 1003,.s 4,.s 5] (λy:ay×bf×Int×Int=>[(.b 0,.a [.vw mf rb,.int y.2.2.2]),(.s 9,.int y.2.2.1),(.b 1004,.a (kW 1000000001 1000000002 1000000003 1000000004 1000000005 y.1)),(.b 1005,.a [.int y.2.1.1,.int y.2.1.2.1,.int y.2.1.2.2.1,.int y.2.1.2.2.2.1,.int y.2.1.2.2.2.2.1,.int y.2.1.2.2.2.2.2.1,.int y.2.1.2.2.2.2.2.2]),(.b 1000000001,.rs ab y.1.rows),(.b 1000000002,.rs ag y.1.refs),(.b 1000000003,.rs ag y.1.last),(.b 1000000004,.rs ae y.1.gone),(.b 1000000005,.rs ae y.1.dead)]) (λy=>FS y.1 y.2.1∧y.1.wg (2000+301*(11-y.2.2.1).toNat)∧(0≤y.2.2.1∧y.2.2.1≤11)∧rp≤y.2.2.2∧y.2.2.2≤rp+3+1021*(11-y.2.2.1)) (λy=>y.2.2.1.toNat) (u,tt,x5.1,x5.2) [] ⟨hF,hW.mono (by omega),⟨hm.1,by have:=hm.2;show x5.1≤11;omega⟩,by show rp≤x5.2;omega,by have:=hm.2;show x5.2≤rp+3+1021*(11-x5.1);omega⟩ dM ?_
  rintro⟨u,tt,k,q⟩ ⟨(hF:FS u tt),(hW:u.wg (2000+301*(11-k).toNat)),⟨(hk0:0≤k),(hk3:k≤11)⟩,(hq0:rp≤q),(hq1:q≤rp+3+1021*(11-k))⟩
  refine⟨λw1=>⟨⟨tv2,?_⟩,λx2 w3=>⟨⟨⟨tv6,aa⟩,?_,?_⟩,λx4 w5=>⟨λw6=>⟨⟨⟨tv9,tv8,tv6,aa⟩,⟨?_,?_,?_,?_,?_⟩,?_,?_,?_,?_,?_,?_,?_⟩,λx7 w8=>⟨⟨tv3,?_,?_⟩,λx9 dy=>⟨λkA=>⟨⟨⟨tv9,aa⟩,⟨?_,?_,?_,?_,?_⟩,?_⟩,λx12 iU=>⟨⟨?_,?_⟩,?_⟩⟩,λgO=>⟨⟨?_,?_⟩,?_⟩⟩⟩⟩,λqK=>⟨⟨tv3,?_,?_⟩,λx16 xh=>⟨λrS=>⟨⟨⟨tv9,aa⟩,⟨?_,?_,?_,?_,?_⟩,?_⟩,λx19 uI=>⟨⟨?_,?_⟩,?_⟩⟩,λA4=>⟨⟨?_,?_⟩,?_⟩⟩⟩⟩⟩⟩,λA3=>⟨[.s 4,.b 1004],Sq67,ζ,[.s 5,.b 1005],Sq68,ζ,[.s 2,.s 67,.b 1002],[.b 1002],ζ,[.s 3,.s 68,.b 1003],[.b 1003],ζ,?_⟩⟩
  all_goals first|refine aw ?_|refine ax ?_|exact a8|(dsimp only [ba,ck,kT,lP,kU,lQ,kO,lK,ue,se,tY,sc,y7,vj,gZ,jk,gP];omega)|exact a7|exact hr.at (show 0≤q by omega) (show q≤_ by omega)|exact hF|exact hW.mono (by omega)|exact⟨(u,tt,0),hF,λn h=>h.mono (by omega)⟩|(show x2.1.2.1.size≤1000000;have h:x2.1.2.1.size≤30:=w3.1.1;omega)|(show x2.1.2.2.1.size≤1000000;have h:x2.1.2.2.1.size≤30:=w3.1.2.1;omega)|(show x2.1.2.1.size≤1000;have h:x2.1.2.1.size≤30:=w3.1.1;omega)|(show x2.1.2.2.1.size≤1000;have h:x2.1.2.2.1.size≤30:=w3.1.2.1;omega)|exact (HL w6).1|exact (HL w6).2.1|exact ZB0 (HL w6).2.2 (by decide)|exact hr.at (show 0≤x2.2 by have e:q≤x2.2∧x2.2≤q+1020:=w3.2;omega) (show x2.2≤_ by have e:q≤x2.2∧x2.2≤q+1020:=w3.2;omega)|exact FS.gk (t:=x7.2.1) w8.1 (w8.2 _ hW) (by omega)|exact hF.gk hW (by omega)|skip
  ·have EX:0<k:=aJ (p:=k>0) w1
   have e2:q≤x2.2∧x2.2≤q+1020:=w3.2
   have e9:x9.2=x2.2+1:=dy.2
   have hV:=FS.SJ (s:=x7.1) (t:=x7.2.1) w8.1 (w8.2 _ hW) (by omega)
   refine⟨(ij x7.1,x7.2.1,k-1,x9.2),[(1000000001,1000590000),(1000000002,1000590001),(1000000003,1000590002),(1000000004,670000),(1000000005,1000590004)],?_,?_,?_⟩
   rotate_right
   ·exact bV
   ·exact⟨hV.1,hV.2.mono (by show 2000+301*(11-k).toNat+300+1≤2000+301*(11-(k-1)).toNat;omega),⟨by show 0≤k-1;omega,by show k-1≤11;omega⟩,by show rp≤x9.2;omega,by show x9.2≤rp+3+1021*(11-(k-1));omega⟩
   ·show (k-1).toNat<k.toNat;omega
  ·have EX:0<k:=aJ (p:=k>0) w1
   have e2:q≤x2.2∧x2.2≤q+1020:=w3.2
   have e9:x9.2=x2.2+1:=dy.2
   have hG:FS x7.1 x7.2.1:=w8.1
   have hV:x7.1.wg (2000+301*(11-k).toNat+300):=w8.2 _ hW
   refine⟨(x7.1,x7.2.1,k-1,x9.2),[(1000000001,1000590000),(1000000002,1000590001),(1000000003,1000590002),(1000000004,1000590003),(1000000005,1000590004)],?_,?_,?_⟩
   rotate_right
   ·exact bV
   ·exact⟨hG,hV.mono (by show 2000+301*(11-k).toNat+300≤2000+301*(11-(k-1)).toNat;omega),⟨by show 0≤k-1;omega,by show k-1≤11;omega⟩,by show rp≤x9.2;omega,by show x9.2≤rp+3+1021*(11-(k-1));omega⟩
   ·show (k-1).toNat<k.toNat;omega
  ·have EX:0<k:=aJ (p:=k>0) w1
   have e2:q≤x2.2∧x2.2≤q+1020:=w3.2
   have e9:x16.2=x2.2+1:=xh.2
   have hV:=hF.SJ hW (by omega)
   refine⟨(ij u,tt,k-1,x16.2),[(1000000004,670000)],?_,?_,?_⟩
   rotate_right
   ·exact bV
   ·exact⟨hV.1,hV.2.mono (by show 2000+301*(11-k).toNat+1≤2000+301*(11-(k-1)).toNat;omega),⟨by show 0≤k-1;omega,by show k-1≤11;omega⟩,by show rp≤x16.2;omega,by show x16.2≤rp+3+1021*(11-(k-1));omega⟩
   ·show (k-1).toNat<k.toNat;omega
  ·have EX:0<k:=aJ (p:=k>0) w1
   have e2:q≤x2.2∧x2.2≤q+1020:=w3.2
   have e9:x16.2=x2.2+1:=xh.2
   refine⟨(u,tt,k-1,x16.2),[],?_,?_,?_⟩
   rotate_right
   ·exact bV
   ·exact⟨hF,hW.mono (by show 2000+301*(11-k).toNat≤2000+301*(11-(k-1)).toNat;omega),⟨by show 0≤k-1;omega,by show k-1≤11;omega⟩,by show rp≤x16.2;omega,by show x16.2≤rp+3+1021*(11-(k-1));omega⟩
   ·show (k-1).toNat<k.toNat;omega
  ·refine⟨[1000000001,1000000002,1000000003,1000000004,1000000005],[],_,_,_,ζ,cf,(u,tt,q),⟨hF,hW.mono (by omega),hq0,by show q≤rp+20000;omega⟩,ζ,ζ,ζ⟩
