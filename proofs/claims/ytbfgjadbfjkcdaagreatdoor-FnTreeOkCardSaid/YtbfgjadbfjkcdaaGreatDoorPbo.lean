/- FnTreeOk returns true for every code (its row lists package variables, tied by the card): part 41. -/
import Derived.Test.YtbfgjadbfjkcdaaGreatDoorPbn
set_option maxHeartbeats 20000000
set_option linter.all false
namespace Go.Proofs.YtbfgjadbfjkcdaaGreatDoor
namespace GL
noncomputable section
structure KV (s:ay):Prop where
 len:s.rows.length=64
 sp:rK (s.refs,s.last)=true
 ck:1≤s.ck∧s.ck≤900
 bY:0≤s.bY∧s.bY≤s.ck-1
 QO:∀i,i<64→nth ag s.last i≤s.ck
 row:∀i,i<64→(nth ab s.rows i).size≤128∧decide (nth ab s.rows i=⟨#[]⟩)=decide (nth ag s.refs i=(0:Int))
 gone:∀p∈s.gone,a6 p=true∧au p=false∧p.2.1≤s.ck-1
 dead:∀p∈s.dead,a6 p=true∧au p=false∧p.2.1≤s.bY
 bq:∀r,r<64→((bq s.gone r+bq s.dead r:Nat):Int)≤qO s r
def gK (s:ay):Bool:= @decide (KV s) (Classical.propDecidable _)
theorem VG {s:ay}(h:KV s):gK s=true:=by unfold gK;exact @decide_eq_true _ (Classical.propDecidable _) h
theorem mI {s:ay}(h:¬KV s):gK s=false:=by unfold gK;exact @decide_eq_false _ (Classical.propDecidable _) h
theorem Q1 {s:ay}:gK s=true↔KV s:=by unfold gK;exact @decide_eq_true_iff _ (Classical.propDecidable _)
theorem Q6 {p:List Int×List Int}(h:rK p=true):p.1.length=64∧p.2.length=64:=by
 cases h1:decide ((p.1.length:Int)≠64) with
 |true=>rw [OC h1] at h;cases h
 |false=>
  cases h2:decide ((p.2.length:Int)≠64) with
  |true=>rw [OB h2] at h;cases h
  |false=>
   have:=aA (p:=¬(p.1.length:Int)=64) h1;have:=aA (p:=¬(p.2.length:Int)=64) h2
   omega
theorem adS:∀(l:List Int),0<l.length→∃z:Int,(∀j,j<l.length→nth ag l j≤z)∧∃j,j<l.length∧nth ag l j=z
 |[a],_=>⟨a,fun j hj=>by rw [show j=0 by simpa using hj];exact ZC1 _,0,by simp,rfl⟩
 |a::b::l,_=>by
  obtain⟨z,h1,k,h2,h3⟩:=adS (b::l) (by simp)
  by_cases e:a≤z
  ·refine⟨z,fun j hj=>?_,k+1,by simpa using h2,h3⟩
   cases j with
   |zero=>exact e
   |succ j=>exact h1 j (by simpa using hj)
  ·refine⟨a,fun j hj=>?_,0,by simp,rfl⟩
   cases j with
   |zero=>exact ZC1 _
   |succ j=>exact ZE1 (h1 j (by simpa using hj)) (by omega)
section
variable {s:ay}
theorem ai0 (h:decide ((s.rows.length:Int)≠64)=true):gK s=false:=mI fun k=>by have:=aE h;have:=k.len;omega
theorem aiZ (h:(!(rK (s.refs,s.last)))=true):gK s=false:=mI fun k=>by rw [k.sp] at h;cases h
theorem aiY (h:(!(iC s.ck 1 900))=true):gK s=false:=mI fun k=>by rw [cz.2 k.ck] at h;cases h
theorem aiX (h:(!(iC s.bY 0 (s.ck-1)))=true):gK s=false:=mI fun k=>by rw [cz.2 k.bY] at h;cases h
theorem akT {m:Int}(hl:s.last.length=64) (hx:∃j,j<s.last.length∧nth ag s.last j=m) (h:decide (m>s.ck)=true):gK s=false:=mI fun k=>by
 obtain⟨j,h1,h2⟩:=hx
 have h3:=k.QO j (by omega)
 rw [h2] at h3
 have:=aE h
 exact absurd h3 (Int.not_le.2 this)
end
def BH (s:ay) (i:Nat):Bool:=bif decide (((nth ab s.rows i).size:Int)>128) then false else !(bne (decide (nth ab s.rows i=⟨#[]⟩)) (decide (nth ag s.refs i=(0:Int))))
theorem uS (n r:Nat):nth ag (List.replicate n (EK.zero ag)) r=(0:Int):=by
 by_cases h:r<(List.replicate n (EK.zero ag)).length
 ·exact (ZD6.1 (bT (ek:=ag) h)).2
 ·exact tD (ek:=ag) (by omega)
section
variable {s:ay}{i:Nat}
theorem acY (h:decide (((nth ab s.rows i).size:Int)>128)=true):BH s i=false:=by unfold BH;rw [h];rfl
theorem acX (h:bne (decide (nth ab s.rows i=⟨#[]⟩)) (decide (nth ag s.refs i=(0:Int)))=true):BH s i=false:=by unfold BH;rw [h];cases decide (((nth ab s.rows i).size:Int)>128)<;>rfl
theorem acW (h:decide (((nth ab s.rows i).size:Int)>128)=false) (h2:bne (decide (nth ab s.rows i=⟨#[]⟩)) (decide (nth ag s.refs i=(0:Int)))=false):BH s i=true:=by unfold BH;rw [h,h2];rfl
theorem G1:BH s i=true↔(nth ab s.rows i).size≤128∧decide (nth ab s.rows i=⟨#[]⟩)=decide (nth ag s.refs i=(0:Int)):=by
 unfold BH
 cases h:decide (((nth ab s.rows i).size:Int)>128) with
 |true=>have:=aE h;exact⟨fun h=>(by cases h),fun h=>absurd h.1 (by omega)⟩
 |false=>
  have:=aA h
  rw [cond_false]
  cases decide (nth ab s.rows i=⟨#[]⟩)<;>cases decide (nth ag s.refs i=(0:Int))<;>simp<;>omega
theorem zK {iy:Int}{p:Pt}:fk s iy p=true↔a6 p=true∧au p=false∧p.2.1≤iy∧nth ag s.refs p.1.toNat≠(0:Int):=by
 unfold fk
 simp only [ZB0,ZF9,decide_eq_false_iff_not,ZG9]
theorem UW {l:List Pt}{p:Pt}(h:p∈l) (hh:au p=false):0<bq l (at' p):=List.countP_pos_iff.2 ⟨p,h,by simp [LD,hh]⟩
theorem KV.ahI (k:KV s):s.gone.all (fk s (s.ck-1))=true:=ZC8.2 fun p hp=>by
 obtain⟨h1,h2,h3⟩:=k.gone p hp
 refine zK.2 ⟨h1,h2,h3,fun h=>?_⟩
 have h4:=k.bq (at' p) (sA h1);have h5:=UW hp h2
 rw [show qO s (at' p)=0 from h] at h4;omega
theorem KV.ahJ (k:KV s):s.dead.all (fk s s.bY)=true:=ZC8.2 fun p hp=>by
 obtain⟨h1,h2,h3⟩:=k.dead p hp
 refine zK.2 ⟨h1,h2,h3,fun h=>?_⟩
 have h4:=k.bq (at' p) (sA h1);have h5:=UW hp h2
 rw [show qO s (at' p)=0 from h] at h4;omega
theorem afS (hi:i<64) (h:BH s i=false):gK s=false:=mI fun k=>by rw [G1.2 (k.row i hi)] at h;cases h
theorem akS (h:s.gone.all (fk s (s.ck-1))=false):gK s=false:=mI fun k=>by rw [k.ahI] at h;cases h
theorem akR (h:s.dead.all (fk s s.bY)=false):gK s=false:=mI fun k=>by rw [k.ahJ] at h;cases h
theorem akQ {r:Nat}(hr:r<64) (h:¬((bq s.gone r+bq s.dead r:Nat):Int)≤qO s r):gK s=false:=mI fun k=>h (k.bq r hr)
end
def tu (S:ay):Prop:=S.gone.length≤1000000∧S.dead.length≤1000000
def bQ (S:ay):AV:=.s (.q (gK S))
def SI (S:ay):List AV:=[]
def zb:Con where
 A:=[.a xE]
 B:=[]
 pre:=fun x b=>tu x
 α:=fun _ _=>Unit
 φ:=fun _ _ _=>True
 r:=fun x b _=>bQ x
 o:=fun x b _=>SI x
 nf:=0
set_option maxRecDepth 100000 in
theorem XN:Has Tryz.prog 12 zb:=by
 refine Has.ofEI (fun _=>true) (fun _=>false) (fun _=>false) (l:=[(30,kY),(31,cD),(32,ze),(33,uj)]) ⟨yQ,gp,XP,PT,trivial⟩ (fn:=Tryz.f12) Tryz.func12 rfl (by decide) (aZ rfl) ?_
 rintro⟨(aj:List ByteArray),(ak:List Int),(an:List Int),(ao:Int),(ah:List Pt),(aq:Int),(ai:List Pt),(ar:Bool)⟩ _ (hp:tu (aj,ak,an,ao,ah,aq,ai,ar))
 show vc _ _ _ _ (entry [.a [.vz ab aj,.vz ag ak,.vz ag an,.int ao,.vz ae ah,.int aq,.vz ae ai,.q ar]] []) _
 obtain⟨(hg:ah.length≤1000000),(hd:ai.length≤1000000)⟩:=hp
 have hla:(!(rK (ak,an)))=false→ak.length=64∧an.length=64:=fun h=>Q6 (cI h)
 have hxt:(!(iC ao 1 900))=false→1≤ao∧ao≤900:=fun h=>cz.1 (cI h)
 have hxk:(!(iC aq 0 (ao-1)))=false→0≤aq∧aq≤ao-1:=fun h=>cz.1 (cI h)
 refine⟨[.s 1],[.s 9],rfl,[.s 9,.b 1001],[.s 10],rfl,[.s 10],[.s 11],rfl,[.s 11],[.s 12],rfl,[.s 12],[.s 13],rfl,aa,fun w1=>⟨[.s 13],[.s 14],rfl,[.s 13],[.s 15],rfl,[.s 13],[.s 16],rfl,[.s 13],[.s 17],rfl,[.s 13,.s 17],[.s 18],rfl,[.s 18],[.s 19],rfl,[.s 19],[.s 20],rfl,[.s 19],[.s 21],rfl,[.s 19],[.s 22],rfl,[.s 19],[.s 23],rfl,[.s 19,.s 23],[.s 24],rfl,[.s 24],[.s 25],rfl,[.s 25],[.s 26],rfl,[.s 25],[.s 27],rfl,[.s 25],[.s 28],rfl,[.s 25],[.s 29],rfl,[.s 25],[.s 30],rfl,[.s 25],[.s 31],rfl,[.s 25],[.s 32],rfl,[.s 25,.s 32],[.s 33],rfl,[.s 33],[.s 34],rfl,[.s 34],[.s 35],rfl,[.s 34],[.s 36],rfl,[.s 34],[.s 37],rfl,[.s 34],[.s 38],rfl,[.s 34],[.s 39],rfl,[.s 34],[.s 40],rfl,[.s 34],[.s 41],rfl,[.s 34,.s 41],[.s 42],rfl,?_⟩,fun w2=>⟨[.s 13,.s 1],[.s 14],rfl,[.s 13,.s 14,.b 1001],[.s 15],rfl,[.s 13,.s 15],[.s 16],rfl,⟨⟨⟨aa,aa,aa⟩,aa⟩,aa⟩,?_,fun x3 w4=>⟨[.s 13,.s 16],[.s 17],rfl,[.s 13,.s 17],[.s 18],rfl,[.s 18],[.s 19],rfl,aa,fun w5=>⟨[.s 19],[.s 20],rfl,[.s 19],[.s 21],rfl,[.s 19],[.s 22],rfl,[.s 19],[.s 23],rfl,[.s 19,.s 23],[.s 24],rfl,[.s 24],[.s 25],rfl,[.s 25],[.s 26],rfl,[.s 25],[.s 27],rfl,[.s 25],[.s 28],rfl,[.s 25],[.s 29],rfl,[.s 25],[.s 30],rfl,[.s 25],[.s 31],rfl,[.s 25],[.s 32],rfl,[.s 25,.s 32],[.s 33],rfl,[.s 33],[.s 34],rfl,[.s 34],[.s 35],rfl,[.s 34],[.s 36],rfl,[.s 34],[.s 37],rfl,[.s 34],[.s 38],rfl,[.s 34],[.s 39],rfl,[.s 34],[.s 40],rfl,[.s 34],[.s 41],rfl,[.s 34,.s 41],[.s 42],rfl,?_⟩,fun w6=>⟨[.s 19,.s 1],[.s 20],rfl,[.s 19,.s 20,.b 1001],[.s 21],rfl,[.s 19,.s 21],[.s 22],rfl,⟨⟨aa,aa,aa,aa⟩,aa⟩,?_,fun x7 w8=>⟨[.s 19,.s 22],[.s 23],rfl,[.s 19,.s 23],[.s 24],rfl,[.s 24],[.s 25],rfl,aa,fun w9=>⟨[.s 25],[.s 26],rfl,[.s 25],[.s 27],rfl,[.s 25],[.s 28],rfl,[.s 25],[.s 29],rfl,[.s 25],[.s 30],rfl,[.s 25],[.s 31],rfl,[.s 25],[.s 32],rfl,[.s 25,.s 32],[.s 33],rfl,[.s 33],[.s 34],rfl,[.s 34],[.s 35],rfl,[.s 34],[.s 36],rfl,[.s 34],[.s 37],rfl,[.s 34],[.s 38],rfl,[.s 34],[.s 39],rfl,[.s 34],[.s 40],rfl,[.s 34],[.s 41],rfl,[.s 34,.s 41],[.s 42],rfl,?_⟩,fun dq=>⟨[.s 25,.s 1],[.s 26],rfl,[.s 25,.s 26,.b 1001],[.s 27],rfl,[.s 25,.s 1],[.s 28],rfl,[.s 25,.s 28,.b 1001],[.s 29],rfl,[.s 25,.s 29],[.s 30],rfl,⟨?_,?_⟩,[.s 25,.s 27,.s 30],[.s 31],rfl,⟨⟨aa,aa,aa,aa⟩,aa⟩,?_,fun kE dI=>⟨[.s 25,.s 31],[.s 32],rfl,[.s 25,.s 32],[.s 33],rfl,[.s 33],[.s 34],rfl,aa,fun iJ=>⟨[.s 34],[.s 35],rfl,[.s 34],[.s 36],rfl,[.s 34],[.s 37],rfl,[.s 34],[.s 38],rfl,[.s 34],[.s 39],rfl,[.s 34],[.s 40],rfl,[.s 34],[.s 41],rfl,[.s 34,.s 41],[.s 42],rfl,?_⟩,fun gI=>⟨[.s 34,.s 1],[.s 35],rfl,[.s 34,.s 35],[.s 36],rfl,[.s 34,.s 36,.b 1001],[.s 37],rfl,[.s 34,.s 37],[.s 38],rfl,⟨⟨aa,aa⟩,?_,?_⟩,?_,fun kD kj=>⟨[.s 34,.s 1],[.s 39],rfl,[.s 34,.s 39,.b 1001],[.s 40],rfl,[.s 34,.s 38,.s 40],[.s 41],rfl,[.s 34,.s 41],[.s 42],rfl,fun wC=>?_,fun qX=>?_⟩⟩⟩⟩⟩⟩⟩⟩⟩
 all_goals first|refine aw ?_|refine ax ?_|exact ba|(dsimp only [kY,lV];omega)|(dsimp only [cD,dv];omega)|(dsimp only [ze,vq];omega)|(dsimp only [uj,so];omega)|exact a8|(show (-9223372036854775808:Int)≤ao-1;have:=hxt dq;omega)|(show ao-1≤(9223372036854775807:Int);have:=hxt dq;omega)|(show 0<an.length;rw [(hla w6).2];decide)|(show an.length≤1000000;rw [(hla w6).2];decide)|exact adS an (by rw [(hla w6).2];decide)|skip
 ·refine⟨[],[],_,_,_,rfl,az,(),aa,?_,?_,rfl⟩
  ·(show _=bQ (aj,ak,an,ao,ah,aq,ai,ar));unfold bQ;first|(rw [ai0 (s:=(aj,ak,an,ao,ah,aq,ai,ar)) w1];rfl)|rfl
  ·rfl
 ·refine⟨[],[],_,_,_,rfl,az,(),aa,?_,?_,rfl⟩
  ·(show _=bQ (aj,ak,an,ao,ah,aq,ai,ar));unfold bQ;first|(rw [aiZ (s:=(aj,ak,an,ao,ah,aq,ai,ar)) w5];rfl)|rfl
  ·rfl
 ·refine⟨[],[],_,_,_,rfl,az,(),aa,?_,?_,rfl⟩
  ·(show _=bQ (aj,ak,an,ao,ah,aq,ai,ar));unfold bQ;first|(rw [aiY (s:=(aj,ak,an,ao,ah,aq,ai,ar)) w9];rfl)|rfl
  ·rfl
 ·refine⟨[],[],_,_,_,rfl,az,(),aa,?_,?_,rfl⟩
  ·(show _=bQ (aj,ak,an,ao,ah,aq,ai,ar));unfold bQ;first|(rw [aiX (s:=(aj,ak,an,ao,ah,aq,ai,ar)) iJ];rfl)|rfl
  ·rfl
 ·refine⟨[],[],_,_,_,rfl,az,(),aa,?_,?_,rfl⟩
  ·(show _=bQ (aj,ak,an,ao,ah,aq,ai,ar));unfold bQ;first|(rw [akT (s:=(aj,ak,an,ao,ah,aq,ai,ar)) (hla w6).2 kj.2 wC];rfl)|rfl
  ·rfl
 have hlen:aj.length=64:=by have:=aA w2;omega
 have hrl:=hla w6
 have hsp:rK (ak,an)=true:=cI w6
 have htx:=hxt dq
 have hkp:=hxk gI
 have hyo:∀i,i<64→nth ag an i≤ao:=fun i hi=>ZE1 (kj.1 i (show i<an.length by rw [hrl.2];exact hi)) (ZG9.1 (aA (p:=(show Int from kD)>ao) qX))
 have hz0:∀r,nth ag (List.replicate (Int.toNat 64) (EK.zero ag)) r=(0:Int):=fun r=>uS _ r
 have hz1:∀r,(0:Int)≤nth ag (List.replicate (Int.toNat 64) (EK.zero ag)) r:=fun r=>by rw [hz0];exact ZC1 _
 have hz2:∀r,nth ag (List.replicate (Int.toNat 64) (EK.zero ag)) r≤(1000000:Int):=fun r=>by rw [hz0];decide
 have hz3:∀r,(nth ag (List.replicate (Int.toNat 64) (EK.zero ag)) r+(ah.length:Int):Int)≤(1000000:Int):=fun r=>by rw [hz0];show (0:Int)+_≤_;omega
 refine l9 (l:=[(30,kY),(31,cD),(32,ze),(33,uj)]) (ex:=fun _=>true) (wr:=fun _=>false) (pt:=fun _=>false) ⟨yQ,gp,XP,PT,trivial⟩ [.s 1,.b 1001,.s 44,.s 45] (fun i:Nat=>[(.s 46,.int i)]) (fun i=>i≤64∧∀j,j<i→BH (aj,ak,an,ao,ah,aq,ai,ar) j=true) (fun i=>64-i) 0 [] ⟨ZA8 _,fun j hj=>absurd hj (by omega)⟩ dN ?_
 rintro i ⟨(hi:i≤64),hj⟩
 have cr:decide ((i:Int)<(aj.length:Int))=true→i<64:=fun h=>by have:=aE h;omega
 refine⟨fun w1=>⟨⟨?_,?_⟩,aa,fun w2=>?_,fun w3=>⟨⟨?_,?_⟩,fun w4=>?_,fun w5=>⟨⟨?_,?_⟩,?_⟩⟩⟩,fun w6=>⟨⟨?_,?_,?_⟩,⟨?_,?_⟩,⟨⟨aa,aa,aa,aa,aa⟩,?_,?_,?_,?_,fun x7=>⟨?_,?_⟩⟩,fun x8 w9=>⟨aa,fun dq=>?_,fun kk=>⟨⟨⟨aa,aa,aa,aa,aa⟩,?_,?_,?_,?_,fun x12=>⟨?_,?_⟩⟩,fun r4 gI=>⟨fun pe=>?_,fun kj=>?_⟩⟩⟩⟩⟩
 all_goals first|refine aw ?_|refine ax ?_|exact ba|(dsimp only [kY,lV];omega)|(dsimp only [cD,dv];omega)|(dsimp only [ze,vq];omega)|(dsimp only [uj,so];omega)|exact a8|(show (i:Int)<(ak.length:Int);rw [hrl.1];exact Int.ofNat_lt.2 (cr w1))|exact hrl.1|exact hz1 _|exact hz2 _|exact w9.1.symm|exact w9.1|exact (w9.2.1 _).1|exact ZE1 (w9.2.1 _).2 (hz3 _)|exact hg|exact hd|skip
 ·refine⟨[],[],_,_,_,rfl,az,(),aa,?_,?_,rfl⟩
  ·(show _=bQ (aj,ak,an,ao,ah,aq,ai,ar));unfold bQ;first|(rw [afS (s:=(aj,ak,an,ao,ah,aq,ai,ar)) (cr w1) (acY (s:=(aj,ak,an,ao,ah,aq,ai,ar)) w2)];rfl)|rfl
  ·rfl
 ·refine⟨[],[],_,_,_,rfl,az,(),aa,?_,?_,rfl⟩
  ·(show _=bQ (aj,ak,an,ao,ah,aq,ai,ar));unfold bQ;first|(rw [afS (s:=(aj,ak,an,ao,ah,aq,ai,ar)) (cr w1) (acX (s:=(aj,ak,an,ao,ah,aq,ai,ar)) w4)];rfl)|rfl
  ·rfl
 ·refine⟨(i+1),[],?_,?_,?_⟩
  rotate_right
  ·exact bX
  ·refine⟨cr w1,fun j yU=>?_⟩
   by_cases e:j=i
   ·rw [e];exact acW (s:=(aj,ak,an,ao,ah,aq,ai,ar)) w3 w5
   ·exact hj j (by omega)
  ·show 64-(i+1)<64-i;have:=cr w1;omega
 ·refine⟨[],[],_,_,_,rfl,az,(),aa,?_,?_,rfl⟩
  ·(show _=bQ (aj,ak,an,ao,ah,aq,ai,ar));unfold bQ;first|(rw [akS (s:=(aj,ak,an,ao,ah,aq,ai,ar)) (rm dq)];rfl)|rfl
  ·rfl
 ·refine⟨[],[],_,_,_,rfl,az,(),aa,?_,?_,rfl⟩
  ·(show _=bQ (aj,ak,an,ao,ah,aq,ai,ar));unfold bQ;first|(rw [akR (s:=(aj,ak,an,ao,ah,aq,ai,ar)) (rm pe)];rfl)|rfl
  ·rfl
 ·have acd:∀j,j<64→BH (aj,ak,an,ao,ah,aq,ai,ar) j=true:=fun j yU=>hj j (by have:=aA w6;omega)
  have hgo:ah.all (fk (aj,ak,an,ao,ah,aq,ai,ar) (ao-1))=true:=cI kk
  have hde:ai.all (fk (aj,ak,an,ao,ah,aq,ai,ar) aq)=true:=cI kj
  have hc1:∀r,(nth ag (show List Int from x8) r:Int)=(bq ah r:Int):=fun r=>(w9.2.2 hgo r).trans (show (nth ag (List.replicate (Int.toNat 64) (EK.zero ag)) r+(bq ah r:Int):Int)=_ by rw [hz0,Int.zero_add])
  have hcn:∀r,(nth ag (show List Int from r4) r:Int)=((bq ah r+bq ai r:Nat):Int):=fun r=>(gI.2.2 hde r).trans (show (nth ag (show List Int from x8) r+(bq ai r:Int):Int)=_ by rw [hc1];rfl)
  have hx8:List.length (show List Int from x8)=64:=w9.1
  have hx:List.length (show List Int from r4)=64:=gI.1
  refine l9 (l:=[(30,kY),(31,cD),(32,ze),(33,uj)]) (ex:=fun _=>true) (wr:=fun _=>false) (pt:=fun _=>false) ⟨yQ,gp,XP,PT,trivial⟩ [.s 1,.b 1001,.s 86,.s 87,.b 1067] (fun i:Nat=>[(.s 88,.int i)]) (fun i=>i≤64∧∀j,j<i→(nth ag r4 j:Int)≤nth ag ak j) (fun i=>64-i) 0 [] ⟨ZA8 _,fun j hj=>absurd hj (by omega)⟩ dN ?_
  clear hj cr hi
  rintro i ⟨(hi:i≤64),hj⟩
  have cr:decide ((i:Int)<(List.length (show List Int from x8):Int))=true→i<64:=fun h=>by have:=aE h;omega
  have oo:decide ((i:Int)<(List.length (show List Int from x8):Int))=false→i=64:=fun h=>by have:=aA h;omega
  refine⟨fun w1=>⟨⟨?_,?_⟩,⟨?_,⟨⟨?_,?_⟩,⟨fun w2=>?_,fun w3=>⟨⟨?_,?_⟩,?_⟩⟩⟩⟩⟩,fun w4=>?_⟩
  all_goals first|refine aw ?_|refine ax ?_|exact ba|(dsimp only [kY,lV];omega)|(dsimp only [cD,dv];omega)|(dsimp only [ze,vq];omega)|(dsimp only [uj,so];omega)|exact a8|(show i<List.length (show List Int from r4);rw [hx];exact cr w1)|(show (i:Int)<(ak.length:Int);rw [hrl.1];exact Int.ofNat_lt.2 (cr w1))|skip
  ·refine⟨[],[],_,_,_,rfl,az,(),aa,?_,?_,rfl⟩
   ·(show _=bQ (aj,ak,an,ao,ah,aq,ai,ar));unfold bQ;first|(rw [akQ (s:=(aj,ak,an,ao,ah,aq,ai,ar)) (cr w1) (fun h=>by rw [←hcn i] at h;exact absurd h (Int.not_le.2 (aE w2)))];rfl)|rfl
   ·rfl
  ·refine⟨(i+1),[],?_,?_,?_⟩
   rotate_right
   ·exact bX
   ·refine⟨cr w1,fun j yU=>?_⟩
    by_cases e:j=i
    ·rw [e];exact ZG9.1 (aA w3)
    ·exact hj j (by omega)
   ·show 64-(i+1)<64-i;have:=cr w1;omega
  ·have e:gK (aj,ak,an,ao,ah,aq,ai,ar)=true:=VG
    {len:=hlen,sp:=hsp,ck:=htx,bY:=hkp,QO:=hyo,row:=fun j yU=>G1.1 (acd j yU)
     gone:=fun p hp=>by
      have:=zK.1 (ZC8.1 hgo p hp)
      exact⟨this.1,this.2.1,this.2.2.1⟩
     dead:=fun p hp=>by
      have:=zK.1 (ZC8.1 hde p hp)
      exact⟨this.1,this.2.1,this.2.2.1⟩
     bq:=fun r hr=>by rw [←hcn r];exact hj r (by rw [oo w4];exact hr) }
   refine⟨[],[],_,_,_,rfl,az,(),aa,?_,?_,rfl⟩
   ·(show _=bQ (aj,ak,an,ao,ah,aq,ai,ar));unfold bQ;first|(rw [e];rfl)|rfl
   ·rfl
end
end GL
namespace GL
noncomputable section
def yv (l:List Pt):Prop:=l.length≤1000000
def WA (l:List Pt) (z:Bool):Prop:=z=true→l=[]
def pR (l:List Pt) (z:Bool):AV:=match z with |true=>.s (.v (.slice none 0 0)) |false=>.s (.xs 0 5 0 l.length)
def su (l:List Pt) (z:Bool):List AV:=match z with |true=>[.zz] |false=>[.rs ae l]
def KG:Con where
 A:=[.s (.vz ae)]
 B:=[]
 pre:=fun x b=>yv x
 α:=fun _ _=>Bool
 φ:=fun x b z=>WA x z
 r:=fun x b z=>pR x z
 o:=fun x b z=>su x z
 nf:=1
set_option maxRecDepth 100000 in
theorem aek:Has Tryz.prog 14 KG:=by
 refine Has.ofZI (fun _=>true) (fun _=>false) (fun _=>false) (l:=[]) trivial (fn:=Tryz.f14) Tryz.func14 rfl (by decide) (aZ rfl) ?_
 rintro (l:List Pt) _ (hp:yv l)
 show vc _ _ _ _ (entry [.s (.vz ae l)] []) _
 have hp:l.length≤1000000:=hp
 refine⟨?_,fun |false=>fun w1=>⟨fun w2=>?_,fun w3=>⟨aa,⟨⟨?_,?_⟩,aa⟩,?_⟩⟩ |true=>fun w4=>⟨fun w5=>?_,fun w6=>⟨aa,⟨⟨?_,?_⟩,aa⟩,?_⟩⟩⟩
 all_goals first|refine aw ?_|refine ax ?_|exact ba|exact a8|(show 0+l.length≤1048576;omega)|exact⟨false,fun h=>by cases h⟩|skip
 ·cases w2
 ·refine⟨[1007],[],_,_,_,rfl,az,false,0,(w1),?_,?_,rfl⟩
  ·(show _=pR l false);unfold pR;first|((show AV.s (.xs 0 5 0 (0+l.length))=AV.s (.xs 0 5 0 l.length);rw [ZA7]))|((show [AV.rs ae ([]++l)]=[AV.rs ae l];rfl))|rfl
  ·(show _=su l false);unfold su;first|((show AV.s (.xs 0 5 0 (0+l.length))=AV.s (.xs 0 5 0 l.length);rw [ZA7]))|((show [AV.rs ae ([]++l)]=[AV.rs ae l];rfl))|rfl
 ·refine⟨[],[],_,_,_,rfl,az,true,1,(w4),?_,?_,rfl⟩
  ·(show _=pR l true);unfold pR;first|(rw [rfl];rfl)|rfl
  ·(show _=su l true);unfold su;first|(rw [rfl];rfl)|rfl
 ·cases w6
def gR (s:ay) (t:bf):List Pt×Bool:=bif gK s&&oI s t then ((bC s t).1.take t.many.toNat,true) else ([],false)
theorem zo {s:ay}{t:bf}:(gR s t).2=(gK s&&oI s t):=by unfold gR;cases gK s&&oI s t<;>rfl
theorem aaW {s:ay}{t:bf}(h:gK s=false):gR s t=([],false):=by unfold gR;rw [h];rfl
theorem LM {s:ay}{t:bf}(h:oI s t=false):gR s t=([],false):=by unfold gR;rw [h,ZD8];rfl
theorem LL {s:ay}{t:bf}(h:gK s=true) (h2:oI s t=true):gR s t=((bC s t).1.take t.many.toNat,true):=by unfold gR;rw [h,h2];rfl
theorem KV.rd {s:ay}(k:KV s):s.rd:=⟨k.len,fun x hx=>by
 obtain⟨i,hi,rfl⟩:=List.getElem_of_mem hx
 have h1:=(k.row i (by have:=k.len;omega)).1
 unfold nth at h1;rw [ZB2 hi] at h1;exact ZB1 h1 (by omega)⟩
theorem O8 {s:ay}{t:bf}(h:oI s t=true):lu t=false:=by
 cases hb:lu t with
 |false=>rfl
 |true=>rw [D4 hb] at h;cases h
theorem ahQ {s:ay}{t:bf}(h:oI s t=true):t.rd:=H0 (O8 h)
theorem TJ {s:ay}:∀{f:Nat}{lv:Int}{l:List Pt},lv<(f:Int)→(tJ s f lv l).2=true→(tJ s f lv l).1.length=l.length*4 ^ lv.toNat
 |0,lv,l,h,_=>by
  rw [show lv.toNat=0 by omega];exact (Nat.mul_one _).symm
 |f+1,lv,l,h,h2=>by
  cases hp:decide (lv>0) with
  |false=>
   have:=aA hp
   rw [vD hp,show lv.toNat=0 by omega];exact (Nat.mul_one _).symm
  |true=>
   have hp':=aE hp
   match e:fy s lv l [] with
   |none=>rw [IF hp e] at h2;cases h2
   |some n=>
    rw [CN hp e] at h2 ⊢
    rw [TJ (by omega) h2,r8 e,show lv.toNat=(lv-1).toNat+1 by omega,Nat.pow_succ]
    show (0+4*l.length)*_=_
    rw [ZA7,Nat.mul_comm 4,Nat.mul_assoc,Nat.mul_comm 4]
theorem SW {s:ay}{t:bf}(h:oI s t=true):t.many.toNat≤(bC s t).1.length:=by
 have hb:=O8 h
 have hl:(bC s t).2=true:=by
  cases hl: !(bC s t).2 with
  |false=>exact cI hl
  |true=>rw [ZR hb hl] at h;cases h
 unfold lu at hb
 simp only [ZD7,decide_eq_false_iff_not,ZF0] at hb
 obtain⟨h1,h2,h3⟩:=hb
 have:=py t.many
 refine TE (cI h1) ?_
 have e:=TJ (s:=s) (f:=3) (lv:=t.depth) (l:=[t.root]) (by omega) hl
 rw [←h2];exact e.trans (Nat.one_mul _)
def kG (S:ay) (t:bf):Prop:=S.gone.length≤1000000∧S.dead.length≤1000000
def E4 (S:ay) (t:bf) (z:Bool):Prop:=z=true→(gR S t).1=[]
def c6 (S:ay) (t:bf) (z:Bool):AV:=.t [match z with |true=>.s (.v (.slice none 0 0)) |false=>.s (.xs 0 5 0 (gR S t).1.length),.s (.q (gR S t).2)]
def dw (S:ay) (t:bf) (z:Bool):List AV:=match z with |true=>[.zz] |false=>[.rs ae (gR S t).1]
def kz:Con where
 A:=[.a xE,.a [.int,.int,.int,.int,.int,.int,.int]]
 B:=[]
 pre:=fun x b=>kG (x.1) (x.2)
 α:=fun _ _=>Bool
 φ:=fun x b z=>E4 (x.1) (x.2) z
 r:=fun x b z=>c6 (x.1) (x.2) z
 o:=fun x b z=>dw (x.1) (x.2) z
 nf:=1
set_option maxRecDepth 100000 in
theorem xK:Has Tryz.prog 7 kz:=by
 refine Has.ofZI (fun _=>true) (fun _=>false) (fun d=>d==17) (l:=[(12,zb),(13,DN),(14,KG)]) ⟨XN,ab6,aek,trivial⟩ (fn:=Tryz.f7) Tryz.func7 rfl (by decide) (aZ rfl) ?_
 rintro⟨⟨(aj:List ByteArray),(ak:List Int),(an:List Int),(ao:Int),(ah:List Pt),(aq:Int),(ai:List Pt),(ar:Bool)⟩,⟨(t1:Int),(t2:Int),(t3:Int),(t4:Int),(t5:Int),(t6:Int),(t7:Int)⟩⟩ _ (hp:kG (aj,ak,an,ao,ah,aq,ai,ar) (t1,t2,t3,t4,t5,t6,t7))
 show vc _ _ _ _ (entry [.a [.vz ab aj,.vz ag ak,.vz ag an,.int ao,.vz ae ah,.int aq,.vz ae ai,.q ar],.a [.int t1,.int t2,.int t3,.int t4,.int t5,.int t6,.int t7]] []) _
 obtain⟨hg,hd⟩:=hp
 have hk:(!(gK (aj,ak,an,ao,ah,aq,ai,ar)))=false→KV (aj,ak,an,ao,ah,aq,ai,ar):=fun h=>Q1.1 (cI h)
 have dG:(!(gK (aj,ak,an,ao,ah,aq,ai,ar)))=false→ay.rd (aj,ak,an,ao,ah,aq,ai,ar):=fun h=>(hk h).rd
 have hlen:∀b:Bool,b=oI (aj,ak,an,ao,ah,aq,ai,ar) (t1,t2,t3,t4,t5,t6,t7)→b=true→(bC (aj,ak,an,ao,ah,aq,ai,ar) (t1,t2,t3,t4,t5,t6,t7)).1.length≤16:=fun b h h2=>rq (ahQ (h ▸ h2))
 refine⟨⟨⟨⟨aa,aa,aa,aa,aa,aa,aa,aa,aa⟩,aa⟩,?_,?_⟩,fun x1 w2=>⟨fun w3=>?_,fun w4=>⟨⟨⟨aa,⟨aa,aa,aa,aa,aa,aa,aa,aa⟩,aa⟩,?_,?_⟩,fun |false=>fun w5=>⟨⟨⟨aa,aa⟩,?_⟩,fun |false=>fun w6=>?_ |true=>fun w7=>?_⟩ |true=>fun w8=>⟨⟨⟨?_,aa⟩,?_⟩,fun |false=>fun w9=>?_ |true=>fun dq=>?_⟩⟩⟩⟩
 all_goals first|refine aw ?_|refine ax ?_|exact ba|(dsimp only [zb,tu];omega)|(dsimp only [DN,vn];omega)|(dsimp only [KG,yv];omega)|exact a8|exact hg|exact hd|exact dG w4|(show 0≤ao;have h:1≤ao∧ao≤900:=(hk w4).ck;omega)|exact ZA8 _|(show 0+t7.toNat≤_;rw [ZA7];exact SW (s:=(aj,ak,an,ao,ah,aq,ai,ar)) (t:=(t1,t2,t3,t4,t5,t6,t7)) (show true=oI (aj,ak,an,ao,ah,aq,ai,ar) (t1,t2,t3,t4,t5,t6,t7) from w8).symm)|(show (List.take _ _).length≤1000000;have:=hlen true w8 rfl;rw [ZB8];exact ZB1 (Nat.min_le_right _ _) (ZB1 this (by decide)))|skip
 ·have e:=aaW (s:=(aj,ak,an,ao,ah,aq,ai,ar)) (t:=(t1,t2,t3,t4,t5,t6,t7)) (rm w3)
  refine⟨[],[],_,_,_,rfl,az,true,1,(fun _=>show (gR (aj,ak,an,ao,ah,aq,ai,ar) (t1,t2,t3,t4,t5,t6,t7)).1=[] by rw [e]),?_,?_,rfl⟩
  ·(show _=c6 (aj,ak,an,ao,ah,aq,ai,ar) (t1,t2,t3,t4,t5,t6,t7) true);unfold c6;first|(rw [e];rfl)|rfl
  ·(show _=dw (aj,ak,an,ao,ah,aq,ai,ar) (t1,t2,t3,t4,t5,t6,t7) true);unfold dw;first|(rw [e];rfl)|rfl
 ·have e:=LM (s:=(aj,ak,an,ao,ah,aq,ai,ar)) (t:=(t1,t2,t3,t4,t5,t6,t7)) (show false=oI (aj,ak,an,ao,ah,aq,ai,ar) (t1,t2,t3,t4,t5,t6,t7) from w5).symm
  refine⟨[180000],[],_,_,_,rfl,az,false,0,(fun h=>by cases h),?_,?_,rfl⟩
  ·(show _=c6 (aj,ak,an,ao,ah,aq,ai,ar) (t1,t2,t3,t4,t5,t6,t7) false);unfold c6;first|(rw [e];rfl)|rfl
  ·(show _=dw (aj,ak,an,ao,ah,aq,ai,ar) (t1,t2,t3,t4,t5,t6,t7) false);unfold dw;first|(rw [e];rfl)|rfl
 ·have e:=LM (s:=(aj,ak,an,ao,ah,aq,ai,ar)) (t:=(t1,t2,t3,t4,t5,t6,t7)) (show false=oI (aj,ak,an,ao,ah,aq,ai,ar) (t1,t2,t3,t4,t5,t6,t7) from w5).symm
  refine⟨[],[],_,_,_,rfl,az,true,1,(fun _=>show (gR (aj,ak,an,ao,ah,aq,ai,ar) (t1,t2,t3,t4,t5,t6,t7)).1=[] by rw [e]),?_,?_,rfl⟩
  ·(show _=c6 (aj,ak,an,ao,ah,aq,ai,ar) (t1,t2,t3,t4,t5,t6,t7) true);unfold c6;first|(rw [e];rfl)|rfl
  ·(show _=dw (aj,ak,an,ao,ah,aq,ai,ar) (t1,t2,t3,t4,t5,t6,t7) true);unfold dw;first|(rw [e];rfl)|rfl
 ·have e:=LL (s:=(aj,ak,an,ao,ah,aq,ai,ar)) (t:=(t1,t2,t3,t4,t5,t6,t7)) (cI w4) (show true=oI (aj,ak,an,ao,ah,aq,ai,ar) (t1,t2,t3,t4,t5,t6,t7) from w8).symm
  refine⟨[180000],[],_,_,_,rfl,az,false,0,(fun h=>by cases h),?_,?_,rfl⟩
  ·(show _=c6 (aj,ak,an,ao,ah,aq,ai,ar) (t1,t2,t3,t4,t5,t6,t7) false);unfold c6;first|(rw [e];rfl)|rfl
  ·(show _=dw (aj,ak,an,ao,ah,aq,ai,ar) (t1,t2,t3,t4,t5,t6,t7) false);unfold dw;first|(rw [e];rfl)|rfl
 ·have e:=LL (s:=(aj,ak,an,ao,ah,aq,ai,ar)) (t:=(t1,t2,t3,t4,t5,t6,t7)) (cI w4) (show true=oI (aj,ak,an,ao,ah,aq,ai,ar) (t1,t2,t3,t4,t5,t6,t7) from w8).symm
  refine⟨[],[],_,_,_,rfl,az,true,1,(fun _=>show (gR (aj,ak,an,ao,ah,aq,ai,ar) (t1,t2,t3,t4,t5,t6,t7)).1=[] by rw [e];exact dq rfl),?_,?_,rfl⟩
  ·(show _=c6 (aj,ak,an,ao,ah,aq,ai,ar) (t1,t2,t3,t4,t5,t6,t7) true);unfold c6;first|(rw [e];rfl)|rfl
  ·(show _=dw (aj,ak,an,ao,ah,aq,ai,ar) (t1,t2,t3,t4,t5,t6,t7) true);unfold dw;first|(rw [e];rfl)|rfl
def vo (S:ay) (t:bf):Prop:=S.gone.length≤1000000∧S.dead.length≤1000000
def nN (S:ay) (t:bf):AV:=.s (.q (gK S&&oI S t))
def WV (S:ay) (t:bf):List AV:=[]
def DO:Con where
 A:=[.a xE,.a [.int,.int,.int,.int,.int,.int,.int]]
 B:=[]
 pre:=fun x b=>vo (x.1) (x.2)
 α:=fun _ _=>Unit
 φ:=fun _ _ _=>True
 r:=fun x b _=>nN (x.1) (x.2)
 o:=fun x b _=>WV (x.1) (x.2)
 nf:=0
set_option maxRecDepth 100000 in
theorem ab7:Has Tryz.prog 5 DO:=by
 refine Has.ofEI (fun _=>true) (fun _=>false) (fun _=>false) (l:=[(7,kz)]) ⟨xK,trivial⟩ (fn:=Tryz.f5) Tryz.func5 rfl (by decide) (aZ rfl) ?_
 rintro⟨⟨(aj:List ByteArray),(ak:List Int),(an:List Int),(ao:Int),(ah:List Pt),(aq:Int),(ai:List Pt),(ar:Bool)⟩,⟨(t1:Int),(t2:Int),(t3:Int),(t4:Int),(t5:Int),(t6:Int),(t7:Int)⟩⟩ _ (hp:vo (aj,ak,an,ao,ah,aq,ai,ar) (t1,t2,t3,t4,t5,t6,t7))
 show vc _ _ _ _ (entry [.a [.vz ab aj,.vz ag ak,.vz ag an,.int ao,.vz ae ah,.int aq,.vz ae ai,.q ar],.a [.int t1,.int t2,.int t3,.int t4,.int t5,.int t6,.int t7]] []) _
 obtain⟨hg,hd⟩:=hp
 refine⟨⟨⟨⟨aa,aa,aa,aa,aa,aa,aa,aa,aa⟩,⟨aa,aa,aa,aa,aa,aa,aa,aa⟩,aa⟩,?_,?_⟩,fun |false=>fun w1=>?_ |true=>fun w2=>?_⟩
 all_goals first|refine aw ?_|refine ax ?_|exact ba|(dsimp only [kz,kG];omega)|exact a8|exact hg|exact hd|skip
 ·refine⟨[],[],_,_,_,rfl,az,(),aa,?_,?_,rfl⟩
  ·(show _=nN (aj,ak,an,ao,ah,aq,ai,ar) (t1,t2,t3,t4,t5,t6,t7));unfold nN;first|(rw [←zo (s:=(aj,ak,an,ao,ah,aq,ai,ar)) (t:=(t1,t2,t3,t4,t5,t6,t7))];rfl)|rfl
  ·rfl
 ·refine⟨[],[],_,_,_,rfl,az,(),aa,?_,?_,rfl⟩
  ·(show _=nN (aj,ak,an,ao,ah,aq,ai,ar) (t1,t2,t3,t4,t5,t6,t7));unfold nN;first|(rw [←zo (s:=(aj,ak,an,ao,ah,aq,ai,ar)) (t:=(t1,t2,t3,t4,t5,t6,t7))];rfl)|rfl
  ·rfl
end
end GL
end Go.Proofs.YtbfgjadbfjkcdaaGreatDoor
