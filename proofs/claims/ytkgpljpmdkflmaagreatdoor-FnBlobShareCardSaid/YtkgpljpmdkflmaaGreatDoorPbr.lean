/- Part 44 of A drawn law. -/
import Derived.Test.YtkgpljpmdkflmaaGreatDoorPbq
set_option maxHeartbeats 20000000
set_option maxRecDepth 100000
set_option linter.all false
namespace Go.Proofs.YtkgpljpmdkflmaaGreatDoor
namespace GL
noncomputable section
structure KI (s:ay):Prop where
 len:s.rows.length=64
 sp:rF (s.refs,s.last)=true
 cj:1≤s.cj∧s.cj≤900
 ca:0≤s.ca∧s.ca≤s.cj-1
 P7:∀i,i<64→nth ag s.last i≤s.cj
 row:∀i,i<64→(nth ab s.rows i).size≤128∧decide (nth ab s.rows i=⟨#[]⟩)=decide (nth ag s.refs i=(0:Int))
 gone:∀p∈s.gone,aZ p=true∧au p=false∧p.2.1≤s.cj-1
 dead:∀p∈s.dead,aZ p=true∧au p=false∧p.2.1≤s.ca
 bo:∀r,r<64→((bo s.gone r+bo s.dead r:Nat):Int)≤qL s r
def iJ (s:ay):Bool:= @decide (KI s) (Classical.propDecidable _)
theorem UW {s:ay}(h:KI s):iJ s=true:=by unfold iJ;exact @decide_eq_true _ (Classical.propDecidable _) h
theorem mF {s:ay}(h:¬KI s):iJ s=false:=by unfold iJ;exact @decide_eq_false _ (Classical.propDecidable _) h
theorem QK {s:ay}:iJ s=true↔KI s:=by unfold iJ;exact @decide_eq_true_iff _ (Classical.propDecidable _)
theorem QO {p:List Int×List Int}(h:rF p=true):p.1.length=64∧p.2.length=64:=by
 cases h1:decide ((p.1.length:Int)≠64) with
 |true=>rw [NZ h1] at h;cases h
 |false=>
  cases h2:decide ((p.2.length:Int)≠64) with
  |true=>rw [NY h2] at h;cases h
  |false=>
   have:=aA (p:=¬(p.1.length:Int)=64) h1;have:=aA (p:=¬(p.2.length:Int)=64) h2
   omega
theorem adx:∀(l:List Int),0<l.length→∃z:Int,(∀j,j<l.length→nth ag l j≤z)∧∃j,j<l.length∧nth ag l j=z
 |[a],_=>⟨a,fun j hj=>by rw [show j=0 by simpa using hj];exact ZC1 _,0,by simp,rfl⟩
 |a::b::l,_=>by
  obtain⟨z,h1,k,h2,h3⟩:=adx (b::l) (by simp)
  by_cases e:a≤z
  ·refine⟨z,fun j hj=>?_,k+1,by simpa using h2,h3⟩
   cases j with
   |zero=>exact e
   |succ j=>exact h1 j (by simpa using hj)
  ·refine⟨a,fun j hj=>?_,0,by simp,rfl⟩
   cases j with
   |zero=>exact ZC1 _
   |succ j=>exact ZE0 (h1 j (by simpa using hj)) (by omega)
section
variable {s:ay}
theorem aiB (h:decide ((s.rows.length:Int)≠64)=true):iJ s=false:=mF fun k=>by have:=aJ h;have:=k.len;omega
theorem aiA (h:(!(rF (s.refs,s.last)))=true):iJ s=false:=mF fun k=>by rw [k.sp] at h;cases h
theorem aiz (h:(!(iB s.cj 1 900))=true):iJ s=false:=mF fun k=>by rw [cD.2 k.cj] at h;cases h
theorem aiy (h:(!(iB s.ca 0 (s.cj-1)))=true):iJ s=false:=mF fun k=>by rw [cD.2 k.ca] at h;cases h
theorem akv {m:Int}(hl:s.last.length=64) (hx:∃j,j<s.last.length∧nth ag s.last j=m) (h:decide (m>s.cj)=true):iJ s=false:=mF fun k=>by
 obtain⟨j,h1,h2⟩:=hx
 have h3:=k.P7 j (by omega)
 rw [h2] at h3
 have:=aJ h
 exact absurd h3 (Int.not_le.2 this)
end
def BC (s:ay) (i:Nat):Bool:=bif decide (((nth ab s.rows i).size:Int)>128) then false else !(bne (decide (nth ab s.rows i=⟨#[]⟩)) (decide (nth ag s.refs i=(0:Int))))
theorem uQ (n r:Nat):nth ag (List.replicate n (EK.zero ag)) r=(0:Int):=by
 by_cases h:r<(List.replicate n (EK.zero ag)).length
 ·exact (ZD6.1 (bS (ek:=ag) h)).2
 ·exact tB (ek:=ag) (by omega)
section
variable {s:ay}{i:Nat}
theorem acC (h:decide (((nth ab s.rows i).size:Int)>128)=true):BC s i=false:=by unfold BC;rw [h];rfl
theorem acB (h:bne (decide (nth ab s.rows i=⟨#[]⟩)) (decide (nth ag s.refs i=(0:Int)))=true):BC s i=false:=by unfold BC;rw [h];cases decide (((nth ab s.rows i).size:Int)>128)<;>rfl
theorem acA (h:decide (((nth ab s.rows i).size:Int)>128)=false) (h2:bne (decide (nth ab s.rows i=⟨#[]⟩)) (decide (nth ag s.refs i=(0:Int)))=false):BC s i=true:=by unfold BC;rw [h,h2];rfl
theorem GO:BC s i=true↔(nth ab s.rows i).size≤128∧decide (nth ab s.rows i=⟨#[]⟩)=decide (nth ag s.refs i=(0:Int)):=by
 unfold BC
 cases h:decide (((nth ab s.rows i).size:Int)>128) with
 |true=>have:=aJ h;exact⟨fun h=>(by cases h),fun h=>absurd h.1 (by omega)⟩
 |false=>
  have:=aA h
  rw [cond_false]
  cases decide (nth ab s.rows i=⟨#[]⟩)<;>cases decide (nth ag s.refs i=(0:Int))<;>simp<;>omega
theorem zy {ix:Int}{p:Pt}:fj s ix p=true↔aZ p=true∧au p=false∧p.2.1≤ix∧nth ag s.refs p.1.toNat≠(0:Int):=by
 unfold fj
 simp only [ZA9,ZF8,decide_eq_false_iff_not,ZG8]
theorem UC {l:List Pt}{p:Pt}(h:p∈l) (hh:au p=false):0<bo l (at' p):=List.countP_pos_iff.2 ⟨p,h,by simp [K0,hh]⟩
theorem KI.ahi (k:KI s):s.gone.all (fj s (s.cj-1))=true:=ZC8.2 fun p hp=>by
 obtain⟨h1,h2,h3⟩:=k.gone p hp
 refine zy.2 ⟨h1,h2,h3,fun h=>?_⟩
 have h4:=k.bo (at' p) (sw h1);have h5:=UC hp h2
 rw [show qL s (at' p)=0 from h] at h4;omega
theorem KI.ahj (k:KI s):s.dead.all (fj s s.ca)=true:=ZC8.2 fun p hp=>by
 obtain⟨h1,h2,h3⟩:=k.dead p hp
 refine zy.2 ⟨h1,h2,h3,fun h=>?_⟩
 have h4:=k.bo (at' p) (sw h1);have h5:=UC hp h2
 rw [show qL s (at' p)=0 from h] at h4;omega
theorem afu (hi:i<64) (h:BC s i=false):iJ s=false:=mF fun k=>by rw [GO.2 (k.row i hi)] at h;cases h
theorem aku (h:s.gone.all (fj s (s.cj-1))=false):iJ s=false:=mF fun k=>by rw [k.ahi] at h;cases h
theorem akt (h:s.dead.all (fj s s.ca)=false):iJ s=false:=mF fun k=>by rw [k.ahj] at h;cases h
theorem aks {r:Nat}(hr:r<64) (h:¬((bo s.gone r+bo s.dead r:Nat):Int)≤qL s r):iJ s=false:=mF fun k=>h (k.bo r hr)
end
def tn (S:ay):Prop:=S.gone.length≤1000000∧S.dead.length≤1000000
def bP (S:ay):AV:=.s (.q (iJ S))
def R1 (S:ay):List AV:=[]
def yZ:ct where
 A:=[.a xy]
 B:=[]
 pre:=fun x b=>tn x
 r:=fun x b _=>bP x
 o:=fun x b _=>R1 x
theorem W4:Has Tryz.prog 59 yZ:=by
 refine Has.zC zT zF zF (l:=[(104,kU),(66,cB),(105,y5),(106,uh)]) ⟨yI,gn,W6,PE,aa⟩ Tryz.func59 ?_
 rintro⟨(aj:List ByteArray),(ak:List Int),(an:List Int),(ao:Int),(ah:List Pt),(aq:Int),(ai:List Pt),(ar:Bool)⟩ _ (hp:tn (aj,ak,an,ao,ah,aq,ai,ar))
 show vc _ _ _ _ (entry [.a [.vz ab aj,.vz ag ak,.vz ag an,.int ao,.vz ae ah,.int aq,.vz ae ai,.q ar]] []) _
 obtain⟨(hg:ah.length≤1000000),(hd:ai.length≤1000000)⟩:=hp
 have hla:(!(rF (ak,an)))=false→ak.length=64∧an.length=64:=fun h=>QO (cM h)
 have hxt:(!(iB ao 1 900))=false→1≤ao∧ao≤900:=fun h=>cD.1 (cM h)
 have hxk:(!(iB aq 0 (ao-1)))=false→0≤aq∧aq≤ao-1:=fun h=>cD.1 (cM h)
 refine⟨Sq1,Sq9,rfl,[.s 9,.b 1001],Sq10,rfl,Sq10,Sq11,rfl,Sq11,Sq12,rfl,Sq12,Sq13,rfl,aa,fun w1=>⟨Sq13,Sq14,rfl,Sq13,Sq15,rfl,Sq13,Sq16,rfl,Sq13,Sq17,rfl,[.s 13,.s 17],Sq18,rfl,Sq18,Sq19,rfl,Sq19,Sq20,rfl,Sq19,Sq21,rfl,Sq19,Sq22,rfl,Sq19,Sq23,rfl,[.s 19,.s 23],Sq24,rfl,Sq24,Sq25,rfl,Sq25,Sq26,rfl,Sq25,Sq27,rfl,Sq25,Sq28,rfl,Sq25,Sq29,rfl,Sq25,Sq30,rfl,Sq25,Sq31,rfl,Sq25,Sq32,rfl,[.s 25,.s 32],Sq33,rfl,Sq33,Sq34,rfl,Sq34,Sq35,rfl,Sq34,Sq36,rfl,Sq34,Sq37,rfl,Sq34,Sq38,rfl,Sq34,Sq39,rfl,Sq34,Sq40,rfl,Sq34,Sq41,rfl,[.s 34,.s 41],Sq42,rfl,?_⟩,fun w2=>⟨[.s 13,.s 1],Sq14,rfl,[.s 13,.s 14,.b 1001],Sq15,rfl,[.s 13,.s 15],Sq16,rfl,⟨⟨⟨aa,aa,aa⟩,aa⟩,aa⟩,?_,fun x3 w4=>⟨[.s 13,.s 16],Sq17,rfl,[.s 13,.s 17],Sq18,rfl,Sq18,Sq19,rfl,aa,fun w5=>⟨Sq19,Sq20,rfl,Sq19,Sq21,rfl,Sq19,Sq22,rfl,Sq19,Sq23,rfl,[.s 19,.s 23],Sq24,rfl,Sq24,Sq25,rfl,Sq25,Sq26,rfl,Sq25,Sq27,rfl,Sq25,Sq28,rfl,Sq25,Sq29,rfl,Sq25,Sq30,rfl,Sq25,Sq31,rfl,Sq25,Sq32,rfl,[.s 25,.s 32],Sq33,rfl,Sq33,Sq34,rfl,Sq34,Sq35,rfl,Sq34,Sq36,rfl,Sq34,Sq37,rfl,Sq34,Sq38,rfl,Sq34,Sq39,rfl,Sq34,Sq40,rfl,Sq34,Sq41,rfl,[.s 34,.s 41],Sq42,rfl,?_⟩,fun w6=>⟨[.s 19,.s 1],Sq20,rfl,[.s 19,.s 20,.b 1001],Sq21,rfl,[.s 19,.s 21],Sq22,rfl,⟨⟨aa,aa,aa,aa⟩,aa⟩,?_,fun x7 w8=>⟨[.s 19,.s 22],Sq23,rfl,[.s 19,.s 23],Sq24,rfl,Sq24,Sq25,rfl,aa,fun w9=>⟨Sq25,Sq26,rfl,Sq25,Sq27,rfl,Sq25,Sq28,rfl,Sq25,Sq29,rfl,Sq25,Sq30,rfl,Sq25,Sq31,rfl,Sq25,Sq32,rfl,[.s 25,.s 32],Sq33,rfl,Sq33,Sq34,rfl,Sq34,Sq35,rfl,Sq34,Sq36,rfl,Sq34,Sq37,rfl,Sq34,Sq38,rfl,Sq34,Sq39,rfl,Sq34,Sq40,rfl,Sq34,Sq41,rfl,[.s 34,.s 41],Sq42,rfl,?_⟩,fun dy=>⟨[.s 25,.s 1],Sq26,rfl,[.s 25,.s 26,.b 1001],Sq27,rfl,[.s 25,.s 1],Sq28,rfl,[.s 25,.s 28,.b 1001],Sq29,rfl,[.s 25,.s 29],Sq30,rfl,⟨?_,?_⟩,[.s 25,.s 27,.s 30],Sq31,rfl,⟨⟨aa,aa,aa,aa⟩,aa⟩,?_,fun kB dK=>⟨[.s 25,.s 31],Sq32,rfl,[.s 25,.s 32],Sq33,rfl,Sq33,Sq34,rfl,aa,fun iV=>⟨Sq34,Sq35,rfl,Sq34,Sq36,rfl,Sq34,Sq37,rfl,Sq34,Sq38,rfl,Sq34,Sq39,rfl,Sq34,Sq40,rfl,Sq34,Sq41,rfl,[.s 34,.s 41],Sq42,rfl,?_⟩,fun gP=>⟨[.s 34,.s 1],Sq35,rfl,[.s 34,.s 35],Sq36,rfl,[.s 34,.s 36,.b 1001],Sq37,rfl,[.s 34,.s 37],Sq38,rfl,⟨⟨aa,aa⟩,?_,?_⟩,?_,fun kA ki=>⟨[.s 34,.s 1],Sq39,rfl,[.s 34,.s 39,.b 1001],Sq40,rfl,[.s 34,.s 38,.s 40],Sq41,rfl,[.s 34,.s 41],Sq42,rfl,fun xk=>?_,fun rV=>?_⟩⟩⟩⟩⟩⟩⟩⟩⟩
 all_goals first|refine aw ?_|refine ax ?_|exact a8|(dsimp only [kU,lR,cB,dq,y5,vl,uh,sk];omega)|exact a7|(show (-9223372036854775808:Int)≤ao-1;have:=hxt dy;omega)|(show ao-1≤(9223372036854775807:Int);have:=hxt dy;omega)|(show 0<an.length;rw [(hla w6).2];decide)|(show an.length≤1000000;rw [(hla w6).2];decide)|exact adx an (by rw [(hla w6).2];decide)|skip
 ·refine⟨[],[],_,_,_,rfl,az,(),aa,?_,?_,rfl⟩
  ·(show _=bP (aj,ak,an,ao,ah,aq,ai,ar));unfold bP;first|(rw [aiB (s:=(aj,ak,an,ao,ah,aq,ai,ar)) w1];rfl)|rfl
  ·rfl
 ·refine⟨[],[],_,_,_,rfl,az,(),aa,?_,?_,rfl⟩
  ·(show _=bP (aj,ak,an,ao,ah,aq,ai,ar));unfold bP;first|(rw [aiA (s:=(aj,ak,an,ao,ah,aq,ai,ar)) w5];rfl)|rfl
  ·rfl
 ·refine⟨[],[],_,_,_,rfl,az,(),aa,?_,?_,rfl⟩
  ·(show _=bP (aj,ak,an,ao,ah,aq,ai,ar));unfold bP;first|(rw [aiz (s:=(aj,ak,an,ao,ah,aq,ai,ar)) w9];rfl)|rfl
  ·rfl
 ·refine⟨[],[],_,_,_,rfl,az,(),aa,?_,?_,rfl⟩
  ·(show _=bP (aj,ak,an,ao,ah,aq,ai,ar));unfold bP;first|(rw [aiy (s:=(aj,ak,an,ao,ah,aq,ai,ar)) iV];rfl)|rfl
  ·rfl
 ·refine⟨[],[],_,_,_,rfl,az,(),aa,?_,?_,rfl⟩
  ·(show _=bP (aj,ak,an,ao,ah,aq,ai,ar));unfold bP;first|(rw [akv (s:=(aj,ak,an,ao,ah,aq,ai,ar)) (hla w6).2 ki.2 xk];rfl)|rfl
  ·rfl
 have hlen:aj.length=64:=by have:=aA w2;omega
 have hrl:=hla w6
 have hsp:rF (ak,an)=true:=cM w6
 have htx:=hxt dy
 have hkp:=hxk gP
 have hyo:∀i,i<64→nth ag an i≤ao:=fun i hi=>ZE0 (ki.1 i (show i<an.length by rw [hrl.2];exact hi)) (ZG8.1 (aA (p:=(show Int from kA)>ao) rV))
 have hz0:∀r,nth ag (List.replicate (Int.toNat 64) (EK.zero ag)) r=(0:Int):=fun r=>uQ _ r
 have hz1:∀r,(0:Int)≤nth ag (List.replicate (Int.toNat 64) (EK.zero ag)) r:=fun r=>by rw [hz0];exact ZC1 _
 have hz2:∀r,nth ag (List.replicate (Int.toNat 64) (EK.zero ag)) r≤(1000000:Int):=fun r=>by rw [hz0];decide
 have hz3:∀r,(nth ag (List.replicate (Int.toNat 64) (EK.zero ag)) r+(ah.length:Int):Int)≤(1000000:Int):=fun r=>by rw [hz0];show (0:Int)+_≤_;omega
 refine l4 (l:=[(104,kU),(66,cB),(105,y5),(106,uh)]) (ex:=zT) (wr:=zF) (pt:=zF) ⟨yI,gn,W6,PE,trivial⟩ [.s 1,.b 1001,.s 44,.s 45] (fun i:Nat=>[(.s 46,.int i)]) (fun i=>i≤64∧∀j,j<i→BC (aj,ak,an,ao,ah,aq,ai,ar) j=true) (fun i=>64-i) 0 [] ⟨ZA7 _,fun j hj=>absurd hj (by omega)⟩ dN ?_
 rintro i ⟨(hi:i≤64),hj⟩
 have cq:decide ((i:Int)<(aj.length:Int))=true→i<64:=fun h=>by have:=aJ h;omega
 refine⟨fun w1=>⟨⟨?_,?_⟩,aa,fun w2=>?_,fun w3=>⟨⟨?_,?_⟩,fun w4=>?_,fun w5=>⟨⟨?_,?_⟩,?_⟩⟩⟩,fun w6=>⟨⟨?_,?_,?_⟩,⟨?_,?_⟩,⟨⟨aa,aa,aa,aa,aa⟩,?_,?_,?_,?_,fun x7=>⟨?_,?_⟩⟩,fun x8 w9=>⟨aa,fun dy=>?_,fun kC=>⟨⟨⟨aa,aa,aa,aa,aa⟩,?_,?_,?_,?_,fun x12=>⟨?_,?_⟩⟩,fun rZ gP=>⟨fun qN=>?_,fun ki=>?_⟩⟩⟩⟩⟩
 all_goals first|refine aw ?_|refine ax ?_|exact a8|(dsimp only [kU,lR,cB,dq,y5,vl,uh,sk];omega)|exact a7|(show (i:Int)<(ak.length:Int);rw [hrl.1];exact Int.ofNat_lt.2 (cq w1))|exact hrl.1|exact hz1 _|exact hz2 _|exact w9.1.symm|exact w9.1|exact (w9.2.1 _).1|exact ZE0 (w9.2.1 _).2 (hz3 _)|exact hg|exact hd|skip
 ·refine⟨[],[],_,_,_,rfl,az,(),aa,?_,?_,rfl⟩
  ·(show _=bP (aj,ak,an,ao,ah,aq,ai,ar));unfold bP;first|(rw [afu (s:=(aj,ak,an,ao,ah,aq,ai,ar)) (cq w1) (acC (s:=(aj,ak,an,ao,ah,aq,ai,ar)) w2)];rfl)|rfl
  ·rfl
 ·refine⟨[],[],_,_,_,rfl,az,(),aa,?_,?_,rfl⟩
  ·(show _=bP (aj,ak,an,ao,ah,aq,ai,ar));unfold bP;first|(rw [afu (s:=(aj,ak,an,ao,ah,aq,ai,ar)) (cq w1) (acB (s:=(aj,ak,an,ao,ah,aq,ai,ar)) w4)];rfl)|rfl
  ·rfl
 ·refine⟨(i+1),[],?_,?_,?_⟩
  rotate_right
  ·exact bW
  ·refine⟨cq w1,fun j yM=>?_⟩
   by_cases e:j=i
   ·rw [e];exact acA (s:=(aj,ak,an,ao,ah,aq,ai,ar)) w3 w5
   ·exact hj j (by omega)
  ·show 64-(i+1)<64-i;have:=cq w1;omega
 ·refine⟨[],[],_,_,_,rfl,az,(),aa,?_,?_,rfl⟩
  ·(show _=bP (aj,ak,an,ao,ah,aq,ai,ar));unfold bP;first|(rw [aku (s:=(aj,ak,an,ao,ah,aq,ai,ar)) (ux dy)];rfl)|rfl
  ·rfl
 ·refine⟨[],[],_,_,_,rfl,az,(),aa,?_,?_,rfl⟩
  ·(show _=bP (aj,ak,an,ao,ah,aq,ai,ar));unfold bP;first|(rw [akt (s:=(aj,ak,an,ao,ah,aq,ai,ar)) (ux qN)];rfl)|rfl
  ·rfl
 ·have abO:∀j,j<64→BC (aj,ak,an,ao,ah,aq,ai,ar) j=true:=fun j yM=>hj j (by have:=aA w6;omega)
  have hgo:ah.all (fj (aj,ak,an,ao,ah,aq,ai,ar) (ao-1))=true:=cM kC
  have hde:ai.all (fj (aj,ak,an,ao,ah,aq,ai,ar) aq)=true:=cM ki
  have hc1:∀r,(nth ag (show List Int from x8) r:Int)=(bo ah r:Int):=fun r=>(w9.2.2 hgo r).trans (show (nth ag (List.replicate (Int.toNat 64) (EK.zero ag)) r+(bo ah r:Int):Int)=_ by rw [hz0,Int.zero_add])
  have hcn:∀r,(nth ag (show List Int from rZ) r:Int)=((bo ah r+bo ai r:Nat):Int):=fun r=>(gP.2.2 hde r).trans (show (nth ag (show List Int from x8) r+(bo ai r:Int):Int)=_ by rw [hc1];rfl)
  have hx8:List.length (show List Int from x8)=64:=w9.1
  have hx:List.length (show List Int from rZ)=64:=gP.1
  refine l4 (l:=[(104,kU),(66,cB),(105,y5),(106,uh)]) (ex:=zT) (wr:=zF) (pt:=zF) ⟨yI,gn,W6,PE,trivial⟩ [.s 1,.b 1001,.s 86,.s 87,.b 1067] (fun i:Nat=>[(.s 88,.int i)]) (fun i=>i≤64∧∀j,j<i→(nth ag rZ j:Int)≤nth ag ak j) (fun i=>64-i) 0 [] ⟨ZA7 _,fun j hj=>absurd hj (by omega)⟩ dN ?_
  clear hj cq hi
  rintro i ⟨(hi:i≤64),hj⟩
  have cq:decide ((i:Int)<(List.length (show List Int from x8):Int))=true→i<64:=fun h=>by have:=aJ h;omega
  have oe:decide ((i:Int)<(List.length (show List Int from x8):Int))=false→i=64:=fun h=>by have:=aA h;omega
  refine⟨fun w1=>⟨⟨?_,?_⟩,⟨?_,⟨⟨?_,?_⟩,⟨fun w2=>?_,fun w3=>⟨⟨?_,?_⟩,?_⟩⟩⟩⟩⟩,fun w4=>?_⟩
  all_goals first|refine aw ?_|refine ax ?_|exact a8|(dsimp only [kU,lR,cB,dq,y5,vl,uh,sk];omega)|exact a7|(show i<List.length (show List Int from rZ);rw [hx];exact cq w1)|(show (i:Int)<(ak.length:Int);rw [hrl.1];exact Int.ofNat_lt.2 (cq w1))|skip
  ·refine⟨[],[],_,_,_,rfl,az,(),aa,?_,?_,rfl⟩
   ·(show _=bP (aj,ak,an,ao,ah,aq,ai,ar));unfold bP;first|(rw [aks (s:=(aj,ak,an,ao,ah,aq,ai,ar)) (cq w1) (fun h=>by rw [←hcn i] at h;exact absurd h (Int.not_le.2 (aJ w2)))];rfl)|rfl
   ·rfl
  ·refine⟨(i+1),[],?_,?_,?_⟩
   rotate_right
   ·exact bW
   ·refine⟨cq w1,fun j yM=>?_⟩
    by_cases e:j=i
    ·rw [e];exact ZG8.1 (aA w3)
    ·exact hj j (by omega)
   ·show 64-(i+1)<64-i;have:=cq w1;omega
  ·have e:iJ (aj,ak,an,ao,ah,aq,ai,ar)=true:=UW
    {len:=hlen,sp:=hsp,cj:=htx,ca:=hkp,P7:=hyo,row:=fun j yM=>GO.1 (abO j yM)
     gone:=fun p hp=>by
      have:=zy.1 (ZC8.1 hgo p hp)
      exact⟨this.1,this.2.1,this.2.2.1⟩
     dead:=fun p hp=>by
      have:=zy.1 (ZC8.1 hde p hp)
      exact⟨this.1,this.2.1,this.2.2.1⟩
     bo:=fun r hr=>by rw [←hcn r];exact hj r (by rw [oe w4];exact hr) }
   refine⟨[],[],_,_,_,rfl,az,(),aa,?_,?_,rfl⟩
   ·(show _=bP (aj,ak,an,ao,ah,aq,ai,ar));unfold bP;first|(rw [e];rfl)|rfl
   ·rfl
end
end GL
namespace GL
noncomputable section
def yn (l:List Pt):Prop:=l.length≤1000000
def VP (l:List Pt) (z:Bool):Prop:=z=true→l=[]
def pP (l:List Pt) (z:Bool):AV:=match z with |true=>.s (.v (.slice none 0 0)) |false=>.s (.xs 0 5 0 l.length)
def sr (l:List Pt) (z:Bool):List AV:=match z with |true=>[.zz] |false=>[.rs ae l]
def J4:ct where
 A:=[.s (.vz ae)]
 B:=[]
 pre:=fun x b=>yn x
 α:=fun _ _=>Bool
 φ:=fun x b z=>VP x z
 r:=fun x b z=>pP x z
 o:=fun x b z=>sr x z
 nf:=1
theorem adY:Has Tryz.prog 61 J4:=by
 refine Has.WN zT zF zF (l:=[]) trivial Tryz.func61 ?_
 rintro (l:List Pt) _ (hp:yn l)
 show vc _ _ _ _ (entry [.s (.vz ae l)] []) _
 have hp:l.length≤1000000:=hp
 refine⟨?_,fun |false=>fun w1=>⟨fun w2=>?_,fun w3=>⟨aa,⟨⟨?_,?_⟩,aa⟩,?_⟩⟩ |true=>fun w4=>⟨fun w5=>?_,fun w6=>⟨aa,⟨⟨?_,?_⟩,aa⟩,?_⟩⟩⟩
 all_goals first|refine aw ?_|refine ax ?_|exact a8|exact a7|(show 0+l.length≤1048576;omega)|exact⟨false,fun h=>by cases h⟩|skip
 ·cases w2
 ·refine⟨[1007],[],_,_,_,rfl,az,false,0,(w1),?_,?_,rfl⟩
  ·(show _=pP l false);unfold pP;first|((show AV.s (.xs 0 5 0 (0+l.length))=AV.s (.xs 0 5 0 l.length);rw [ZA6]))|((show [AV.rs ae ([]++l)]=[AV.rs ae l];rfl))|rfl
  ·(show _=sr l false);unfold sr;first|((show AV.s (.xs 0 5 0 (0+l.length))=AV.s (.xs 0 5 0 l.length);rw [ZA6]))|((show [AV.rs ae ([]++l)]=[AV.rs ae l];rfl))|rfl
 ·refine⟨[],[],_,_,_,rfl,az,true,1,(w4),?_,?_,rfl⟩
  ·(show _=pP l true);unfold pP;first|(rw [rfl];rfl)|rfl
  ·(show _=sr l true);unfold sr;first|(rw [rfl];rfl)|rfl
 ·cases w6
def pA (s:ay) (t:bf):List Pt×Bool:=bif iJ s&&qM s t then ((bB s t).1.take t.many.toNat,true) else ([],false)
theorem YG {s:ay}{t:bf}:(pA s t).2=(iJ s&&qM s t):=by unfold pA;cases iJ s&&qM s t<;>rfl
theorem aaC {s:ay}{t:bf}(h:iJ s=false):pA s t=([],false):=by unfold pA;rw [h];rfl
theorem K8 {s:ay}{t:bf}(h:qM s t=false):pA s t=([],false):=by unfold pA;rw [h,ZD7];rfl
theorem K7 {s:ay}{t:bf}(h:iJ s=true) (h2:qM s t=true):pA s t=((bB s t).1.take t.many.toNat,true):=by unfold pA;rw [h,h2];rfl
theorem KI.rd {s:ay}(k:KI s):s.rd:=⟨k.len,fun x hx=>by
 obtain⟨i,hi,rfl⟩:=List.getElem_of_mem hx
 have h1:=(k.row i (by have:=k.len;omega)).1
 unfold nth at h1;rw [ZB1 hi] at h1;exact ZB0 h1 (by omega)⟩
theorem Y5 {s:ay}{t:bf}(h:qM s t=true):lZ t=false:=by
 cases hb:lZ t with
 |false=>rfl
 |true=>rw [DW hb] at h;cases h
theorem ahq {s:ay}{t:bf}(h:qM s t=true):t.rd:=HP (Y5 h)
theorem SX {s:ay}:∀{f:Nat}{lv:Int}{l:List Pt},lv<(f:Int)→(tH s f lv l).2=true→(tH s f lv l).1.length=l.length*4 ^ lv.toNat
 |0,lv,l,h,_=>by
  rw [show lv.toNat=0 by omega];exact (Nat.mul_one _).symm
 |f+1,lv,l,h,h2=>by
  cases hp:decide (lv>0) with
  |false=>
   have:=aA hp
   rw [vy hp,show lv.toNat=0 by omega];exact (Nat.mul_one _).symm
  |true=>
   have hp':=aJ hp
   match e:fy s lv l [] with
   |none=>rw [H4 hp e] at h2;cases h2
   |some n=>
    rw [CI hp e] at h2 ⊢
    rw [SX (by omega) h2,r6 e,show lv.toNat=(lv-1).toNat+1 by omega,Nat.pow_succ]
    show (0+4*l.length)*_=_
    rw [ZA6,Nat.mul_comm 4,Nat.mul_assoc,Nat.mul_comm 4]
theorem adp {s:ay}{t:bf}(h:qM s t=true):t.many.toNat≤(bB s t).1.length:=by
 have hb:=Y5 h
 have hl:(bB s t).2=true:=by
  cases hl: !(bB s t).2 with
  |false=>exact cM hl
  |true=>rw [Y7 hb hl] at h;cases h
 unfold lZ at hb
 simp only [ZE1,decide_eq_false_iff_not,ZE9] at hb
 obtain⟨h1,h2,h3⟩:=hb
 have:=pq t.many
 refine SR (cM h1) ?_
 have e:=SX (s:=s) (f:=3) (lv:=t.depth) (l:=[t.root]) (by omega) hl
 rw [←h2];exact e.trans (Nat.one_mul _)
end
end GL
end Go.Proofs.YtkgpljpmdkflmaaGreatDoor
