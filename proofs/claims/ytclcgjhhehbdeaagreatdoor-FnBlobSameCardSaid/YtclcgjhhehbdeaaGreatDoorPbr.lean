/- A drawn law returns true for every code (its row lists package variables, tied by the card): part 44. -/
import Derived.Test.YtclcgjhhehbdeaaGreatDoorPbq
set_option maxHeartbeats 20000000
set_option maxRecDepth 100000
set_option linter.all false
namespace Go.Proofs.YtclcgjhhehbdeaaGreatDoor
namespace GL
noncomputable section
structure KE (s:ay):Prop where
 len:s.rows.length=64
 sp:ry (s.refs,s.last)=true
 cg:1≤s.cg∧s.cg≤900
 bZ:0≤s.bZ∧s.bZ≤s.cg-1
 P3:∀i,i<64→nth ag s.last i≤s.cg
 row:∀i,i<64→(nth ab s.rows i).size≤128∧decide (nth ab s.rows i=⟨#[]⟩)=decide (nth ag s.refs i=(0:Int))
 gone:∀p∈s.gone,aZ p=true∧au p=false∧p.2.1≤s.cg-1
 dead:∀p∈s.dead,aZ p=true∧au p=false∧p.2.1≤s.bZ
 bn:∀r,r<64→((bn s.gone r+bn s.dead r:Nat):Int)≤qE s r
def iG (s:ay):Bool:= @decide (KE s) (Classical.propDecidable _)
theorem US {s:ay}(h:KE s):iG s=true:=by unfold iG;exact @decide_eq_true _ (Classical.propDecidable _) h
theorem my {s:ay}(h:¬KE s):iG s=false:=by unfold iG;exact @decide_eq_false _ (Classical.propDecidable _) h
theorem QG {s:ay}:iG s=true↔KE s:=by unfold iG;exact @decide_eq_true_iff _ (Classical.propDecidable _)
theorem QK {p:List Int×List Int}(h:ry p=true):p.1.length=64∧p.2.length=64:=by
 cases h1:decide ((p.1.length:Int)≠64) with
 |true=>rw [NV h1] at h;cases h
 |false=>
  cases h2:decide ((p.2.length:Int)≠64) with
  |true=>rw [NU h2] at h;cases h
  |false=>
   have:=aA (p:=¬(p.1.length:Int)=64) h1;have:=aA (p:=¬(p.2.length:Int)=64) h2
   omega
theorem adt:∀(l:List Int),0<l.length→∃z:Int,(∀j,j<l.length→nth ag l j≤z)∧∃j,j<l.length∧nth ag l j=z
 |[a],_=>⟨a,fun j hj=>by rw [show j=0 by simpa using hj];exact ZC1 _,0,by simp,rfl⟩
 |a::b::l,_=>by
  obtain⟨z,h1,k,h2,h3⟩:=adt (b::l) (by simp)
  by_cases e:a≤z
  ·refine⟨z,fun j hj=>?_,k+1,by simpa using h2,h3⟩
   cases j with
   |zero=>exact e
   |succ j=>exact h1 j (by simpa using hj)
  ·refine⟨a,fun j hj=>?_,0,by simp,rfl⟩
   cases j with
   |zero=>exact ZC1 _
   |succ j=>exact ZE0 (h1 j (by simpa using hj)) (by omega)
section
variable {s:ay}
theorem aiA (h:decide ((s.rows.length:Int)≠64)=true):iG s=false:=my fun k=>by have:=aJ h;have:=k.len;omega
theorem aiz (h:(!(ry (s.refs,s.last)))=true):iG s=false:=my fun k=>by rw [k.sp] at h;cases h
theorem aiy (h:(!(ig s.cg 1 900))=true):iG s=false:=my fun k=>by rw [cC.2 k.cg] at h;cases h
theorem aix (h:(!(ig s.bZ 0 (s.cg-1)))=true):iG s=false:=my fun k=>by rw [cC.2 k.bZ] at h;cases h
theorem aks {m:Int}(hl:s.last.length=64) (hx:∃j,j<s.last.length∧nth ag s.last j=m) (h:decide (m>s.cg)=true):iG s=false:=my fun k=>by
 obtain⟨j,h1,h2⟩:=hx
 have h3:=k.P3 j (by omega)
 rw [h2] at h3
 have:=aJ h
 exact absurd h3 (Int.not_le.2 this)
end
def A7 (s:ay) (i:Nat):Bool:=bif decide (((nth ab s.rows i).size:Int)>128) then false else !(bne (decide (nth ab s.rows i=⟨#[]⟩)) (decide (nth ag s.refs i=(0:Int))))
theorem uJ (n r:Nat):nth ag (List.replicate n (EK.zero ag)) r=(0:Int):=by
 by_cases h:r<(List.replicate n (EK.zero ag)).length
 ·exact (ZD6.1 (bR (ek:=ag) h)).2
 ·exact tn (ek:=ag) (by omega)
section
variable {s:ay}{i:Nat}
theorem acy (h:decide (((nth ab s.rows i).size:Int)>128)=true):A7 s i=false:=by unfold A7;rw [h];rfl
theorem acx (h:bne (decide (nth ab s.rows i=⟨#[]⟩)) (decide (nth ag s.refs i=(0:Int)))=true):A7 s i=false:=by unfold A7;rw [h];cases decide (((nth ab s.rows i).size:Int)>128)<;>rfl
theorem acw (h:decide (((nth ab s.rows i).size:Int)>128)=false) (h2:bne (decide (nth ab s.rows i=⟨#[]⟩)) (decide (nth ag s.refs i=(0:Int)))=false):A7 s i=true:=by unfold A7;rw [h,h2];rfl
theorem GJ:A7 s i=true↔(nth ab s.rows i).size≤128∧decide (nth ab s.rows i=⟨#[]⟩)=decide (nth ag s.refs i=(0:Int)):=by
 unfold A7
 cases h:decide (((nth ab s.rows i).size:Int)>128) with
 |true=>have:=aJ h;exact⟨fun h=>(by cases h),fun h=>absurd h.1 (by omega)⟩
 |false=>
  have:=aA h
  rw [cond_false]
  cases decide (nth ab s.rows i=⟨#[]⟩)<;>cases decide (nth ag s.refs i=(0:Int))<;>simp<;>omega
theorem zr {iw:Int}{p:Pt}:fg s iw p=true↔aZ p=true∧au p=false∧p.2.1≤iw∧nth ag s.refs p.1.toNat≠(0:Int):=by
 unfold fg
 simp only [ZA9,ZF8,decide_eq_false_iff_not,ZG8]
theorem T9 {l:List Pt}{p:Pt}(h:p∈l) (hh:au p=false):0<bn l (at' p):=List.countP_pos_iff.2 ⟨p,h,by simp [KW,hh]⟩
theorem KE.ahg (k:KE s):s.gone.all (fg s (s.cg-1))=true:=ZC8.2 fun p hp=>by
 obtain⟨h1,h2,h3⟩:=k.gone p hp
 refine zr.2 ⟨h1,h2,h3,fun h=>?_⟩
 have h4:=k.bn (at' p) (sk h1);have h5:=T9 hp h2
 rw [show qE s (at' p)=0 from h] at h4;omega
theorem KE.ahh (k:KE s):s.dead.all (fg s s.bZ)=true:=ZC8.2 fun p hp=>by
 obtain⟨h1,h2,h3⟩:=k.dead p hp
 refine zr.2 ⟨h1,h2,h3,fun h=>?_⟩
 have h4:=k.bn (at' p) (sk h1);have h5:=T9 hp h2
 rw [show qE s (at' p)=0 from h] at h4;omega
theorem afs (hi:i<64) (h:A7 s i=false):iG s=false:=my fun k=>by rw [GJ.2 (k.row i hi)] at h;cases h
theorem akr (h:s.gone.all (fg s (s.cg-1))=false):iG s=false:=my fun k=>by rw [k.ahg] at h;cases h
theorem akq (h:s.dead.all (fg s s.bZ)=false):iG s=false:=my fun k=>by rw [k.ahh] at h;cases h
theorem akp {r:Nat}(hr:r<64) (h:¬((bn s.gone r+bn s.dead r:Nat):Int)≤qE s r):iG s=false:=my fun k=>h (k.bn r hr)
end
def th (S:ay):Prop:=S.gone.length≤1000000∧S.dead.length≤1000000
def bO (S:ay):AV:=.s (.q (iG S))
def RY (S:ay):List AV:=[]
def yS:cn where
 A:=[.a xq]
 B:=[]
 pre:=fun x b=>th x
 r:=fun x b _=>bO x
 o:=fun x b _=>RY x
theorem W1:Has Tryz.prog 64 yS:=by
 refine Has.zv zT zF zF (l:=[(98,kP),(31,cr),(99,yU),(100,ub)]) ⟨yB,fL,W3,PA,aa⟩ Tryz.func64 ?_
 rintro⟨(aj:List ByteArray),(ak:List Int),(an:List Int),(ao:Int),(ah:List Pt),(aq:Int),(ai:List Pt),(ar:Bool)⟩ _ (hp:th (aj,ak,an,ao,ah,aq,ai,ar))
 show vc _ _ _ _ (entry [.a [.vz ab aj,.vz ag ak,.vz ag an,.int ao,.vz ae ah,.int aq,.vz ae ai,.q ar]] []) _
 let g':=(aj,ak,an,ao,ah,aq,ai,ar)
 obtain⟨(hg:ah.length≤1000000),(hd:ai.length≤1000000)⟩:=hp
 have hla:(!(ry (ak,an)))=false→ak.length=64∧an.length=64:=fun h=>QK (cL h)
 have hxt:(!(ig ao 1 900))=false→1≤ao∧ao≤900:=fun h=>cC.1 (cL h)
 have hxk:(!(ig aq 0 (ao-1)))=false→0≤aq∧aq≤ao-1:=fun h=>cC.1 (cL h)
 refine⟨Sq1,Sq9,rfl,[.s 9,.b 1001],Sq10,rfl,Sq10,Sq11,rfl,Sq11,Sq12,rfl,Sq12,Sq13,rfl,aa,fun w1=>⟨Sq13,Sq14,rfl,Sq13,Sq15,rfl,Sq13,Sq16,rfl,Sq13,Sq17,rfl,[.s 13,.s 17],Sq18,rfl,Sq18,Sq19,rfl,Sq19,Sq20,rfl,Sq19,Sq21,rfl,Sq19,Sq22,rfl,Sq19,Sq23,rfl,[.s 19,.s 23],Sq24,rfl,Sq24,Sq25,rfl,Sq25,Sq26,rfl,Sq25,Sq27,rfl,Sq25,Sq28,rfl,Sq25,Sq29,rfl,Sq25,Sq30,rfl,Sq25,Sq31,rfl,Sq25,Sq32,rfl,[.s 25,.s 32],Sq33,rfl,Sq33,Sq34,rfl,Sq34,Sq35,rfl,Sq34,Sq36,rfl,Sq34,Sq37,rfl,Sq34,Sq38,rfl,Sq34,Sq39,rfl,Sq34,Sq40,rfl,Sq34,Sq41,rfl,[.s 34,.s 41],Sq42,rfl,?_⟩,fun w2=>⟨[.s 13,.s 1],Sq14,rfl,[.s 13,.s 14,.b 1001],Sq15,rfl,[.s 13,.s 15],Sq16,rfl,⟨⟨tv3,aa⟩,aa⟩,?_,fun x3 w4=>⟨[.s 13,.s 16],Sq17,rfl,[.s 13,.s 17],Sq18,rfl,Sq18,Sq19,rfl,aa,fun w5=>⟨Sq19,Sq20,rfl,Sq19,Sq21,rfl,Sq19,Sq22,rfl,Sq19,Sq23,rfl,[.s 19,.s 23],Sq24,rfl,Sq24,Sq25,rfl,Sq25,Sq26,rfl,Sq25,Sq27,rfl,Sq25,Sq28,rfl,Sq25,Sq29,rfl,Sq25,Sq30,rfl,Sq25,Sq31,rfl,Sq25,Sq32,rfl,[.s 25,.s 32],Sq33,rfl,Sq33,Sq34,rfl,Sq34,Sq35,rfl,Sq34,Sq36,rfl,Sq34,Sq37,rfl,Sq34,Sq38,rfl,Sq34,Sq39,rfl,Sq34,Sq40,rfl,Sq34,Sq41,rfl,[.s 34,.s 41],Sq42,rfl,?_⟩,fun w6=>⟨[.s 19,.s 1],Sq20,rfl,[.s 19,.s 20,.b 1001],Sq21,rfl,[.s 19,.s 21],Sq22,rfl,⟨tv4,aa⟩,?_,fun x7 w8=>⟨[.s 19,.s 22],Sq23,rfl,[.s 19,.s 23],Sq24,rfl,Sq24,Sq25,rfl,aa,fun w9=>⟨Sq25,Sq26,rfl,Sq25,Sq27,rfl,Sq25,Sq28,rfl,Sq25,Sq29,rfl,Sq25,Sq30,rfl,Sq25,Sq31,rfl,Sq25,Sq32,rfl,[.s 25,.s 32],Sq33,rfl,Sq33,Sq34,rfl,Sq34,Sq35,rfl,Sq34,Sq36,rfl,Sq34,Sq37,rfl,Sq34,Sq38,rfl,Sq34,Sq39,rfl,Sq34,Sq40,rfl,Sq34,Sq41,rfl,[.s 34,.s 41],Sq42,rfl,?_⟩,fun dx=>⟨[.s 25,.s 1],Sq26,rfl,[.s 25,.s 26,.b 1001],Sq27,rfl,[.s 25,.s 1],Sq28,rfl,[.s 25,.s 28,.b 1001],Sq29,rfl,[.s 25,.s 29],Sq30,rfl,⟨?_,?_⟩,[.s 25,.s 27,.s 30],Sq31,rfl,⟨tv4,aa⟩,?_,fun ku dI=>⟨[.s 25,.s 31],Sq32,rfl,[.s 25,.s 32],Sq33,rfl,Sq33,Sq34,rfl,aa,fun iS=>⟨Sq34,Sq35,rfl,Sq34,Sq36,rfl,Sq34,Sq37,rfl,Sq34,Sq38,rfl,Sq34,Sq39,rfl,Sq34,Sq40,rfl,Sq34,Sq41,rfl,[.s 34,.s 41],Sq42,rfl,?_⟩,fun gN=>⟨[.s 34,.s 1],Sq35,rfl,[.s 34,.s 35],Sq36,rfl,[.s 34,.s 36,.b 1001],Sq37,rfl,[.s 34,.s 37],Sq38,rfl,⟨tv2,?_,?_⟩,?_,fun kt kc=>⟨[.s 34,.s 1],Sq39,rfl,[.s 34,.s 39,.b 1001],Sq40,rfl,[.s 34,.s 38,.s 40],Sq41,rfl,[.s 34,.s 41],Sq42,rfl,fun xd=>?_,fun rO=>?_⟩⟩⟩⟩⟩⟩⟩⟩⟩
 all_goals first|refine aw ?_|refine ax ?_|exact a8|(dsimp only [kP,lL,cr,df,yU,ve,ub,sb];omega)|exact a7|(show (-9223372036854775808:Int)≤ao-1;have:=hxt dx;omega)|(show ao-1≤(9223372036854775807:Int);have:=hxt dx;omega)|(show 0<an.length;rw [(hla w6).2];decide)|(show an.length≤1000000;rw [(hla w6).2];decide)|exact adt an (by rw [(hla w6).2];decide)|skip
 ·refine⟨[],[],_,_,_,rfl,az,(),aa,?_,?_,rfl⟩
  ·(show _=bO g');unfold bO;first|(rw [aiA (s:=g') w1];rfl)|rfl
  ·rfl
 ·refine⟨[],[],_,_,_,rfl,az,(),aa,?_,?_,rfl⟩
  ·(show _=bO g');unfold bO;first|(rw [aiz (s:=g') w5];rfl)|rfl
  ·rfl
 ·refine⟨[],[],_,_,_,rfl,az,(),aa,?_,?_,rfl⟩
  ·(show _=bO g');unfold bO;first|(rw [aiy (s:=g') w9];rfl)|rfl
  ·rfl
 ·refine⟨[],[],_,_,_,rfl,az,(),aa,?_,?_,rfl⟩
  ·(show _=bO g');unfold bO;first|(rw [aix (s:=g') iS];rfl)|rfl
  ·rfl
 ·refine⟨[],[],_,_,_,rfl,az,(),aa,?_,?_,rfl⟩
  ·(show _=bO g');unfold bO;first|(rw [aks (s:=g') (hla w6).2 kc.2 xd];rfl)|rfl
  ·rfl
 have hlen:aj.length=64:=by have:=aA w2;omega
 have hrl:=hla w6
 have hsp:ry (ak,an)=true:=cL w6
 have htx:=hxt dx
 have hkp:=hxk gN
 have hyo:∀i,i<64→nth ag an i≤ao:=fun i hi=>ZE0 (kc.1 i (show i<an.length by rw [hrl.2];exact hi)) (ZG8.1 (aA (p:=(show Int from kt)>ao) rO))
 have hz0:∀r,nth ag (List.replicate (Int.toNat 64) (EK.zero ag)) r=(0:Int):=fun r=>uJ _ r
 have hz1:∀r,(0:Int)≤nth ag (List.replicate (Int.toNat 64) (EK.zero ag)) r:=fun r=>by rw [hz0];exact ZC1 _
 have hz2:∀r,nth ag (List.replicate (Int.toNat 64) (EK.zero ag)) r≤(1000000:Int):=fun r=>by rw [hz0];decide
 have hz3:∀r,(nth ag (List.replicate (Int.toNat 64) (EK.zero ag)) r+(ah.length:Int):Int)≤(1000000:Int):=fun r=>by rw [hz0];show (0:Int)+_≤_;omega
 refine lT (l:=[(98,kP),(31,cr),(99,yU),(100,ub)]) (ex:=zT) (wr:=zF) (pt:=zF) ⟨yB,fL,W3,PA,trivial⟩ [.s 1,.b 1001,.s 44,.s 45] (fun i:Nat=>[(.s 46,.int i)]) (fun i=>i≤64∧∀j,j<i→A7 g' j=true) (fun i=>64-i) 0 [] ⟨ZA7 _,fun j hj=>absurd hj (by omega)⟩ dL ?_
 rintro i ⟨(hi:i≤64),hj⟩
 have cm:decide ((i:Int)<(aj.length:Int))=true→i<64:=fun h=>by have:=aJ h;omega
 refine⟨fun w1=>⟨⟨?_,?_⟩,aa,fun w2=>?_,fun w3=>⟨⟨?_,?_⟩,fun w4=>?_,fun w5=>⟨⟨?_,?_⟩,?_⟩⟩⟩,fun w6=>⟨⟨?_,?_,?_⟩,⟨?_,?_⟩,⟨tv5,?_,?_,?_,?_,fun x7=>⟨?_,?_⟩⟩,fun x8 w9=>⟨aa,fun dx=>?_,fun kx=>⟨⟨tv5,?_,?_,?_,?_,fun x12=>⟨?_,?_⟩⟩,fun rS gN=>⟨fun qG=>?_,fun kc=>?_⟩⟩⟩⟩⟩
 all_goals first|refine aw ?_|refine ax ?_|exact a8|(dsimp only [kP,lL,cr,df,yU,ve,ub,sb];omega)|exact a7|(show (i:Int)<(ak.length:Int);rw [hrl.1];exact Int.ofNat_lt.2 (cm w1))|exact hrl.1|exact hz1 _|exact hz2 _|exact w9.1.symm|exact w9.1|exact (w9.2.1 _).1|exact ZE0 (w9.2.1 _).2 (hz3 _)|exact hg|exact hd|skip
 ·refine⟨[],[],_,_,_,rfl,az,(),aa,?_,?_,rfl⟩
  ·(show _=bO g');unfold bO;first|(rw [afs (s:=g') (cm w1) (acy (s:=g') w2)];rfl)|rfl
  ·rfl
 ·refine⟨[],[],_,_,_,rfl,az,(),aa,?_,?_,rfl⟩
  ·(show _=bO g');unfold bO;first|(rw [afs (s:=g') (cm w1) (acx (s:=g') w4)];rfl)|rfl
  ·rfl
 ·refine⟨(i+1),[],?_,?_,?_⟩
  rotate_right
  ·exact bV
  ·refine⟨cm w1,fun j yF=>?_⟩
   by_cases e:j=i
   ·rw [e];exact acw (s:=g') w3 w5
   ·exact hj j (by omega)
  ·show 64-(i+1)<64-i;have:=cm w1;omega
 ·refine⟨[],[],_,_,_,rfl,az,(),aa,?_,?_,rfl⟩
  ·(show _=bO g');unfold bO;first|(rw [akr (s:=g') (uo dx)];rfl)|rfl
  ·rfl
 ·refine⟨[],[],_,_,_,rfl,az,(),aa,?_,?_,rfl⟩
  ·(show _=bO g');unfold bO;first|(rw [akq (s:=g') (uo qG)];rfl)|rfl
  ·rfl
 ·have abK:∀j,j<64→A7 g' j=true:=fun j yF=>hj j (by have:=aA w6;omega)
  have hgo:ah.all (fg g' (ao-1))=true:=cL kx
  have hde:ai.all (fg g' aq)=true:=cL kc
  have hc1:∀r,(nth ag (show List Int from x8) r:Int)=(bn ah r:Int):=fun r=>(w9.2.2 hgo r).trans (show (nth ag (List.replicate (Int.toNat 64) (EK.zero ag)) r+(bn ah r:Int):Int)=_ by rw [hz0,Int.zero_add])
  have hcn:∀r,(nth ag (show List Int from rS) r:Int)=((bn ah r+bn ai r:Nat):Int):=fun r=>(gN.2.2 hde r).trans (show (nth ag (show List Int from x8) r+(bn ai r:Int):Int)=_ by rw [hc1];rfl)
  have hx8:List.length (show List Int from x8)=64:=w9.1
  have hx:List.length (show List Int from rS)=64:=gN.1
  refine lT (l:=[(98,kP),(31,cr),(99,yU),(100,ub)]) (ex:=zT) (wr:=zF) (pt:=zF) ⟨yB,fL,W3,PA,trivial⟩ [.s 1,.b 1001,.s 86,.s 87,.b 1067] (fun i:Nat=>[(.s 88,.int i)]) (fun i=>i≤64∧∀j,j<i→(nth ag rS j:Int)≤nth ag ak j) (fun i=>64-i) 0 [] ⟨ZA7 _,fun j hj=>absurd hj (by omega)⟩ dL ?_
  clear hj cm hi
  rintro i ⟨(hi:i≤64),hj⟩
  have cm:decide ((i:Int)<(List.length (show List Int from x8):Int))=true→i<64:=fun h=>by have:=aJ h;omega
  have nY:decide ((i:Int)<(List.length (show List Int from x8):Int))=false→i=64:=fun h=>by have:=aA h;omega
  refine⟨fun w1=>⟨⟨?_,?_⟩,⟨?_,⟨⟨?_,?_⟩,⟨fun w2=>?_,fun w3=>⟨⟨?_,?_⟩,?_⟩⟩⟩⟩⟩,fun w4=>?_⟩
  all_goals first|refine aw ?_|refine ax ?_|exact a8|(dsimp only [kP,lL,cr,df,yU,ve,ub,sb];omega)|exact a7|(show i<List.length (show List Int from rS);rw [hx];exact cm w1)|(show (i:Int)<(ak.length:Int);rw [hrl.1];exact Int.ofNat_lt.2 (cm w1))|skip
  ·refine⟨[],[],_,_,_,rfl,az,(),aa,?_,?_,rfl⟩
   ·(show _=bO g');unfold bO;first|(rw [akp (s:=g') (cm w1) (fun h=>by rw [←hcn i] at h;exact absurd h (Int.not_le.2 (aJ w2)))];rfl)|rfl
   ·rfl
  ·refine⟨(i+1),[],?_,?_,?_⟩
   rotate_right
   ·exact bV
   ·refine⟨cm w1,fun j yF=>?_⟩
    by_cases e:j=i
    ·rw [e];exact ZG8.1 (aA w3)
    ·exact hj j (by omega)
   ·show 64-(i+1)<64-i;have:=cm w1;omega
  ·have e:iG g'=true:=US
    {len:=hlen,sp:=hsp,cg:=htx,bZ:=hkp,P3:=hyo,row:=fun j yF=>GJ.1 (abK j yF)
     gone:=fun p hp=>by
      have:=zr.1 (ZC8.1 hgo p hp)
      exact⟨this.1,this.2.1,this.2.2.1⟩
     dead:=fun p hp=>by
      have:=zr.1 (ZC8.1 hde p hp)
      exact⟨this.1,this.2.1,this.2.2.1⟩
     bn:=fun r hr=>by rw [←hcn r];exact hj r (by rw [nY w4];exact hr) }
   refine⟨[],[],_,_,_,rfl,az,(),aa,?_,?_,rfl⟩
   ·(show _=bO g');unfold bO;first|(rw [e];rfl)|rfl
   ·rfl
end
end GL
namespace GL
noncomputable section
def yg (l:List Pt):Prop:=l.length≤1000000
def VM (l:List Pt) (z:Bool):Prop:=z=true→l=[]
def pI (l:List Pt) (z:Bool):AV:=match z with |true=>.s (.v (.slice none 0 0)) |false=>.s (.xs 0 5 0 l.length)
def sf (l:List Pt) (z:Bool):List AV:=match z with |true=>[.zz] |false=>[.rs ae l]
def JZ:cn where
 A:=[.s (.vz ae)]
 B:=[]
 pre:=fun x b=>yg x
 α:=fun _ _=>Bool
 φ:=fun x b z=>VM x z
 r:=fun x b z=>pI x z
 o:=fun x b z=>sf x z
 nf:=1
theorem adU:Has Tryz.prog 66 JZ:=by
 refine Has.WK zT zF zF (l:=[]) trivial Tryz.func66 ?_
 rintro (l:List Pt) _ (hp:yg l)
 show vc _ _ _ _ (entry [.s (.vz ae l)] []) _
 have hp:l.length≤1000000:=hp
 refine⟨?_,fun |false=>fun w1=>⟨fun w2=>?_,fun w3=>⟨aa,⟨⟨?_,?_⟩,aa⟩,?_⟩⟩ |true=>fun w4=>⟨fun w5=>?_,fun w6=>⟨aa,⟨⟨?_,?_⟩,aa⟩,?_⟩⟩⟩
 all_goals first|refine aw ?_|refine ax ?_|exact a8|exact a7|(show 0+l.length≤1048576;omega)|exact⟨false,fun h=>by cases h⟩|skip
 ·cases w2
 ·refine⟨[1007],[],_,_,_,rfl,az,false,0,(w1),?_,?_,rfl⟩
  ·(show _=pI l false);unfold pI;first|((show AV.s (.xs 0 5 0 (0+l.length))=AV.s (.xs 0 5 0 l.length);rw [ZA6]))|((show [AV.rs ae ([]++l)]=[AV.rs ae l];rfl))|rfl
  ·(show _=sf l false);unfold sf;first|((show AV.s (.xs 0 5 0 (0+l.length))=AV.s (.xs 0 5 0 l.length);rw [ZA6]))|((show [AV.rs ae ([]++l)]=[AV.rs ae l];rfl))|rfl
 ·refine⟨[],[],_,_,_,rfl,az,true,1,(w4),?_,?_,rfl⟩
  ·(show _=pI l true);unfold pI;first|(rw [rfl];rfl)|rfl
  ·(show _=sf l true);unfold sf;first|(rw [rfl];rfl)|rfl
 ·cases w6
def pq (s:ay) (t:bf):List Pt×Bool:=bif iG s&&qF s t then ((bA s t).1.take t.many.toNat,true) else ([],false)
theorem YC {s:ay}{t:bf}:(pq s t).2=(iG s&&qF s t):=by unfold pq;cases iG s&&qF s t<;>rfl
theorem aay {s:ay}{t:bf}(h:iG s=false):pq s t=([],false):=by unfold pq;rw [h];rfl
theorem K4 {s:ay}{t:bf}(h:qF s t=false):pq s t=([],false):=by unfold pq;rw [h,ZD7];rfl
theorem K3 {s:ay}{t:bf}(h:iG s=true) (h2:qF s t=true):pq s t=((bA s t).1.take t.many.toNat,true):=by unfold pq;rw [h,h2];rfl
theorem KE.rd {s:ay}(k:KE s):s.rd:=⟨k.len,fun x hx=>by
 obtain⟨i,hi,rfl⟩:=List.getElem_of_mem hx
 have h1:=(k.row i (by have:=k.len;omega)).1
 unfold nth at h1;rw [ZB1 hi] at h1;exact ZB0 h1 (by omega)⟩
theorem Y1 {s:ay}{t:bf}(h:qF s t=true):lS t=false:=by
 cases hb:lS t with
 |false=>rfl
 |true=>rw [DR hb] at h;cases h
theorem aho {s:ay}{t:bf}(h:qF s t=true):t.rd:=HK (Y1 h)
theorem SS {s:ay}:∀{f:Nat}{lv:Int}{l:List Pt},lv<(f:Int)→(tB s f lv l).2=true→(tB s f lv l).1.length=l.length*4 ^ lv.toNat
 |0,lv,l,h,_=>by
  rw [show lv.toNat=0 by omega];exact (Nat.mul_one _).symm
 |f+1,lv,l,h,h2=>by
  cases hp:decide (lv>0) with
  |false=>
   have:=aA hp
   rw [vn hp,show lv.toNat=0 by omega];exact (Nat.mul_one _).symm
  |true=>
   have hp':=aJ hp
   match e:fw s lv l [] with
   |none=>rw [HY hp e] at h2;cases h2
   |some n=>
    rw [CD hp e] at h2 ⊢
    rw [SS (by omega) h2,rW e,show lv.toNat=(lv-1).toNat+1 by omega,Nat.pow_succ]
    show (0+4*l.length)*_=_
    rw [ZA6,Nat.mul_comm 4,Nat.mul_assoc,Nat.mul_comm 4]
theorem adl {s:ay}{t:bf}(h:qF s t=true):t.many.toNat≤(bA s t).1.length:=by
 have hb:=Y1 h
 have hl:(bA s t).2=true:=by
  cases hl: !(bA s t).2 with
  |false=>exact cL hl
  |true=>rw [Y3 hb hl] at h;cases h
 unfold lS at hb
 simp only [ZE1,decide_eq_false_iff_not,ZE9] at hb
 obtain⟨h1,h2,h3⟩:=hb
 have:=pe t.many
 refine SN (cL h1) ?_
 have e:=SS (s:=s) (f:=3) (lv:=t.depth) (l:=[t.root]) (by omega) hl
 rw [←h2];exact e.trans (Nat.one_mul _)
def ow (S:ay) (t:bf):Prop:=S.gone.length≤1000000∧S.dead.length≤1000000
def EM (S:ay) (t:bf) (z:Bool):Prop:=z=true→(pq S t).1=[]
def cZ (S:ay) (t:bf) (z:Bool):AV:=.t [match z with |true=>.s (.v (.slice none 0 0)) |false=>.s (.xs 0 5 0 (pq S t).1.length),.s (.q (pq S t).2)]
def dq (S:ay) (t:bf) (z:Bool):List AV:=match z with |true=>[.zz] |false=>[.rs ae (pq S t).1]
def rJ:cn where
 A:=[.a xq,.a [.int,.int,.int,.int,.int,.int,.int]]
 B:=[]
 pre:=fun x b=>ow (x.1) (x.2)
 α:=fun _ _=>Bool
 φ:=fun x b z=>EM (x.1) (x.2) z
 r:=fun x b z=>cZ (x.1) (x.2) z
 o:=fun x b z=>dq (x.1) (x.2) z
 nf:=1
theorem KU:Has Tryz.prog 28 rJ:=by
 refine Has.WK zT zF (fun d=>d==17) (l:=[(64,yS),(65,DB),(66,JZ)]) ⟨W1,abF,adU,aa⟩ Tryz.func28 ?_
 rintro⟨⟨(aj:List ByteArray),(ak:List Int),(an:List Int),(ao:Int),(ah:List Pt),(aq:Int),(ai:List Pt),(ar:Bool)⟩,⟨(t1:Int),(t2:Int),(t3:Int),(t4:Int),(t5:Int),(t6:Int),(t7:Int)⟩⟩ _ (hp:ow (aj,ak,an,ao,ah,aq,ai,ar) (t1,t2,t3,t4,t5,t6,t7))
 show vc _ _ _ _ (entry [.a [.vz ab aj,.vz ag ak,.vz ag an,.int ao,.vz ae ah,.int aq,.vz ae ai,.q ar],.a [.int t1,.int t2,.int t3,.int t4,.int t5,.int t6,.int t7]] []) _
 let g':=(aj,ak,an,ao,ah,aq,ai,ar)
 let A':=(t1,t2,t3,t4,t5,t6,t7)
 obtain⟨hg,hd⟩:=hp
 have hk:(!(iG g'))=false→KE g':=fun h=>QG.1 (cL h)
 have dE:(!(iG g'))=false→ay.rd g':=fun h=>(hk h).rd
 have hlen:∀b:Bool,b=qF g' A'→b=true→(bA g' A').1.length≤16:=fun b h h2=>q8 (aho (h ▸ h2))
 refine⟨⟨⟨tv9,aa⟩,?_,?_⟩,fun x1 w2=>⟨fun w3=>?_,fun w4=>⟨⟨⟨aa,tv8,aa⟩,?_,?_⟩,fun |false=>fun w5=>⟨⟨tv2,?_⟩,fun |false=>fun w6=>?_ |true=>fun w7=>?_⟩ |true=>fun w8=>⟨⟨⟨?_,aa⟩,?_⟩,fun |false=>fun w9=>?_ |true=>fun dx=>?_⟩⟩⟩⟩
 all_goals first|refine aw ?_|refine ax ?_|exact a8|(dsimp only [yS,th,DB,vd,JZ,yg];omega)|exact a7|exact hg|exact hd|exact dE w4|(show 0≤ao;have h:1≤ao∧ao≤900:=(hk w4).cg;omega)|exact ZA7 _|(show 0+t7.toNat≤_;rw [ZA6];exact adl (s:=g') (t:=A') (show true=qF g' A' from w8).symm)|(show (List.take _ _).length≤1000000;have:=hlen true w8 rfl;rw [ZC0];exact ZB0 (Nat.min_le_right _ _) (ZB0 this (by decide)))|skip
 ·have e:=aay (s:=g') (t:=A') (uo w3)
  refine⟨[],[],_,_,_,rfl,az,true,1,(fun _=>show (pq g' A').1=[] by rw [e]),?_,?_,rfl⟩
  ·(show _=cZ g' A' true);unfold cZ;first|(rw [e];rfl)|rfl
  ·(show _=dq g' A' true);unfold dq;first|(rw [e];rfl)|rfl
 ·have e:=K4 (s:=g') (t:=A') (show false=qF g' A' from w5).symm
  refine⟨[180000],[],_,_,_,rfl,az,false,0,(fun h=>by cases h),?_,?_,rfl⟩
  ·(show _=cZ g' A' false);unfold cZ;first|(rw [e];rfl)|rfl
  ·(show _=dq g' A' false);unfold dq;first|(rw [e];rfl)|rfl
 ·have e:=K4 (s:=g') (t:=A') (show false=qF g' A' from w5).symm
  refine⟨[],[],_,_,_,rfl,az,true,1,(fun _=>show (pq g' A').1=[] by rw [e]),?_,?_,rfl⟩
  ·(show _=cZ g' A' true);unfold cZ;first|(rw [e];rfl)|rfl
  ·(show _=dq g' A' true);unfold dq;first|(rw [e];rfl)|rfl
 ·have e:=K3 (s:=g') (t:=A') (cL w4) (show true=qF g' A' from w8).symm
  refine⟨[180000],[],_,_,_,rfl,az,false,0,(fun h=>by cases h),?_,?_,rfl⟩
  ·(show _=cZ g' A' false);unfold cZ;first|(rw [e];rfl)|rfl
  ·(show _=dq g' A' false);unfold dq;first|(rw [e];rfl)|rfl
 ·have e:=K3 (s:=g') (t:=A') (cL w4) (show true=qF g' A' from w8).symm
  refine⟨[],[],_,_,_,rfl,az,true,1,(fun _=>show (pq g' A').1=[] by rw [e];exact dx rfl),?_,?_,rfl⟩
  ·(show _=cZ g' A' true);unfold cZ;first|(rw [e];rfl)|rfl
  ·(show _=dq g' A' true);unfold dq;first|(rw [e];rfl)|rfl
def DQ (S:ay) (t:bf):Prop:=S.gone.length≤1000000∧S.dead.length≤1000000
def nC (S:ay) (t:bf):AV:=.s (.q (iG S&&qF S t))
def V5 (S:ay) (t:bf):List AV:=[]
def ab2:cn where
 A:=[.a xq,.a [.int,.int,.int,.int,.int,.int,.int]]
 B:=[]
 pre:=fun x b=>DQ (x.1) (x.2)
 r:=fun x b _=>nC (x.1) (x.2)
 o:=fun x b _=>V5 (x.1) (x.2)
theorem air:Has Tryz.prog 42 ab2:=by
 refine Has.zv zT zF zF (l:=[(28,rJ)]) ⟨KU,aa⟩ Tryz.func42 ?_
 rintro⟨⟨(aj:List ByteArray),(ak:List Int),(an:List Int),(ao:Int),(ah:List Pt),(aq:Int),(ai:List Pt),(ar:Bool)⟩,⟨(t1:Int),(t2:Int),(t3:Int),(t4:Int),(t5:Int),(t6:Int),(t7:Int)⟩⟩ _ (hp:DQ (aj,ak,an,ao,ah,aq,ai,ar) (t1,t2,t3,t4,t5,t6,t7))
 show vc _ _ _ _ (entry [.a [.vz ab aj,.vz ag ak,.vz ag an,.int ao,.vz ae ah,.int aq,.vz ae ai,.q ar],.a [.int t1,.int t2,.int t3,.int t4,.int t5,.int t6,.int t7]] []) _
 let g':=(aj,ak,an,ao,ah,aq,ai,ar)
 let A':=(t1,t2,t3,t4,t5,t6,t7)
 obtain⟨hg,hd⟩:=hp
 refine⟨⟨⟨tv9,tv8,aa⟩,?_,?_⟩,fun |false=>fun w1=>?_ |true=>fun w2=>?_⟩
 all_goals first|refine aw ?_|refine ax ?_|exact a8|(dsimp only [rJ,ow];omega)|exact a7|exact hg|exact hd|skip
 ·refine⟨[],[],_,_,_,rfl,az,(),aa,?_,?_,rfl⟩
  ·(show _=nC g' A');unfold nC;first|(rw [←YC (s:=g') (t:=A')];rfl)|rfl
  ·rfl
 ·refine⟨[],[],_,_,_,rfl,az,(),aa,?_,?_,rfl⟩
  ·(show _=nC g' A');unfold nC;first|(rw [←YC (s:=g') (t:=A')];rfl)|rfl
  ·rfl
end
end GL
end Go.Proofs.YtclcgjhhehbdeaaGreatDoor
