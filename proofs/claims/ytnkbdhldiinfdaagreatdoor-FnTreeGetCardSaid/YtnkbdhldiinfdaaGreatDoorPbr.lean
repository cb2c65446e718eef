/- A drawn law returns true for every code (its row lists package variables, tied by the card): part 44. -/
import Derived.Test.YtnkbdhldiinfdaaGreatDoorPbq
set_option maxHeartbeats 20000000
set_option maxRecDepth 100000
set_option linter.all false
namespace Go.Proofs.YtnkbdhldiinfdaaGreatDoor
namespace GL
noncomputable section
structure KK (s:ay):Prop where
 len:s.rows.length=64
 sp:rC (s.refs,s.last)=true
 cg:1≤s.cg∧s.cg≤900
 bZ:0≤s.bZ∧s.bZ≤s.cg-1
 P9:∀i,i<64→nth ag s.last i≤s.cg
 row:∀i,i<64→(nth ab s.rows i).size≤128∧decide (nth ab s.rows i=⟨#[]⟩)=decide (nth ag s.refs i=(0:Int))
 gone:∀p∈s.gone,aZ p=true∧au p=false∧p.2.1≤s.cg-1
 dead:∀p∈s.dead,aZ p=true∧au p=false∧p.2.1≤s.bZ
 bn:∀r,r<64→((bn s.gone r+bn s.dead r:Nat):Int)≤qI s r
def iI (s:ay):Bool:= @decide (KK s) (Classical.propDecidable _)
theorem U0 {s:ay}(h:KK s):iI s=true:=by unfold iI;exact @decide_eq_true _ (Classical.propDecidable _) h
theorem mC {s:ay}(h:¬KK s):iI s=false:=by unfold iI;exact @decide_eq_false _ (Classical.propDecidable _) h
theorem QM {s:ay}:iI s=true↔KK s:=by unfold iI;exact @decide_eq_true_iff _ (Classical.propDecidable _)
theorem QQ {p:List Int×List Int}(h:rC p=true):p.1.length=64∧p.2.length=64:=by
 cases h1:decide ((p.1.length:Int)≠64) with
 |true=>rw [N1 h1] at h;cases h
 |false=>
  cases h2:decide ((p.2.length:Int)≠64) with
  |true=>rw [N0 h2] at h;cases h
  |false=>
   have:=aA (p:=¬(p.1.length:Int)=64) h1;have:=aA (p:=¬(p.2.length:Int)=64) h2
   omega
theorem adB:∀(l:List Int),0<l.length→∃z:Int,(∀j,j<l.length→nth ag l j≤z)∧∃j,j<l.length∧nth ag l j=z
 |[a],_=>⟨a,fun j hj=>by rw [show j=0 by simpa using hj];exact ZC1 _,0,by simp,rfl⟩
 |a::b::l,_=>by
  obtain⟨z,h1,k,h2,h3⟩:=adB (b::l) (by simp)
  by_cases e:a≤z
  ·refine⟨z,fun j hj=>?_,k+1,by simpa using h2,h3⟩
   cases j with
   |zero=>exact e
   |succ j=>exact h1 j (by simpa using hj)
  ·refine⟨a,fun j hj=>?_,0,by simp,rfl⟩
   cases j with
   |zero=>exact ZC1 _
   |succ j=>exact ZE0 (h1 j (by simpa using hj)) (by omega)
section
variable {s:ay}
theorem aiI (h:decide ((s.rows.length:Int)≠64)=true):iI s=false:=mC fun k=>by have:=aJ h;have:=k.len;omega
theorem aiH (h:(!(rC (s.refs,s.last)))=true):iI s=false:=mC fun k=>by rw [k.sp] at h;cases h
theorem aiG (h:(!(ik s.cg 1 900))=true):iI s=false:=mC fun k=>by rw [cC.2 k.cg] at h;cases h
theorem aiF (h:(!(ik s.bZ 0 (s.cg-1)))=true):iI s=false:=mC fun k=>by rw [cC.2 k.bZ] at h;cases h
theorem akB {m:Int}(hl:s.last.length=64) (hx:∃j,j<s.last.length∧nth ag s.last j=m) (h:decide (m>s.cg)=true):iI s=false:=mC fun k=>by
 obtain⟨j,h1,h2⟩:=hx
 have h3:=k.P9 j (by omega)
 rw [h2] at h3
 have:=aJ h
 exact absurd h3 (Int.not_le.2 this)
end
def BC (s:ay) (i:Nat):Bool:=bif decide (((nth ab s.rows i).size:Int)>128) then false else !(bne (decide (nth ab s.rows i=⟨#[]⟩)) (decide (nth ag s.refs i=(0:Int))))
theorem uN (n r:Nat):nth ag (List.replicate n (EK.zero ag)) r=(0:Int):=by
 by_cases h:r<(List.replicate n (EK.zero ag)).length
 ·exact (ZD6.1 (bR (ek:=ag) h)).2
 ·exact tz (ek:=ag) (by omega)
section
variable {s:ay}{i:Nat}
theorem acG (h:decide (((nth ab s.rows i).size:Int)>128)=true):BC s i=false:=by unfold BC;rw [h];rfl
theorem acF (h:bne (decide (nth ab s.rows i=⟨#[]⟩)) (decide (nth ag s.refs i=(0:Int)))=true):BC s i=false:=by unfold BC;rw [h];cases decide (((nth ab s.rows i).size:Int)>128)<;>rfl
theorem acE (h:decide (((nth ab s.rows i).size:Int)>128)=false) (h2:bne (decide (nth ab s.rows i=⟨#[]⟩)) (decide (nth ag s.refs i=(0:Int)))=false):BC s i=true:=by unfold BC;rw [h,h2];rfl
theorem GP:BC s i=true↔(nth ab s.rows i).size≤128∧decide (nth ab s.rows i=⟨#[]⟩)=decide (nth ag s.refs i=(0:Int)):=by
 unfold BC
 cases h:decide (((nth ab s.rows i).size:Int)>128) with
 |true=>have:=aJ h;exact⟨fun h=>(by cases h),fun h=>absurd h.1 (by omega)⟩
 |false=>
  have:=aA h
  rw [cond_false]
  cases decide (nth ab s.rows i=⟨#[]⟩)<;>cases decide (nth ag s.refs i=(0:Int))<;>simp<;>omega
theorem zx {iy:Int}{p:Pt}:fh s iy p=true↔aZ p=true∧au p=false∧p.2.1≤iy∧nth ag s.refs p.1.toNat≠(0:Int):=by
 unfold fh
 simp only [ZA9,ZF8,decide_eq_false_iff_not,ZH1]
theorem UG {l:List Pt}{p:Pt}(h:p∈l) (hh:au p=false):0<bn l (at' p):=List.countP_pos_iff.2 ⟨p,h,by simp [K2,hh]⟩
theorem KK.aho (k:KK s):s.gone.all (fh s (s.cg-1))=true:=ZC9.2 fun p hp=>by
 obtain⟨h1,h2,h3⟩:=k.gone p hp
 refine zx.2 ⟨h1,h2,h3,fun h=>?_⟩
 have h4:=k.bn (at' p) (sr h1);have h5:=UG hp h2
 rw [show qI s (at' p)=0 from h] at h4;omega
theorem KK.ahp (k:KK s):s.dead.all (fh s s.bZ)=true:=ZC9.2 fun p hp=>by
 obtain⟨h1,h2,h3⟩:=k.dead p hp
 refine zx.2 ⟨h1,h2,h3,fun h=>?_⟩
 have h4:=k.bn (at' p) (sr h1);have h5:=UG hp h2
 rw [show qI s (at' p)=0 from h] at h4;omega
theorem afA (hi:i<64) (h:BC s i=false):iI s=false:=mC fun k=>by rw [GP.2 (k.row i hi)] at h;cases h
theorem akA (h:s.gone.all (fh s (s.cg-1))=false):iI s=false:=mC fun k=>by rw [k.aho] at h;cases h
theorem akz (h:s.dead.all (fh s s.bZ)=false):iI s=false:=mC fun k=>by rw [k.ahp] at h;cases h
theorem aky {r:Nat}(hr:r<64) (h:¬((bn s.gone r+bn s.dead r:Nat):Int)≤qI s r):iI s=false:=mC fun k=>h (k.bn r hr)
end
def tl (S:ay):Prop:=S.gone.length≤1000000∧S.dead.length≤1000000
def bO (S:ay):AV:=.s (.q (iI S))
def R4 (S:ay):List AV:=[]
def yX:cn where
 A:=[.a xv]
 B:=[]
 pre:=fun x b=>tl x
 r:=fun x b _=>bO x
 o:=fun x b _=>R4 x
theorem W7:Has Tryz.prog 65 yX:=by
 refine Has.zB zT zF zF (l:=[(100,kS),(32,cr),(101,yZ),(102,uf)]) ⟨yG,fM,W9,PG,aa⟩ Tryz.func65 ?_
 rintro⟨(aj:List ByteArray),(ak:List Int),(an:List Int),(ao:Int),(ah:List Pt),(aq:Int),(ai:List Pt),(ar:Bool)⟩ _ (hp:tl (aj,ak,an,ao,ah,aq,ai,ar))
 show vc _ _ _ _ (entry [.a [.vz ab aj,.vz ag ak,.vz ag an,.int ao,.vz ae ah,.int aq,.vz ae ai,.q ar]] []) _
 let g':=(aj,ak,an,ao,ah,aq,ai,ar)
 obtain⟨(hg:ah.length≤1000000),(hd:ai.length≤1000000)⟩:=hp
 have hla:(!(rC (ak,an)))=false→ak.length=64∧an.length=64:=fun h=>QQ (cL h)
 have hxt:(!(ik ao 1 900))=false→1≤ao∧ao≤900:=fun h=>cC.1 (cL h)
 have hxk:(!(ik aq 0 (ao-1)))=false→0≤aq∧aq≤ao-1:=fun h=>cC.1 (cL h)
 refine⟨Sq1,Sq9,rfl,[.s 9,.b 1001],Sq10,rfl,Sq10,Sq11,rfl,Sq11,Sq12,rfl,Sq12,Sq13,rfl,aa,fun w1=>⟨Sq13,Sq14,rfl,Sq13,Sq15,rfl,Sq13,Sq16,rfl,Sq13,Sq17,rfl,[.s 13,.s 17],Sq18,rfl,Sq18,Sq19,rfl,Sq19,Sq20,rfl,Sq19,Sq21,rfl,Sq19,Sq22,rfl,Sq19,Sq23,rfl,[.s 19,.s 23],Sq24,rfl,Sq24,Sq25,rfl,Sq25,Sq26,rfl,Sq25,Sq27,rfl,Sq25,Sq28,rfl,Sq25,Sq29,rfl,Sq25,Sq30,rfl,Sq25,Sq31,rfl,Sq25,Sq32,rfl,[.s 25,.s 32],Sq33,rfl,Sq33,Sq34,rfl,Sq34,Sq35,rfl,Sq34,Sq36,rfl,Sq34,Sq37,rfl,Sq34,Sq38,rfl,Sq34,Sq39,rfl,Sq34,Sq40,rfl,Sq34,Sq41,rfl,[.s 34,.s 41],Sq42,rfl,?_⟩,fun w2=>⟨[.s 13,.s 1],Sq14,rfl,[.s 13,.s 14,.b 1001],Sq15,rfl,[.s 13,.s 15],Sq16,rfl,⟨⟨tv3,aa⟩,aa⟩,?_,fun x3 w4=>⟨[.s 13,.s 16],Sq17,rfl,[.s 13,.s 17],Sq18,rfl,Sq18,Sq19,rfl,aa,fun w5=>⟨Sq19,Sq20,rfl,Sq19,Sq21,rfl,Sq19,Sq22,rfl,Sq19,Sq23,rfl,[.s 19,.s 23],Sq24,rfl,Sq24,Sq25,rfl,Sq25,Sq26,rfl,Sq25,Sq27,rfl,Sq25,Sq28,rfl,Sq25,Sq29,rfl,Sq25,Sq30,rfl,Sq25,Sq31,rfl,Sq25,Sq32,rfl,[.s 25,.s 32],Sq33,rfl,Sq33,Sq34,rfl,Sq34,Sq35,rfl,Sq34,Sq36,rfl,Sq34,Sq37,rfl,Sq34,Sq38,rfl,Sq34,Sq39,rfl,Sq34,Sq40,rfl,Sq34,Sq41,rfl,[.s 34,.s 41],Sq42,rfl,?_⟩,fun w6=>⟨[.s 19,.s 1],Sq20,rfl,[.s 19,.s 20,.b 1001],Sq21,rfl,[.s 19,.s 21],Sq22,rfl,⟨tv4,aa⟩,?_,fun x7 w8=>⟨[.s 19,.s 22],Sq23,rfl,[.s 19,.s 23],Sq24,rfl,Sq24,Sq25,rfl,aa,fun w9=>⟨Sq25,Sq26,rfl,Sq25,Sq27,rfl,Sq25,Sq28,rfl,Sq25,Sq29,rfl,Sq25,Sq30,rfl,Sq25,Sq31,rfl,Sq25,Sq32,rfl,[.s 25,.s 32],Sq33,rfl,Sq33,Sq34,rfl,Sq34,Sq35,rfl,Sq34,Sq36,rfl,Sq34,Sq37,rfl,Sq34,Sq38,rfl,Sq34,Sq39,rfl,Sq34,Sq40,rfl,Sq34,Sq41,rfl,[.s 34,.s 41],Sq42,rfl,?_⟩,fun dy=>⟨[.s 25,.s 1],Sq26,rfl,[.s 25,.s 26,.b 1001],Sq27,rfl,[.s 25,.s 1],Sq28,rfl,[.s 25,.s 28,.b 1001],Sq29,rfl,[.s 25,.s 29],Sq30,rfl,⟨?_,?_⟩,[.s 25,.s 27,.s 30],Sq31,rfl,⟨tv4,aa⟩,?_,fun kz dJ=>⟨[.s 25,.s 31],Sq32,rfl,[.s 25,.s 32],Sq33,rfl,Sq33,Sq34,rfl,aa,fun iU=>⟨Sq34,Sq35,rfl,Sq34,Sq36,rfl,Sq34,Sq37,rfl,Sq34,Sq38,rfl,Sq34,Sq39,rfl,Sq34,Sq40,rfl,Sq34,Sq41,rfl,[.s 34,.s 41],Sq42,rfl,?_⟩,fun gO=>⟨[.s 34,.s 1],Sq35,rfl,[.s 34,.s 35],Sq36,rfl,[.s 34,.s 36,.b 1001],Sq37,rfl,[.s 34,.s 37],Sq38,rfl,⟨tv2,?_,?_⟩,?_,fun ky kg=>⟨[.s 34,.s 1],Sq39,rfl,[.s 34,.s 39,.b 1001],Sq40,rfl,[.s 34,.s 38,.s 40],Sq41,rfl,[.s 34,.s 41],Sq42,rfl,fun xh=>?_,fun rS=>?_⟩⟩⟩⟩⟩⟩⟩⟩⟩
 all_goals first|refine aw ?_|refine ax ?_|exact a8|(dsimp only [kS,lO,cr,df,yZ,vi,uf,sf];omega)|exact a7|(show (-9223372036854775808:Int)≤ao-1;have:=hxt dy;omega)|(show ao-1≤(9223372036854775807:Int);have:=hxt dy;omega)|(show 0<an.length;rw [(hla w6).2];decide)|(show an.length≤1000000;rw [(hla w6).2];decide)|exact adB an (by rw [(hla w6).2];decide)|skip
 ·refine⟨[],[],_,_,_,rfl,az,(),aa,?_,?_,rfl⟩
  ·(show _=bO g');unfold bO;first|(rw [aiI (s:=g') w1];rfl)|rfl
  ·rfl
 ·refine⟨[],[],_,_,_,rfl,az,(),aa,?_,?_,rfl⟩
  ·(show _=bO g');unfold bO;first|(rw [aiH (s:=g') w5];rfl)|rfl
  ·rfl
 ·refine⟨[],[],_,_,_,rfl,az,(),aa,?_,?_,rfl⟩
  ·(show _=bO g');unfold bO;first|(rw [aiG (s:=g') w9];rfl)|rfl
  ·rfl
 ·refine⟨[],[],_,_,_,rfl,az,(),aa,?_,?_,rfl⟩
  ·(show _=bO g');unfold bO;first|(rw [aiF (s:=g') iU];rfl)|rfl
  ·rfl
 ·refine⟨[],[],_,_,_,rfl,az,(),aa,?_,?_,rfl⟩
  ·(show _=bO g');unfold bO;first|(rw [akB (s:=g') (hla w6).2 kg.2 xh];rfl)|rfl
  ·rfl
 have hlen:aj.length=64:=by have:=aA w2;omega
 have hrl:=hla w6
 have hsp:rC (ak,an)=true:=cL w6
 have htx:=hxt dy
 have hkp:=hxk gO
 have hyo:∀i,i<64→nth ag an i≤ao:=fun i hi=>ZE0 (kg.1 i (show i<an.length by rw [hrl.2];exact hi)) (ZH1.1 (aA (p:=(show Int from ky)>ao) rS))
 have hz0:∀r,nth ag (List.replicate (Int.toNat 64) (EK.zero ag)) r=(0:Int):=fun r=>uN _ r
 have hz1:∀r,(0:Int)≤nth ag (List.replicate (Int.toNat 64) (EK.zero ag)) r:=fun r=>by rw [hz0];exact ZC1 _
 have hz2:∀r,nth ag (List.replicate (Int.toNat 64) (EK.zero ag)) r≤(1000000:Int):=fun r=>by rw [hz0];decide
 have hz3:∀r,(nth ag (List.replicate (Int.toNat 64) (EK.zero ag)) r+(ah.length:Int):Int)≤(1000000:Int):=fun r=>by rw [hz0];show (0:Int)+_≤_;omega
 refine lW (l:=[(100,kS),(32,cr),(101,yZ),(102,uf)]) (ex:=zT) (wr:=zF) (pt:=zF) ⟨yG,fM,W9,PG,trivial⟩ [.s 1,.b 1001,.s 44,.s 45] (fun i:Nat=>[(.s 46,.int i)]) (fun i=>i≤64∧∀j,j<i→BC g' j=true) (fun i=>64-i) 0 [] ⟨ZA7 _,fun j hj=>absurd hj (by omega)⟩ dM ?_
 rintro i ⟨(hi:i≤64),hj⟩
 have cm:decide ((i:Int)<(aj.length:Int))=true→i<64:=fun h=>by have:=aJ h;omega
 refine⟨fun w1=>⟨⟨?_,?_⟩,aa,fun w2=>?_,fun w3=>⟨⟨?_,?_⟩,fun w4=>?_,fun w5=>⟨⟨?_,?_⟩,?_⟩⟩⟩,fun w6=>⟨⟨?_,?_,?_⟩,⟨?_,?_⟩,⟨tv5,?_,?_,?_,?_,fun x7=>⟨?_,?_⟩⟩,fun x8 w9=>⟨aa,fun dy=>?_,fun kA=>⟨⟨tv5,?_,?_,?_,?_,fun x12=>⟨?_,?_⟩⟩,fun rW gO=>⟨fun qK=>?_,fun kg=>?_⟩⟩⟩⟩⟩
 all_goals first|refine aw ?_|refine ax ?_|exact a8|(dsimp only [kS,lO,cr,df,yZ,vi,uf,sf];omega)|exact a7|(show (i:Int)<(ak.length:Int);rw [hrl.1];exact Int.ofNat_lt.2 (cm w1))|exact hrl.1|exact hz1 _|exact hz2 _|exact w9.1.symm|exact w9.1|exact (w9.2.1 _).1|exact ZE0 (w9.2.1 _).2 (hz3 _)|exact hg|exact hd|skip
 ·refine⟨[],[],_,_,_,rfl,az,(),aa,?_,?_,rfl⟩
  ·(show _=bO g');unfold bO;first|(rw [afA (s:=g') (cm w1) (acG (s:=g') w2)];rfl)|rfl
  ·rfl
 ·refine⟨[],[],_,_,_,rfl,az,(),aa,?_,?_,rfl⟩
  ·(show _=bO g');unfold bO;first|(rw [afA (s:=g') (cm w1) (acF (s:=g') w4)];rfl)|rfl
  ·rfl
 ·refine⟨(i+1),[],?_,?_,?_⟩
  rotate_right
  ·exact bV
  ·refine⟨cm w1,fun j yK=>?_⟩
   by_cases e:j=i
   ·rw [e];exact acE (s:=g') w3 w5
   ·exact hj j (by omega)
  ·show 64-(i+1)<64-i;have:=cm w1;omega
 ·refine⟨[],[],_,_,_,rfl,az,(),aa,?_,?_,rfl⟩
  ·(show _=bO g');unfold bO;first|(rw [akA (s:=g') (uv dy)];rfl)|rfl
  ·rfl
 ·refine⟨[],[],_,_,_,rfl,az,(),aa,?_,?_,rfl⟩
  ·(show _=bO g');unfold bO;first|(rw [akz (s:=g') (uv qK)];rfl)|rfl
  ·rfl
 ·have abR:∀j,j<64→BC g' j=true:=fun j yK=>hj j (by have:=aA w6;omega)
  have hgo:ah.all (fh g' (ao-1))=true:=cL kA
  have hde:ai.all (fh g' aq)=true:=cL kg
  have hc1:∀r,(nth ag (show List Int from x8) r:Int)=(bn ah r:Int):=fun r=>(w9.2.2 hgo r).trans (show (nth ag (List.replicate (Int.toNat 64) (EK.zero ag)) r+(bn ah r:Int):Int)=_ by rw [hz0,Int.zero_add])
  have hcn:∀r,(nth ag (show List Int from rW) r:Int)=((bn ah r+bn ai r:Nat):Int):=fun r=>(gO.2.2 hde r).trans (show (nth ag (show List Int from x8) r+(bn ai r:Int):Int)=_ by rw [hc1];rfl)
  have hx8:List.length (show List Int from x8)=64:=w9.1
  have hx:List.length (show List Int from rW)=64:=gO.1
  refine lW (l:=[(100,kS),(32,cr),(101,yZ),(102,uf)]) (ex:=zT) (wr:=zF) (pt:=zF) ⟨yG,fM,W9,PG,trivial⟩ [.s 1,.b 1001,.s 86,.s 87,.b 1067] (fun i:Nat=>[(.s 88,.int i)]) (fun i=>i≤64∧∀j,j<i→(nth ag rW j:Int)≤nth ag ak j) (fun i=>64-i) 0 [] ⟨ZA7 _,fun j hj=>absurd hj (by omega)⟩ dM ?_
  clear hj cm hi
  rintro i ⟨(hi:i≤64),hj⟩
  have cm:decide ((i:Int)<(List.length (show List Int from x8):Int))=true→i<64:=fun h=>by have:=aJ h;omega
  have ob:decide ((i:Int)<(List.length (show List Int from x8):Int))=false→i=64:=fun h=>by have:=aA h;omega
  refine⟨fun w1=>⟨⟨?_,?_⟩,⟨?_,⟨⟨?_,?_⟩,⟨fun w2=>?_,fun w3=>⟨⟨?_,?_⟩,?_⟩⟩⟩⟩⟩,fun w4=>?_⟩
  all_goals first|refine aw ?_|refine ax ?_|exact a8|(dsimp only [kS,lO,cr,df,yZ,vi,uf,sf];omega)|exact a7|(show i<List.length (show List Int from rW);rw [hx];exact cm w1)|(show (i:Int)<(ak.length:Int);rw [hrl.1];exact Int.ofNat_lt.2 (cm w1))|skip
  ·refine⟨[],[],_,_,_,rfl,az,(),aa,?_,?_,rfl⟩
   ·(show _=bO g');unfold bO;first|(rw [aky (s:=g') (cm w1) (fun h=>by rw [←hcn i] at h;exact absurd h (Int.not_le.2 (aJ w2)))];rfl)|rfl
   ·rfl
  ·refine⟨(i+1),[],?_,?_,?_⟩
   rotate_right
   ·exact bV
   ·refine⟨cm w1,fun j yK=>?_⟩
    by_cases e:j=i
    ·rw [e];exact ZH1.1 (aA w3)
    ·exact hj j (by omega)
   ·show 64-(i+1)<64-i;have:=cm w1;omega
  ·have e:iI g'=true:=U0
    {len:=hlen,sp:=hsp,cg:=htx,bZ:=hkp,P9:=hyo,row:=fun j yK=>GP.1 (abR j yK)
     gone:=fun p hp=>by
      have:=zx.1 (ZC9.1 hgo p hp)
      exact⟨this.1,this.2.1,this.2.2.1⟩
     dead:=fun p hp=>by
      have:=zx.1 (ZC9.1 hde p hp)
      exact⟨this.1,this.2.1,this.2.2.1⟩
     bn:=fun r hr=>by rw [←hcn r];exact hj r (by rw [ob w4];exact hr) }
   refine⟨[],[],_,_,_,rfl,az,(),aa,?_,?_,rfl⟩
   ·(show _=bO g');unfold bO;first|(rw [e];rfl)|rfl
   ·rfl
end
end GL
namespace GL
noncomputable section
def yl (l:List Pt):Prop:=l.length≤1000000
def VS (l:List Pt) (z:Bool):Prop:=z=true→l=[]
def pN (l:List Pt) (z:Bool):AV:=match z with |true=>.s (.v (.slice none 0 0)) |false=>.s (.xs 0 5 0 l.length)
def sn (l:List Pt) (z:Bool):List AV:=match z with |true=>[.zz] |false=>[.rs ae l]
def J5:cn where
 A:=[.s (.vz ae)]
 B:=[]
 pre:=fun x b=>yl x
 α:=fun _ _=>Bool
 φ:=fun x b z=>VS x z
 r:=fun x b z=>pN x z
 o:=fun x b z=>sn x z
 nf:=1
theorem ad2:Has Tryz.prog 67 J5:=by
 refine Has.WR zT zF zF (l:=[]) trivial Tryz.func67 ?_
 rintro (l:List Pt) _ (hp:yl l)
 show vc _ _ _ _ (entry [.s (.vz ae l)] []) _
 have hp:l.length≤1000000:=hp
 refine⟨?_,fun |false=>fun w1=>⟨fun w2=>?_,fun w3=>⟨aa,⟨⟨?_,?_⟩,aa⟩,?_⟩⟩ |true=>fun w4=>⟨fun w5=>?_,fun w6=>⟨aa,⟨⟨?_,?_⟩,aa⟩,?_⟩⟩⟩
 all_goals first|refine aw ?_|refine ax ?_|exact a8|exact a7|(show 0+l.length≤1048576;omega)|exact⟨false,fun h=>by cases h⟩|skip
 ·cases w2
 ·refine⟨[1007],[],_,_,_,rfl,az,false,0,(w1),?_,?_,rfl⟩
  ·(show _=pN l false);unfold pN;first|((show AV.s (.xs 0 5 0 (0+l.length))=AV.s (.xs 0 5 0 l.length);rw [ZA6]))|((show [AV.rs ae ([]++l)]=[AV.rs ae l];rfl))|rfl
  ·(show _=sn l false);unfold sn;first|((show AV.s (.xs 0 5 0 (0+l.length))=AV.s (.xs 0 5 0 l.length);rw [ZA6]))|((show [AV.rs ae ([]++l)]=[AV.rs ae l];rfl))|rfl
 ·refine⟨[],[],_,_,_,rfl,az,true,1,(w4),?_,?_,rfl⟩
  ·(show _=pN l true);unfold pN;first|(rw [rfl];rfl)|rfl
  ·(show _=sn l true);unfold sn;first|(rw [rfl];rfl)|rfl
 ·cases w6
def py (s:ay) (t:bf):List Pt×Bool:=bif iI s&&qJ s t then ((bA s t).1.take t.many.toNat,true) else ([],false)
theorem YI {s:ay}{t:bf}:(py s t).2=(iI s&&qJ s t):=by unfold py;cases iI s&&qJ s t<;>rfl
theorem aaF {s:ay}{t:bf}(h:iI s=false):py s t=([],false):=by unfold py;rw [h];rfl
theorem LA {s:ay}{t:bf}(h:qJ s t=false):py s t=([],false):=by unfold py;rw [h,ZD7];rfl
theorem K9 {s:ay}{t:bf}(h:iI s=true) (h2:qJ s t=true):py s t=((bA s t).1.take t.many.toNat,true):=by unfold py;rw [h,h2];rfl
theorem KK.rd {s:ay}(k:KK s):s.rd:=⟨k.len,fun x hx=>by
 obtain⟨i,hi,rfl⟩:=List.getElem_of_mem hx
 have h1:=(k.row i (by have:=k.len;omega)).1
 unfold nth at h1;rw [ZB1 hi] at h1;exact ZB0 h1 (by omega)⟩
theorem Y8 {s:ay}{t:bf}(h:qJ s t=true):lV t=false:=by
 cases hb:lV t with
 |false=>rfl
 |true=>rw [DV hb] at h;cases h
theorem ahx {s:ay}{t:bf}(h:qJ s t=true):t.rd:=HQ (Y8 h)
theorem S0 {s:ay}:∀{f:Nat}{lv:Int}{l:List Pt},lv<(f:Int)→(tF s f lv l).2=true→(tF s f lv l).1.length=l.length*4 ^ lv.toNat
 |0,lv,l,h,_=>by
  rw [show lv.toNat=0 by omega];exact (Nat.mul_one _).symm
 |f+1,lv,l,h,h2=>by
  cases hp:decide (lv>0) with
  |false=>
   have:=aA hp
   rw [vt hp,show lv.toNat=0 by omega];exact (Nat.mul_one _).symm
  |true=>
   have hp':=aJ hp
   match e:fx s lv l [] with
   |none=>rw [H5 hp e] at h2;cases h2
   |some n=>
    rw [CI hp e] at h2 ⊢
    rw [S0 (by omega) h2,r3 e,show lv.toNat=(lv-1).toNat+1 by omega,Nat.pow_succ]
    show (0+4*l.length)*_=_
    rw [ZA6,Nat.mul_comm 4,Nat.mul_assoc,Nat.mul_comm 4]
theorem adt {s:ay}{t:bf}(h:qJ s t=true):t.many.toNat≤(bA s t).1.length:=by
 have hb:=Y8 h
 have hl:(bA s t).2=true:=by
  cases hl: !(bA s t).2 with
  |false=>exact cL hl
  |true=>rw [ZA hb hl] at h;cases h
 unfold lV at hb
 simp only [ZE1,decide_eq_false_iff_not,ZE9] at hb
 obtain⟨h1,h2,h3⟩:=hb
 have:=pn t.many
 refine SW (cL h1) ?_
 have e:=S0 (s:=s) (f:=3) (lv:=t.depth) (l:=[t.root]) (by omega) hl
 rw [←h2];exact e.trans (Nat.one_mul _)
def oA (S:ay) (t:bf):Prop:=S.gone.length≤1000000∧S.dead.length≤1000000
def ER (S:ay) (t:bf) (z:Bool):Prop:=z=true→(py S t).1=[]
def cZ (S:ay) (t:bf) (z:Bool):AV:=.t [match z with |true=>.s (.v (.slice none 0 0)) |false=>.s (.xs 0 5 0 (py S t).1.length),.s (.q (py S t).2)]
def du (S:ay) (t:bf) (z:Bool):List AV:=match z with |true=>[.zz] |false=>[.rs ae (py S t).1]
def rN:cn where
 A:=[.a xv,.a [.int,.int,.int,.int,.int,.int,.int]]
 B:=[]
 pre:=fun x b=>oA (x.1) (x.2)
 α:=fun _ _=>Bool
 φ:=fun x b z=>ER (x.1) (x.2) z
 r:=fun x b z=>cZ (x.1) (x.2) z
 o:=fun x b z=>du (x.1) (x.2) z
 nf:=1
theorem K0:Has Tryz.prog 31 rN:=by
 refine Has.WR zT zF (fun d=>d==17) (l:=[(65,yX),(66,DF),(67,J5)]) ⟨W7,abM,ad2,aa⟩ Tryz.func31 ?_
 rintro⟨⟨(aj:List ByteArray),(ak:List Int),(an:List Int),(ao:Int),(ah:List Pt),(aq:Int),(ai:List Pt),(ar:Bool)⟩,⟨(t1:Int),(t2:Int),(t3:Int),(t4:Int),(t5:Int),(t6:Int),(t7:Int)⟩⟩ _ (hp:oA (aj,ak,an,ao,ah,aq,ai,ar) (t1,t2,t3,t4,t5,t6,t7))
 show vc _ _ _ _ (entry [.a [.vz ab aj,.vz ag ak,.vz ag an,.int ao,.vz ae ah,.int aq,.vz ae ai,.q ar],.a [.int t1,.int t2,.int t3,.int t4,.int t5,.int t6,.int t7]] []) _
 let g':=(aj,ak,an,ao,ah,aq,ai,ar)
 let A':=(t1,t2,t3,t4,t5,t6,t7)
 obtain⟨hg,hd⟩:=hp
 have hk:(!(iI g'))=false→KK g':=fun h=>QM.1 (cL h)
 have dF:(!(iI g'))=false→ay.rd g':=fun h=>(hk h).rd
 have hlen:∀b:Bool,b=qJ g' A'→b=true→(bA g' A').1.length≤16:=fun b h h2=>rh (ahx (h ▸ h2))
 refine⟨⟨⟨tv9,aa⟩,?_,?_⟩,fun x1 w2=>⟨fun w3=>?_,fun w4=>⟨⟨⟨aa,tv8,aa⟩,?_,?_⟩,fun |false=>fun w5=>⟨⟨tv2,?_⟩,fun |false=>fun w6=>?_ |true=>fun w7=>?_⟩ |true=>fun w8=>⟨⟨⟨?_,aa⟩,?_⟩,fun |false=>fun w9=>?_ |true=>fun dy=>?_⟩⟩⟩⟩
 all_goals first|refine aw ?_|refine ax ?_|exact a8|(dsimp only [yX,tl,DF,vh,J5,yl];omega)|exact a7|exact hg|exact hd|exact dF w4|(show 0≤ao;have h:1≤ao∧ao≤900:=(hk w4).cg;omega)|exact ZA7 _|(show 0+t7.toNat≤_;rw [ZA6];exact adt (s:=g') (t:=A') (show true=qJ g' A' from w8).symm)|(show (List.take _ _).length≤1000000;have:=hlen true w8 rfl;rw [ZB9];exact ZB0 (Nat.min_le_right _ _) (ZB0 this (by decide)))|skip
 ·have e:=aaF (s:=g') (t:=A') (uv w3)
  refine⟨[],[],_,_,_,rfl,az,true,1,(fun _=>show (py g' A').1=[] by rw [e]),?_,?_,rfl⟩
  ·(show _=cZ g' A' true);unfold cZ;first|(rw [e];rfl)|rfl
  ·(show _=du g' A' true);unfold du;first|(rw [e];rfl)|rfl
 ·have e:=LA (s:=g') (t:=A') (show false=qJ g' A' from w5).symm
  refine⟨[180000],[],_,_,_,rfl,az,false,0,(fun h=>by cases h),?_,?_,rfl⟩
  ·(show _=cZ g' A' false);unfold cZ;first|(rw [e];rfl)|rfl
  ·(show _=du g' A' false);unfold du;first|(rw [e];rfl)|rfl
 ·have e:=LA (s:=g') (t:=A') (show false=qJ g' A' from w5).symm
  refine⟨[],[],_,_,_,rfl,az,true,1,(fun _=>show (py g' A').1=[] by rw [e]),?_,?_,rfl⟩
  ·(show _=cZ g' A' true);unfold cZ;first|(rw [e];rfl)|rfl
  ·(show _=du g' A' true);unfold du;first|(rw [e];rfl)|rfl
 ·have e:=K9 (s:=g') (t:=A') (cL w4) (show true=qJ g' A' from w8).symm
  refine⟨[180000],[],_,_,_,rfl,az,false,0,(fun h=>by cases h),?_,?_,rfl⟩
  ·(show _=cZ g' A' false);unfold cZ;first|(rw [e];rfl)|rfl
  ·(show _=du g' A' false);unfold du;first|(rw [e];rfl)|rfl
 ·have e:=K9 (s:=g') (t:=A') (cL w4) (show true=qJ g' A' from w8).symm
  refine⟨[],[],_,_,_,rfl,az,true,1,(fun _=>show (py g' A').1=[] by rw [e];exact dy rfl),?_,?_,rfl⟩
  ·(show _=cZ g' A' true);unfold cZ;first|(rw [e];rfl)|rfl
  ·(show _=du g' A' true);unfold du;first|(rw [e];rfl)|rfl
def DU (S:ay) (t:bf):Prop:=S.gone.length≤1000000∧S.dead.length≤1000000
def nG (S:ay) (t:bf):AV:=.s (.q (iI S&&qJ S t))
def WB (S:ay) (t:bf):List AV:=[]
def ab9:cn where
 A:=[.a xv,.a [.int,.int,.int,.int,.int,.int,.int]]
 B:=[]
 pre:=fun x b=>DU (x.1) (x.2)
 r:=fun x b _=>nG (x.1) (x.2)
 o:=fun x b _=>WB (x.1) (x.2)
theorem aiz:Has Tryz.prog 37 ab9:=by
 refine Has.zB zT zF zF (l:=[(31,rN)]) ⟨K0,aa⟩ Tryz.func37 ?_
 rintro⟨⟨(aj:List ByteArray),(ak:List Int),(an:List Int),(ao:Int),(ah:List Pt),(aq:Int),(ai:List Pt),(ar:Bool)⟩,⟨(t1:Int),(t2:Int),(t3:Int),(t4:Int),(t5:Int),(t6:Int),(t7:Int)⟩⟩ _ (hp:DU (aj,ak,an,ao,ah,aq,ai,ar) (t1,t2,t3,t4,t5,t6,t7))
 show vc _ _ _ _ (entry [.a [.vz ab aj,.vz ag ak,.vz ag an,.int ao,.vz ae ah,.int aq,.vz ae ai,.q ar],.a [.int t1,.int t2,.int t3,.int t4,.int t5,.int t6,.int t7]] []) _
 let g':=(aj,ak,an,ao,ah,aq,ai,ar)
 let A':=(t1,t2,t3,t4,t5,t6,t7)
 obtain⟨hg,hd⟩:=hp
 refine⟨⟨⟨tv9,tv8,aa⟩,?_,?_⟩,fun |false=>fun w1=>?_ |true=>fun w2=>?_⟩
 all_goals first|refine aw ?_|refine ax ?_|exact a8|(dsimp only [rN,oA];omega)|exact a7|exact hg|exact hd|skip
 ·refine⟨[],[],_,_,_,rfl,az,(),aa,?_,?_,rfl⟩
  ·(show _=nG g' A');unfold nG;first|(rw [←YI (s:=g') (t:=A')];rfl)|rfl
  ·rfl
 ·refine⟨[],[],_,_,_,rfl,az,(),aa,?_,?_,rfl⟩
  ·(show _=nG g' A');unfold nG;first|(rw [←YI (s:=g') (t:=A')];rfl)|rfl
  ·rfl
end
end GL
end Go.Proofs.YtnkbdhldiinfdaaGreatDoor
