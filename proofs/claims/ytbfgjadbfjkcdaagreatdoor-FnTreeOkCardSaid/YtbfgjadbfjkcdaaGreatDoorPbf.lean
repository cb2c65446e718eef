/- FnTreeOk returns true for every code (its row lists package variables, tied by the card): part 32 of 39. -/
import Derived.Test.YtbfgjadbfjkcdaaGreatDoorPan
import Derived.Test.YtbfgjadbfjkcdaaGreatDoorPas
import Derived.Test.YtbfgjadbfjkcdaaGreatDoorPav
import Derived.Test.YtbfgjadbfjkcdaaGreatDoorPax
import Derived.Test.YtbfgjadbfjkcdaaGreatDoorPba
import Derived.Test.YtbfgjadbfjkcdaaGreatDoorPbd
import Derived.Test.YtbfgjadbfjkcdaaGreatDoorPbe
set_option maxHeartbeats 20000000
set_option linter.all false
namespace Go.Proofs.YtbfgjadbfjkcdaaGreatDoor
namespace GL
noncomputable section
section
variable {s:ax} {i:Nat}
theorem akr (hi:i < 64) (h:decide (nth ae s.last i > s.bY)=true):gz s=false:=mB fun k=>absurd (k.QF i hi) (Int.not_le.2 (cw h))
theorem ahm {p:Pt} (hp:p∈s.gone) (h:(!(aV p))=true∨ar p=true∨decide (p.2.1 > s.bY - 1)=true):gz s=false:=mB fun k=>by
 obtain ⟨h1,h2,h3⟩:=k.gone p hp
 rcases h with h |h |h
 ·rw [h1] at h;cases h
 ·rw [h2] at h;cases h
 ·have:=cw h;omega
theorem ahn {p:Pt} (hp:p∈s.dead) (h:(!(aV p))=true∨ar p=true∨decide (p.2.1 > s.bT)=true):gz s=false:=mB fun k=>by
 obtain ⟨h1,h2,h3⟩:=k.dead p hp
 rcases h with h |h |h
 ·rw [h1] at h;cases h
 ·rw [h2] at h;cases h
 ·have:=cw h;omega
theorem aiG {n r:Nat} (hr:r < 64) (h:¬(bj ((s.gone++s.dead).take n) r:Int)≤qz s r):gz s=false:=mB fun k=>h (by
 have h1:=k.bj r hr
 have h2:=PZ (List.take_sublist n (s.gone++s.dead)) r
 rw [bD] at h2
 omega)
end
theorem acL {rf la:List Int} (h:ry (rf,la)=true) {r:Nat} (hr:r < 64):(0:Int)≤nth ae rf r:=by
 cases h1:decide ((rf.length:Int)≠64) with
 |true=>rw [N3 (p:=(rf,la)) h1] at h;cases h
 |false=>
  cases h2:decide ((la.length:Int)≠64) with
  |true=>rw [N2 (p:=(rf,la)) h2] at h;cases h
  |false=>
   rw [U9 (p:=(rf,la)) h1 h2] at h
   have:=aeT h hr
   exact (cw this).1.1
def gdP (s:ax) (j:Nat):Pt:=bif Nat.blt j s.gone.length then nth ab s.gone j else nth ab s.dead (j - s.gone.length)
def gdT (s:ax) (j:Nat):Int:=bif Nat.blt j s.gone.length then s.bY - 1 else s.bT
def gdB (s:ax) (j:Nat):Bool:=aV (gdP s j)&&(!(ar (gdP s j))&& !(decide ((gdP s j).2.1 > gdT s j)))
theorem aeG {s:ax} {j:Nat} (h:gdB s j=true):aV (gdP s j)=true∧ar (gdP s j)=false∧(gdP s j).2.1≤gdT s j:=by
 unfold gdB at h
 simpa only [Bool.and_eq_true,Bool.not_eq_true',decide_eq_false_iff_not,Int.not_lt] using h
theorem ali {s:ax} {i:Nat} (hi:i < s.gone.length) (h:(!(aV (nth ab s.gone i)))=false) (h2:ar (nth ab s.gone i)=false) (h3:decide ((nth ab s.gone i).2.1 > s.bY - 1)=false):gdB s i=true:=by
 have hb:Nat.blt i s.gone.length=true:=Nat.ble_eq_true_of_le hi
 unfold gdB gdP gdT;rw [hb];show (aV (nth ab s.gone i)&&(!(ar (nth ab s.gone i))&& !(decide ((nth ab s.gone i).2.1 > s.bY - 1))))=true
 rw [cB h,h2,h3];rfl
theorem alh {s:ax} {i k:Nat} (hi:¬i < s.gone.length) (hk:k=i - s.gone.length) (h:(!(aV (nth ab s.dead k)))=false) (h2:ar (nth ab s.dead k)=false) (h3:decide ((nth ab s.dead k).2.1 > s.bT)=false):gdB s i=true:=by
 have hb:Nat.blt i s.gone.length=false:=by
  cases hbb:Nat.blt i s.gone.length with
  |false=>rfl
  |true=>exact absurd (cH hbb) hi
 subst hk
 unfold gdB gdP gdT;rw [hb];show (aV (nth ab s.dead (i - s.gone.length))&&(!(ar (nth ab s.dead (i - s.gone.length)))&& !(decide ((nth ab s.dead (i - s.gone.length)).2.1 > s.bT))))=true
 rw [cB h,h2,h3];rfl
theorem z7 {l:List Pt} {i:Nat} {z:List Int} {q:Pt} (hz:z.length=64) (hc:∀r,(nth ae z r:Int)=(bj (l.take i) r:Int)) (hi:i < l.length) (hq:nth ab l i=q) (ho:aV q=true) (hh:ar q=false):∀r,(nth ae (z.set q.1.toNat (nth ae z q.1.toNat+1:Int)) r:Int)=(bj (l.take (i+1)) r:Int):=fun r=>by
 rw [NW hi,hq,bD]
 have hk:q.1.toNat < z.length:=by rw [hz];exact sj ho
 by_cases e:q.1.toNat=r
 ·subst e
  rw [nu (ek:=ae) hk,hc,rI hh];rfl
 ·rw [ij (ek:=ae) e,hc,y3 e];rfl
theorem afj {l:List Pt} {i:Nat} {q:Pt} {f:Nat→Int} (hi:i < l.length) (hq:nth ab l i=q) (h:∀r,r < 64→(bj (l.take i) r:Int)≤f r) (h2:(bj (l.take (i+1)) q.1.toNat:Int)≤f q.1.toNat):∀r,r < 64→(bj (l.take (i+1)) r:Int)≤f r:=fun r hr=>by
 by_cases e:q.1.toNat=r
 ·rw [←e];exact h2
 ·rw [NW hi,hq,bD,y3 e];exact h r hr
def qT (S:ax):Prop:=S.gone.length≤1000000∧S.dead.length≤1000000
def bw (S:ax):AV:=.s (.q (gz S))
def WS (S:ax):List AV:=[]
def sI:Con where
 A:=[.a xw]
 B:=[]
 pre:=fun x b=>qT x
 α:=fun _ _=>Unit
 φ:=fun _ _ _=>True
 r:=fun x b _=>bw x
 o:=fun x b _=>WS x
 nf:=0
set_option maxRecDepth 100000 in
theorem MJ:Has Tryz.prog 10 sI:=by
 refine Has.ofE (fun _=>true) (fun _=>false) (fun _=>false) (l:=[(23,nc),(24,dy),(25,cS),(26,bc)]) ⟨CM,im,iq,cr,trivial⟩ (fn:=Tryz.f10) Tryz.func10 rfl (by decide) (cH rfl) ?_
 rintro ⟨(ai:List ByteArray),(aj:List Int),(ak:List Int),(an:Int),(ag:List Pt),(ao:Int),(ah:List Pt),(aq:Bool)⟩ _ (hp:qT (ai,aj,ak,an,ag,ao,ah,aq))
 show vc _ _ _ _ (entry [.a [.vz aa ai, .vz ae aj, .vz ae ak, .int an, .vz ab ag, .int ao, .vz ab ah, .q aq]] []) _
 obtain ⟨(hg:ag.length≤1000000),(hd:ah.length≤1000000)⟩:=hp
 have hla:(!(ry (aj,ak)))=false→aj.length=64∧ak.length=64:=fun h=>QX (cB h)
 have hxt:(!(ir an 1 900))=false→1≤an∧an≤900:=fun h=>cn.1 (cB h)
 have hxk:(!(ir ao 0 (an - 1)))=false→0≤ao∧ao≤an - 1:=fun h=>cn.1 (cB h)
 refine ⟨tv,fun w1=>?_,fun w2=>⟨⟨⟨⟨tv,tv,tv⟩,tv⟩,tv⟩,fun x3 w4=>⟨tv,fun w5=>?_,fun w6=>⟨⟨⟨tv,tv,tv,tv⟩,tv⟩,fun x7 w8=>⟨tv,fun w9=>?_,fun df=>⟨⟨?_,?_⟩,⟨⟨tv,tv,tv,tv⟩,tv⟩,fun kx dC=>⟨fun iA=>?_,fun gx=>?_⟩⟩⟩⟩⟩⟩⟩
 all_goals first|refine au ?_|refine aw ?_|exact sa|(dsimp only [nc,nO];omega)|(dsimp only [dy,gO];omega)|(dsimp only [cS,dS];omega)|(dsimp only [bc,bW];omega)|exact sb|(show (-9223372036854775808:Int)≤an - 1;have:=hxt df;omega)|(show an - 1≤(9223372036854775807:Int);have:=hxt df;omega)|skip
 ·refine ⟨[],[],_,_,_,rfl,GL.rp,(),tv,?_,?_,rfl⟩
  ·(show _=bw (ai,aj,ak,an,ag,ao,ah,aq));unfold bw;first |(rw [aiK (s:=(ai,aj,ak,an,ag,ao,ah,aq)) w1];rfl) |rfl
  ·rfl
 ·refine ⟨[],[],_,_,_,rfl,GL.rp,(),tv,?_,?_,rfl⟩
  ·(show _=bw (ai,aj,ak,an,ag,ao,ah,aq));unfold bw;first |(rw [aiJ (s:=(ai,aj,ak,an,ag,ao,ah,aq)) w5];rfl) |rfl
  ·rfl
 ·refine ⟨[],[],_,_,_,rfl,GL.rp,(),tv,?_,?_,rfl⟩
  ·(show _=bw (ai,aj,ak,an,ag,ao,ah,aq));unfold bw;first |(rw [aiI (s:=(ai,aj,ak,an,ag,ao,ah,aq)) w9];rfl) |rfl
  ·rfl
 ·refine ⟨[],[],_,_,_,rfl,GL.rp,(),tv,?_,?_,rfl⟩
  ·(show _=bw (ai,aj,ak,an,ag,ao,ah,aq));unfold bw;first |(rw [aiH (s:=(ai,aj,ak,an,ag,ao,ah,aq)) iA];rfl) |rfl
  ·rfl
 have hlen:ai.length=64:=by have:=ca w2;omega
 have hrl:=hla w6
 have hsp:ry (aj,ak)=true:=cB w6
 have htx:=hxt df
 have hkp:=hxk gx
 have hz0:∀r,nth ae (List.replicate (Int.toNat 64) (EK.zero ae)) r=(0:Int):=fun r=>uM _ r
 refine cI (l:=[(23,nc),(24,dy),(25,cS),(26,bc)]) (ex:=fun _=>true) (wr:=fun _=>false) (pt:=fun _=>false) ⟨CM,im,iq,cr,trivial⟩ [.s 1, .b 1001] (fun i:Nat=>[(.s 3, .int i)]) (fun i=>i≤64∧∀j,j < i→A7 (ai,aj,ak,an,ag,ao,ah,aq) j=true∧nth ae ak j≤an) (fun i=>64 - i) 0 [] ⟨Nat.zero_le _,fun j hj=>absurd hj (by omega)⟩ ru ?_
 rintro i ⟨(hi:i≤64),hj⟩
 have cg:decide ((i:Int) < 64)=true→i < 64:=fun h=>by have:=cw h;omega
 refine ⟨fun w1=>⟨[.s 1],[.s 37],rfl,[.s 37, .b 1001],[.s 38],rfl,[.s 3],[.s 39],rfl,[.s 38, .s 39],[.s 40],rfl,⟨?_,?_⟩,[.s 40],[.s 41],rfl,[.s 41],[.s 42],rfl,[.s 42],[.s 43],rfl,[.s 43],[.s 44],rfl,tv,fun w2=>⟨[.s 44],[.s 45],rfl,[.s 44],[.s 46],rfl,[.s 44],[.s 47],rfl,[.s 44],[.s 48],rfl,[.s 44],[.s 49],rfl,[.s 44],[.s 50],rfl,[.s 44],[.s 51],rfl,[.s 44],[.s 52],rfl,[.s 44],[.s 53],rfl,[.s 44],[.s 54],rfl,[.s 44],[.s 55],rfl,[.s 44],[.s 56],rfl,[.s 44],[.s 57],rfl,[.s 44],[.s 58],rfl,[.s 44, .s 58],[.s 59],rfl,[.s 59],[.s 60],rfl,[.s 60],[.s 61],rfl,[.s 60],[.s 62],rfl,[.s 60],[.s 63],rfl,[.s 60],[.s 64],rfl,[.s 60],[.s 65],rfl,[.s 60],[.s 66],rfl,[.s 60],[.s 67],rfl,[.s 60],[.s 68],rfl,[.s 60],[.s 69],rfl,[.s 60, .s 69],[.s 70],rfl,?_⟩,fun w3=>⟨[.s 44, .s 1],[.s 45],rfl,[.s 44, .s 45, .b 1001],[.s 46],rfl,[.s 44, .s 3],[.s 47],rfl,[.s 44, .s 46, .s 47],[.s 48],rfl,⟨?_,?_⟩,[.s 44, .s 48],[.s 49],rfl,[.s 44, .s 49],[.s 50],rfl,[.s 44, .s 1],[.s 51],rfl,[.s 44, .s 51],[.s 52],rfl,[.s 44, .s 52, .b 1001],[.s 53],rfl,[.s 44, .s 3],[.s 54],rfl,[.s 44, .s 53, .s 54],[.s 55],rfl,⟨?_,?_⟩,[.s 44, .s 55],[.s 56],rfl,[.s 44, .s 56],[.s 57],rfl,[.s 44, .s 50, .s 57],[.s 58],rfl,[.s 44, .s 58],[.s 59],rfl,[.s 59],[.s 60],rfl,tv,fun w4=>⟨[.s 60],[.s 61],rfl,[.s 60],[.s 62],rfl,[.s 60],[.s 63],rfl,[.s 60],[.s 64],rfl,[.s 60],[.s 65],rfl,[.s 60],[.s 66],rfl,[.s 60],[.s 67],rfl,[.s 60],[.s 68],rfl,[.s 60],[.s 69],rfl,[.s 60, .s 69],[.s 70],rfl,?_⟩,fun w5=>⟨[.s 60, .s 1],[.s 61],rfl,[.s 60, .s 61],[.s 62],rfl,[.s 60, .s 62, .b 1001],[.s 63],rfl,[.s 60, .s 3],[.s 64],rfl,[.s 60, .s 63, .s 64],[.s 65],rfl,⟨?_,?_⟩,[.s 60, .s 65],[.s 66],rfl,[.s 60, .s 1],[.s 67],rfl,[.s 60, .s 67, .b 1001],[.s 68],rfl,[.s 60, .s 66, .s 68],[.s 69],rfl,[.s 60, .s 69],[.s 70],rfl,fun w6=>?_,fun w7=>⟨⟨?_,?_⟩,?_⟩⟩⟩⟩,fun w8=>⟨⟨?_,?_,?_⟩,?_⟩⟩
 all_goals first|refine au ?_|refine aw ?_|exact sa|(dsimp only [nc,nO];omega)|(dsimp only [dy,gO];omega)|(dsimp only [cS,dS];omega)|(dsimp only [bc,bW];omega)|exact sb|(show (i:Int) < (aj.length:Int);rw [hrl.1];exact Int.ofNat_lt.2 (cg w1))|(show (i:Int) < (ai.length:Int);rw [hlen];exact Int.ofNat_lt.2 (cg w1))|(show (i:Int) < (ak.length:Int);rw [hrl.2];exact Int.ofNat_lt.2 (cg w1))|skip
 ·refine ⟨[],[],_,_,_,rfl,GL.rp,(),tv,?_,?_,rfl⟩
  ·(show _=bw (ai,aj,ak,an,ag,ao,ah,aq));unfold bw;first |(rw [afJ (s:=(ai,aj,ak,an,ag,ao,ah,aq)) (cg w1) (acO (s:=(ai,aj,ak,an,ag,ao,ah,aq)) w2)];rfl) |rfl
  ·rfl
 ·refine ⟨[],[],_,_,_,rfl,GL.rp,(),tv,?_,?_,rfl⟩
  ·(show _=bw (ai,aj,ak,an,ag,ao,ah,aq));unfold bw;first |(rw [afJ (s:=(ai,aj,ak,an,ag,ao,ah,aq)) (cg w1) (acN (s:=(ai,aj,ak,an,ag,ao,ah,aq)) w4)];rfl) |rfl
  ·rfl
 ·refine ⟨[],[],_,_,_,rfl,GL.rp,(),tv,?_,?_,rfl⟩
  ·(show _=bw (ai,aj,ak,an,ag,ao,ah,aq));unfold bw;first |(rw [akr (s:=(ai,aj,ak,an,ag,ao,ah,aq)) (cg w1) w6];rfl) |rfl
  ·rfl
 ·refine ⟨(i+1),[],?_,?_,?_⟩
  rotate_right
  ·exact rq
  ·refine ⟨cg w1,fun j yR=>?_⟩
   by_cases e:j=i
   ·rw [e];exact ⟨acM (s:=(ai,aj,ak,an,ag,ao,ah,aq)) w3 w5,Int.not_lt.1 (ca w7)⟩
   ·exact hj j (by omega)
  ·show 64 - (i+1) < 64 - i;have:=cg w1;omega
 have ab3:∀j,j < 64→A7 (ai,aj,ak,an,ag,ao,ah,aq) j=true∧nth ae ak j≤an:=fun j yR=>hj j (by have:=ca w8;omega)
 clear hj cg hi
 refine cI (l:=[(23,nc),(24,dy),(25,cS),(26,bc)]) (ex:=fun _=>true) (wr:=fun _=>false) (pt:=fun _=>false) ⟨CM,im,iq,cr,trivial⟩ [.s 1, .b 1001, .s 4] (fun y:Nat×List Int=>[(.s 5, .int y.1),(.b 1071, .rs ae y.2)]) (fun y=>y.1≤ag.length+ah.length∧y.2.length=64∧(∀r,(nth ae y.2 r:Int)=(bj ((ag++ah).take y.1) r:Int))∧(∀r,r < 64→(bj ((ag++ah).take y.1) r:Int)≤qz (ai,aj,ak,an,ag,ao,ah,aq) r)∧∀j,j < y.1→gdB (ai,aj,ak,an,ag,ao,ah,aq) j=true) (fun y=>ag.length+ah.length - y.1) (0,List.replicate (Int.toNat 64) (EK.zero ae)) [] ⟨Nat.zero_le _,rfl,hz0,fun r hr=>(acL hsp hr),fun j hj=>absurd hj (by omega)⟩ ru ?_
 rintro ⟨i,z⟩ ⟨(hi:i≤ag.length+ah.length),(hz:z.length=64),(hc:∀r,(nth ae z r:Int)=(bj ((ag++ah).take i) r:Int)),hle,hgd⟩
 have ab6:decide ((i:Int) < (ag.length:Int)+(ah.length:Int))=true→i < (ag++ah).length:=fun h=>by rw [List.length_append];have:=cw h;omega
 have bM:decide ((i:Int) < (ag.length:Int)+(ah.length:Int))=true→i+1≤ag.length+ah.length:=fun h=>by have:=cw h;omega
 have aer:decide ((i:Int) < (ag.length:Int))=true→i < ag.length:=fun h=>by have:=cw h;omega
 have hqG:decide ((i:Int) < (ag.length:Int))=true→nth ab (ag++ah) i=nth ab ag i:=fun h=>by
  unfold nth;rw [List.getElem?_append_left (aer h)]
 have aga:decide ((i:Int) < (ag.length:Int))=false→((i:Int) - (ag.length:Int)).toNat=i - ag.length:=fun h=>by have:=ca h;omega
 have hqD:decide ((i:Int) < (ag.length:Int))=false→nth ab (ag++ah) i=nth ab ah ((i:Int) - (ag.length:Int)).toNat:=fun h=>by
  rw [aga h];have:=ca h
  exact ZO (l:=ag) (m:=ah) (by omega)
 have hmD:decide ((i:Int) < (ag.length:Int))=false→decide ((i:Int) < (ag.length:Int)+(ah.length:Int))=true→nth ab ah ((i:Int) - (ag.length:Int)).toNat∈ah:=fun h h2=>by
  have:=ca h;have:=cw h2
  exact bS (ek:=ab) (by omega)
 have hz1:∀k,(-9223372036854775808:Int)≤(nth ae z k+1:Int):=fun k=>by rw [hc k];omega
 have hz2:∀k,(nth ae z k+1:Int)≤(9223372036854775807:Int):=fun k=>by
  rw [hc k]
  have:bj ((ag++ah).take i) k≤((ag++ah).take i).length:=List.countP_le_length
  rw [List.length_take,List.length_append] at this
  have h3:bj ((ag++ah).take i) k≤2000000:=by omega
  exact Int.le_trans (Int.add_le_add_right (Int.ofNat_le.2 h3) 1) (by decide)
 have h64:(List.replicate (Int.toNat 64) (EK.zero ae)).length=64:=rfl
 refine ⟨⟨?_,?_⟩,fun w1=>⟨⟨?_,?_⟩,fun w2=>⟨⟨?_,?_⟩,⟨⟨⟨tv,tv,tv,tv,tv,tv⟩,tv⟩,tv⟩,fun x3 w4=>⟨tv,fun w5=>?_,fun w6=>⟨⟨⟨⟨tv,tv,tv,tv,tv,tv⟩,tv⟩,tv⟩,fun x7 w8=>⟨tv,fun w9=>?_,fun df=>⟨fun ka=>?_,fun dC=>⟨[.s 4],[.s 121],rfl,[.s 7],[.s 122],rfl,[.s 122, .b 1007],[.s 123],rfl,[.s 4],[.s 124],rfl,[.s 7],[.s 125],rfl,[.s 125, .b 1007],[.s 126],rfl,[.s 124, .s 126],[.s 127],rfl,⟨?_,?_⟩,[.s 127, .b 1071],[.s 128],rfl,?_,[.s 128],[.s 129],rfl,⟨?_,?_⟩,[.s 121, .s 123],[.s 130],rfl,⟨?_,?_⟩,[.s 130, .s 129, .b 1071],[.b 1071],rfl,?_,[.s 4],[.s 131],rfl,[.s 7],[.s 132],rfl,[.s 132, .b 1007],[.s 133],rfl,[.s 131, .s 133],[.s 134],rfl,⟨?_,?_⟩,[.s 134, .b 1071],[.s 135],rfl,?_,[.s 1],[.s 136],rfl,[.s 136],[.s 137],rfl,[.s 137, .b 1001],[.s 138],rfl,[.s 7],[.s 139],rfl,[.s 139, .b 1007],[.s 140],rfl,[.s 138, .s 140],[.s 141],rfl,⟨?_,?_⟩,[.s 141],[.s 142],rfl,[.s 135, .s 142],[.s 143],rfl,fun iA=>?_,fun gx=>⟨⟨?_,?_⟩,?_⟩⟩⟩⟩⟩⟩⟩,fun oU=>⟨⟨?_,?_⟩,⟨?_,?_⟩,⟨⟨⟨tv,tv,tv,tv,tv,tv⟩,tv⟩,tv⟩,fun x16 wu=>⟨tv,fun qI=>?_,fun ot=>⟨⟨⟨⟨tv,tv,tv,tv,tv,tv⟩,tv⟩,tv⟩,fun x20 zg=>⟨tv,fun zf=>?_,fun xv=>⟨fun rl=>?_,fun w25=>⟨[.s 4],[.s 121],rfl,[.s 7],[.s 122],rfl,[.s 122, .b 1007],[.s 123],rfl,[.s 4],[.s 124],rfl,[.s 7],[.s 125],rfl,[.s 125, .b 1007],[.s 126],rfl,[.s 124, .s 126],[.s 127],rfl,⟨?_,?_⟩,[.s 127, .b 1071],[.s 128],rfl,?_,[.s 128],[.s 129],rfl,⟨?_,?_⟩,[.s 121, .s 123],[.s 130],rfl,⟨?_,?_⟩,[.s 130, .s 129, .b 1071],[.b 1071],rfl,?_,[.s 4],[.s 131],rfl,[.s 7],[.s 132],rfl,[.s 132, .b 1007],[.s 133],rfl,[.s 131, .s 133],[.s 134],rfl,⟨?_,?_⟩,[.s 134, .b 1071],[.s 135],rfl,?_,[.s 1],[.s 136],rfl,[.s 136],[.s 137],rfl,[.s 137, .b 1001],[.s 138],rfl,[.s 7],[.s 139],rfl,[.s 139, .b 1007],[.s 140],rfl,[.s 138, .s 140],[.s 141],rfl,⟨?_,?_⟩,[.s 141],[.s 142],rfl,[.s 135, .s 142],[.s 143],rfl,fun EL=>?_,fun w27=>⟨⟨?_,?_⟩,?_⟩⟩⟩⟩⟩⟩⟩⟩,fun w28=>?_⟩
 all_goals first|refine au ?_|refine aw ?_|exact sa|(dsimp only [nc,nO];omega)|(dsimp only [dy,gO];omega)|(dsimp only [cS,dS];omega)|(dsimp only [bc,bW];omega)|exact sb|(show (i:Int) - (ag.length:Int) < (ah.length:Int);have:=cw w1;omega)|(show (0:Int)≤(i:Int) - (ag.length:Int);have:=ca oU;omega)|exact (nT (cB w6)).1|exact (nT (cB ot)).1|exact (nT (cB w6)).2|exact (nT (cB ot)).2|(show _ < (aj.length:Int);rw [hrl.1];exact (nT (cB w6)).2)|(show _ < (aj.length:Int);rw [hrl.1];exact (nT (cB ot)).2)|exact hz1 _|exact hz2 _|(show (nth ab ag i).1.toNat < z.length;rw [hz];exact sj (cB w6))|(show (nth ab ah ((i:Int) - (ag.length:Int)).toNat).1.toNat < z.length;rw [hz];exact sj (cB ot))|(show (nth ab ag i).1.toNat < (List.set _ _ _).length;rw [List.length_set,hz];exact sj (cB w6))|(show (nth ab ah ((i:Int) - (ag.length:Int)).toNat).1.toNat < (List.set _ _ _).length;rw [List.length_set,hz];exact sj (cB ot))|skip
 ·refine ⟨[],[],_,_,_,rfl,GL.rp,(),tv,?_,?_,rfl⟩
  ·(show _=bw (ai,aj,ak,an,ag,ao,ah,aq));unfold bw;first |(rw [ahm (s:=(ai,aj,ak,an,ag,ao,ah,aq)) (bS (ek:=ab) (aer w2)) (.inl w5)];rfl) |rfl
  ·rfl
 ·refine ⟨[],[],_,_,_,rfl,GL.rp,(),tv,?_,?_,rfl⟩
  ·(show _=bw (ai,aj,ak,an,ag,ao,ah,aq));unfold bw;first |(rw [ahm (s:=(ai,aj,ak,an,ag,ao,ah,aq)) (bS (ek:=ab) (aer w2)) (.inr (.inl w9))];rfl) |rfl
  ·rfl
 ·refine ⟨[],[],_,_,_,rfl,GL.rp,(),tv,?_,?_,rfl⟩
  ·(show _=bw (ai,aj,ak,an,ag,ao,ah,aq));unfold bw;first |(rw [ahm (s:=(ai,aj,ak,an,ag,ao,ah,aq)) (bS (ek:=ab) (aer w2)) (.inr (.inr ka))];rfl) |rfl
  ·rfl
 ·have j7:=z7 hz hc (ab6 w1) (hqG w2) (cB w6) df
  refine ⟨[],[],_,_,_,rfl,GL.rp,(),tv,?_,?_,rfl⟩
  ·(show _=bw (ai,aj,ak,an,ag,ao,ah,aq));unfold bw;first |(rw [aiG (s:=(ai,aj,ak,an,ag,ao,ah,aq)) (n:=i+1) (sj (cB w6)) (fun h=>by rw [←j7] at h;exact absurd h (Int.not_le.2 (cw iA)))];rfl) |rfl
  ·rfl
 ·have j7:=z7 hz hc (ab6 w1) (hqG w2) (cB w6) df
  refine ⟨(i+1,z.set (nth ab ag i).1.toNat (nth ae z (nth ab ag i).1.toNat+1:Int)),[],?_,?_,?_⟩
  rotate_right
  ·exact rq
  ·refine ⟨bM w1,by show (List.set _ _ _).length=64;rw [List.length_set,hz],j7,?_,?_⟩
   ·exact afj (ab6 w1) (hqG w2) hle (by rw [←j7];exact Int.not_lt.1 (ca gx))
   ·intro j yR
    by_cases e:j=i
    ·rw [e];exact ali (s:=(ai,aj,ak,an,ag,ao,ah,aq)) (aer w2) w6 df dC
    ·exact hgd j (by have:j < i+1:=yR;omega)
  ·show ag.length+ah.length - (i+1) < ag.length+ah.length - i;have:=bM w1;omega
 ·refine ⟨[],[],_,_,_,rfl,GL.rp,(),tv,?_,?_,rfl⟩
  ·(show _=bw (ai,aj,ak,an,ag,ao,ah,aq));unfold bw;first |(rw [ahn (s:=(ai,aj,ak,an,ag,ao,ah,aq)) (hmD oU w1) (.inl qI)];rfl) |rfl
  ·rfl
 ·refine ⟨[],[],_,_,_,rfl,GL.rp,(),tv,?_,?_,rfl⟩
  ·(show _=bw (ai,aj,ak,an,ag,ao,ah,aq));unfold bw;first |(rw [ahn (s:=(ai,aj,ak,an,ag,ao,ah,aq)) (hmD oU w1) (.inr (.inl zf))];rfl) |rfl
  ·rfl
 ·refine ⟨[],[],_,_,_,rfl,GL.rp,(),tv,?_,?_,rfl⟩
  ·(show _=bw (ai,aj,ak,an,ag,ao,ah,aq));unfold bw;first |(rw [ahn (s:=(ai,aj,ak,an,ag,ao,ah,aq)) (hmD oU w1) (.inr (.inr rl))];rfl) |rfl
  ·rfl
 ·have j7:=z7 hz hc (ab6 w1) (hqD oU) (cB ot) xv
  refine ⟨[],[],_,_,_,rfl,GL.rp,(),tv,?_,?_,rfl⟩
  ·(show _=bw (ai,aj,ak,an,ag,ao,ah,aq));unfold bw;first |(rw [aiG (s:=(ai,aj,ak,an,ag,ao,ah,aq)) (n:=i+1) (sj (cB ot)) (fun h=>by rw [←j7] at h;exact absurd h (Int.not_le.2 (cw EL)))];rfl) |rfl
  ·rfl
 ·have j7:=z7 hz hc (ab6 w1) (hqD oU) (cB ot) xv
  refine ⟨(i+1,z.set (nth ab ah ((i:Int) - (ag.length:Int)).toNat).1.toNat (nth ae z (nth ab ah ((i:Int) - (ag.length:Int)).toNat).1.toNat+1:Int)),[],?_,?_,?_⟩
  rotate_right
  ·exact rq
  ·refine ⟨bM w1,by show (List.set _ _ _).length=64;rw [List.length_set,hz],j7,?_,?_⟩
   ·exact afj (ab6 w1) (hqD oU) hle (by rw [←j7];exact Int.not_lt.1 (ca w27))
   ·intro j yR
    by_cases e:j=i
    ·rw [e];exact alh (s:=(ai,aj,ak,an,ag,ao,ah,aq)) (by have:=ca oU;show¬i < ag.length;omega) (aga oU) ot xv w25
    ·exact hgd j (by have:j < i+1:=yR;omega)
  ·show ag.length+ah.length - (i+1) < ag.length+ah.length - i;have:=bM w1;omega
 ·have hE:i=ag.length+ah.length:=by have:=ca (p:=(i:Int) < (ag.length:Int)+(ah.length:Int)) w28;omega
  have e:gz (ai,aj,ak,an,ag,ao,ah,aq)=true:=U8
   {len:=hlen,sp:=hsp,bY:=htx,bT:=hkp,QF:=fun j yR=>(ab3 j yR).2,row:=fun j yR=>GO.1 (ab3 j yR).1
    gone:=fun p hp=>by
     obtain ⟨j,hj,rfl⟩:=List.getElem_of_mem hp
     have hj:j < ag.length:=hj
     have:=aeG (hgd j (by omega))
     rw [show gdP (ai,aj,ak,an,ag,ao,ah,aq) j=ag[j] by unfold gdP;rw [show Nat.blt j (ax.gone (ai,aj,ak,an,ag,ao,ah,aq)).length=true from Nat.ble_eq_true_of_le hj];unfold nth;rw [cond_true];rw [show (ax.gone (ai,aj,ak,an,ag,ao,ah,aq))[j]?=some ag[j] from List.getElem?_eq_getElem hj],show gdT (ai,aj,ak,an,ag,ao,ah,aq) j=an - 1 by unfold gdT;rw [show Nat.blt j (ax.gone (ai,aj,ak,an,ag,ao,ah,aq)).length=true from Nat.ble_eq_true_of_le hj];rfl] at this
     exact this
    dead:=fun p hp=>by
     obtain ⟨j,hj,rfl⟩:=List.getElem_of_mem hp
     have hj:j < ah.length:=hj
     have:=aeG (hgd (ag.length+j) (by omega))
     have hb:Nat.blt (ag.length+j) (ax.gone (ai,aj,ak,an,ag,ao,ah,aq)).length=false:=by
      cases hbb:Nat.blt (ag.length+j) (ax.gone (ai,aj,ak,an,ag,ao,ah,aq)).length with
      |false=>rfl
      |true=>have:ag.length+j < ag.length:=cH hbb;omega
     rw [show gdP (ai,aj,ak,an,ag,ao,ah,aq) (ag.length+j)=ah[j] by unfold gdP;rw [hb,cond_false];rw [show ag.length+j - (ax.gone (ai,aj,ak,an,ag,ao,ah,aq)).length=j from Nat.add_sub_cancel_left ..];unfold nth;rw [show (ax.dead (ai,aj,ak,an,ag,ao,ah,aq))[j]?=some ah[j] from List.getElem?_eq_getElem hj],show gdT (ai,aj,ak,an,ag,ao,ah,aq) (ag.length+j)=ao by unfold gdT;rw [hb];rfl] at this
     exact this
    bj:=fun r hr=>by
     have:=hle r hr
     rw [List.take_of_length_le (by rw [List.length_append];omega),bD] at this
     exact this }
  refine ⟨[],[],_,_,_,rfl,GL.rp,(),tv,?_,?_,rfl⟩
  ·(show _=bw (ai,aj,ak,an,ag,ao,ah,aq));unfold bw;first |(rw [e];rfl) |rfl
  ·rfl
def yr (S:ax) (t:aZ):Prop:=S.gone.length≤1000000∧S.dead.length≤1000000
def pE (S:ax) (t:aZ):AV:=.s (.q (gz S&&oz S t))
def abx (S:ax) (t:aZ):List AV:=[]
def J6:Con where
 A:=[.a xw, .a [.int, .int, .int, .int, .int, .int, .int]]
 B:=[]
 pre:=fun x b=>yr (x.1) (x.2)
 α:=fun _ _=>Unit
 φ:=fun _ _ _=>True
 r:=fun x b _=>pE (x.1) (x.2)
 o:=fun x b _=>abx (x.1) (x.2)
 nf:=0
set_option maxRecDepth 100000 in
theorem aec:Has Tryz.prog 6 J6:=by
 refine Has.ofE (fun _=>true) (fun _=>false) (fun _=>false) (l:=[(10,sI),(11,JV)]) ⟨MJ,adZ,trivial⟩ (fn:=Tryz.f6) Tryz.func6 rfl (by decide) (cH rfl) ?_
 rintro ⟨⟨(ai:List ByteArray),(aj:List Int),(ak:List Int),(an:Int),(ag:List Pt),(ao:Int),(ah:List Pt),(aq:Bool)⟩,⟨(t1:Int),(t2:Int),(t3:Int),(t4:Int),(t5:Int),(t6:Int),(t7:Int)⟩⟩ _ (hp:yr (ai,aj,ak,an,ag,ao,ah,aq) (t1,t2,t3,t4,t5,t6,t7))
 show vc _ _ _ _ (entry [.a [.vz aa ai, .vz ae aj, .vz ae ak, .int an, .vz ab ag, .int ao, .vz ab ah, .q aq], .a [.int t1, .int t2, .int t3, .int t4, .int t5, .int t6, .int t7]] []) _
 obtain ⟨hg,hd⟩:=hp
 refine ⟨⟨⟨⟨tv,tv,tv,tv,tv,tv,tv,tv,tv⟩,tv⟩,?_,?_⟩,fun x1 w2=>⟨tv,fun w3=>⟨⟨⟨⟨tv,tv,tv,tv,tv,tv,tv,tv,tv⟩,⟨tv,tv,tv,tv,tv,tv,tv,tv⟩,tv⟩,?_⟩,fun x4 w5=>?_⟩,fun w6=>?_⟩⟩
 all_goals first|refine au ?_|refine aw ?_|exact sa|(dsimp only [sI,qT];omega)|(dsimp only [JV,zw];omega)|exact sb|exact hg|exact hd|exact (QS.1 w3).rd|skip
 ·have e:(gz (ai,aj,ak,an,ag,ao,ah,aq)&&oz (ai,aj,ak,an,ag,ao,ah,aq) (t1,t2,t3,t4,t5,t6,t7))=oz (ai,aj,ak,an,ag,ao,ah,aq) (t1,t2,t3,t4,t5,t6,t7):=by rw [show gz (ai,aj,ak,an,ag,ao,ah,aq)=true from w3];rfl
  refine ⟨[],[],_,_,_,rfl,GL.rp,(),tv,?_,?_,rfl⟩
  ·(show _=pE (ai,aj,ak,an,ag,ao,ah,aq) (t1,t2,t3,t4,t5,t6,t7));unfold pE;first |(rw [e];rfl) |rfl
  ·rfl
 ·have e:(gz (ai,aj,ak,an,ag,ao,ah,aq)&&oz (ai,aj,ak,an,ag,ao,ah,aq) (t1,t2,t3,t4,t5,t6,t7))=false:=by rw [show gz (ai,aj,ak,an,ag,ao,ah,aq)=false from w6];rfl
  refine ⟨[],[],_,_,_,rfl,GL.rp,(),tv,?_,?_,rfl⟩
  ·(show _=pE (ai,aj,ak,an,ag,ao,ah,aq) (t1,t2,t3,t4,t5,t6,t7));unfold pE;first |(rw [e];rfl) |rfl
  ·rfl
end
end GL
namespace GL
theorem afU (b:Bool):gz (j5 b)=true:=U8
 {len:=rfl
  sp:=show ry (List.replicate 64 0,List.replicate 64 0)=true by decide+kernel
  bY:=⟨Int.le_refl _,show (1:Int)≤900 by decide⟩
  bT:=⟨Int.le_refl _,Int.le_refl _⟩
  QF:=fun i _=>by rw [show nth ae (j5 b).last i=(0:Int) from uM 64 i];exact (show (0:Int)≤1 by decide)
  row:=fun i _=>by
   have e:nth aa (j5 b).rows i=⟨#[]⟩:=by
    by_cases h:i < (j5 b).rows.length
    ·exact (List.mem_replicate.1 (bS (ek:=aa) h)).2
    ·exact tq (ek:=aa) (by omega)
   rw [e,show nth ae (j5 b).refs i=(0:Int) from uM 64 i]
   exact ⟨Nat.zero_le _,rfl⟩
  gone:=fun p hp=>by cases hp
  dead:=fun p hp=>by cases hp
  bj:=fun r _=>by rw [HT];exact Int.le_refl _ }
structure aj5 (s:ax):Prop where
 ex:∃b,s=j5 b
def lR (S:ax):Prop:=aj5 S
def OI (S:ax) (z:ax×aZ):Prop:=FS z.1 z.2∧z.1.wg 10
def N8 (S:ax) (z:ax×aZ):AV:=.t [.a (lA 0 1 2 3 4 z.1),trA z.2, .s (.q true)]
def SH (S:ax) (z:ax×aZ):List AV:=[.rs aa z.1.rows, .rs ae z.1.refs, .rs ae z.1.last, .rs ab z.1.gone, .rs ab z.1.dead]
def kU:Con where
 A:=[.a xw]
 B:=[]
 pre:=fun x b=>lR x
 α:=fun _ _=>ax×aZ
 φ:=fun x b z=>OI x z
 r:=fun x b z=>N8 x z
 o:=fun x b z=>SH x z
 nf:=5
set_option maxRecDepth 100000 in
theorem yO:Has Tryz.prog 39 kU:=by
 refine Has.ofE (fun _=>true) (fun _=>false) (fun _=>false) (l:=[(10,sI),(54,jv),(63,vU)]) ⟨MJ,IG,TM,trivial⟩ (fn:=Tryz.f39) Tryz.func39 rfl (by decide) (cH rfl) ?_
 rintro ⟨(ai:List ByteArray),(aj:List Int),(ak:List Int),(an:Int),(ag:List Pt),(ao:Int),(ah:List Pt),(aq:Bool)⟩ _ (hp:lR (ai,aj,ak,an,ag,ao,ah,aq))
 show vc _ _ _ _ (entry [.a [.vz aa ai, .vz ae aj, .vz ae ak, .int an, .vz ab ag, .int ao, .vz ab ah, .q aq]] []) _
 obtain ⟨b,hb⟩:=hp.ex
 have hst:gz (ai,aj,ak,an,ag,ao,ah,aq)=true:=by rw [hb];exact afU b
 have hsm:ax.small (ai,aj,ak,an,ag,ao,ah,aq):=by rw [hb];exact ⟨show 64≤1000000 by decide,show 64≤1000000 by decide,show 64≤1000000 by decide,Nat.zero_le _,Nat.zero_le _⟩
 have hw0:ax.wg (ai,aj,ak,an,ag,ao,ah,aq) 0:=by rw [hb];exact ⟨(ZQ b).acc.wf,Nat.le_refl _,Nat.le_refl _,show (1:Int)≤1000 by decide⟩
 have ll:ax.wg (ai,aj,ak,an,ag,ao,ah,aq) 1046000:=hw0.mono (Nat.zero_le _)
 have I0:(aU (ai,aj,ak,an,ag,ao,ah,aq) pn 0 (az mr)).2.2=true:=by rw [hb];exact SY b
 have uK:FS (aU (ai,aj,ak,an,ag,ao,ah,aq) pn 0 (az mr)).1 (aU (ai,aj,ak,an,ag,ao,ah,aq) pn 0 (az mr)).2.1:=by rw [hb];exact afV b
 have ai8:aZ.ok pn:=(wI b).ok
 have hw1:(aU (ai,aj,ak,an,ag,ao,ah,aq) pn 0 (az mr)).1.wg 10:=(nq hw0 ai8 (Int.le_refl _) (by decide)).1.mono (by omega)
 refine ⟨⟨⟨⟨tv,tv,tv,tv,tv,tv,tv,tv,tv⟩,tv⟩,?_,?_⟩,fun x1 w2=>⟨fun w3=>?_,fun w4=>⟨⟨⟨⟨tv,tv,tv,tv,tv,tv,tv,tv,tv⟩,tv⟩,?_,?_,?_,?_,?_⟩,fun x5 w6=>⟨⟨⟨⟨tv,tv,tv,tv,tv,tv,tv,tv,tv⟩,⟨tv,tv,tv,tv,tv,tv,tv,tv⟩,tv,⟨tv,tv,tv,tv,tv,tv,tv,tv,tv,tv,tv⟩,tv⟩,⟨?_,?_,?_,?_,?_⟩,?_,?_,?_,?_⟩,fun x7 w8=>⟨fun w9=>?_,fun df=>⟨[.s 5, .b 1005],[.s 26],rfl,[.s 6, .b 1006],[.s 27],rfl,[.s 2, .s 26, .b 1002],[.b 1002],rfl,[.s 3, .s 27, .b 1003],[.b 1003],rfl,[],[.s 4],rfl,?_⟩⟩⟩⟩⟩⟩
 all_goals first|refine au ?_|refine aw ?_|exact sa|(dsimp only [sI,qT];omega)|(dsimp only [jv,pN];omega)|(dsimp only [vU,th];omega)|exact sb|exact hsm.1|exact hsm.2.1|exact hsm.2.2.1|exact hsm.2.2.2.1|exact hsm.2.2.2.2|exact ll|exact ai8|skip
 ·exact absurd (hst.symm.trans (qV w3)) (by decide)
 ·exact absurd (I0.symm.trans (qV w9)) (by decide)
 ·refine ⟨[160000,160001,160002,1000190000,1000190001],[],_,_,_,rfl,rr,((aU (ai,aj,ak,an,ag,ao,ah,aq) pn 0 (az mr)).1,(aU (ai,aj,ak,an,ag,ao,ah,aq) pn 0 (az mr)).2.1),⟨uK,hw1⟩,rfl,rfl,rfl⟩
end GL
namespace GL
def aew:ByteArray:=⟨#[104,101,108,108,111,32,104,101,108,108,111,32,104,101,108,108,111]⟩
def qg:List Opr:=[(2,⟨#[47,97]⟩,⟨#[]⟩,0,⟨#[]⟩),(1,⟨#[47,98]⟩,⟨#[]⟩,0,⟨#[]⟩),(1,⟨#[47,97,47,98]⟩,⟨#[]⟩,0,⟨#[]⟩),(3,⟨#[47,98]⟩,⟨#[]⟩,0,aew),(2,⟨#[47,97,47,99]⟩,⟨#[]⟩,0,⟨#[]⟩),(3,⟨#[47,97,47,98]⟩,⟨#[]⟩,30,aew)]
def lK:Prop:=True
def sX:AV:=.s (.xs 0 5 0 qg.length)
def vl:List AV:=[.rs EJ qg]
def kN:Con where
 A:=[]
 B:=[]
 pre:=fun x b=>lK
 α:=fun _ _=>Unit
 φ:=fun _ _ _=>True
 r:=fun x b _=>sX
 o:=fun x b _=>vl
 nf:=1
set_option maxRecDepth 100000 in
theorem yI:Has Tryz.prog 41 kN:=by
 refine Has.ofE (fun _=>true) (fun _=>false) (fun _=>false) (l:=[]) trivial (fn:=Tryz.f41) Tryz.func41 rfl (by decide) (cH rfl) ?_
 rintro _ _ (hp:lK)
 show vc _ _ _ _ (entry [] []) _
 refine ⟨tv,?_⟩
 all_goals first|refine au ?_|refine aw ?_|exact sa|exact sb|skip
 refine ⟨[1007],[],_,_,_,rfl,GL.rp,(),tv,?_,?_,rfl⟩
 ·(show _=sX);unfold sX;first |rfl
 ·(show _=vl);unfold vl;first |rfl
end GL
namespace GL
structure EY (r:List Int×Int) (n:Int):Prop where
 len:r.1.length≤2000
 iV:∀b∈r.1,0≤b∧b≤255
 p0:0≤r.2
 p1:r.2≤n
abbrev byteOf (l:List Int) (k:Nat):Int:=nth kE l k
def cc (r:List Int×Int) (n:Int):Prop:=EY r 1000000∧n≤1000000
def dH (r:List Int×Int) (n:Int) (z:Int×Int):Prop:=(z.1=0∨(0≤z.1∧z.1 < n))∧z.2=r.2+1
def KQ (r:List Int×Int) (n:Int) (z:Int×Int):AV:=.s (.int z.1)
def ON (r:List Int×Int) (n:Int) (z:Int×Int):List AV:=[.a [.vw kE r.1, .int z.2]]
def aX:Con where
 A:=[.b 0, .s .int]
 B:=[.a [.vw kE, .int]]
 pre:=fun x b=>cc b (x.2)
 α:=fun _ _=>Int×Int
 φ:=fun x b z=>dH b (x.2) z
 r:=fun x b z=>KQ b (x.2) z
 o:=fun x b z=>ON b (x.2) z
 nf:=0
set_option maxRecDepth 100000 in
theorem c7:Has Tryz.prog 16 aX:=by
 refine Has.ofE (fun _=>true) (fun _=>false) (fun _=>false) (l:=[]) trivial (fn:=Tryz.f16) Tryz.func16 rfl (by decide) (cH rfl) ?_
 rintro ⟨_,(n:Int)⟩ ⟨(rb:List Int),(rp:Int)⟩ (hp:cc (rb,rp) n)
 show vc _ _ _ _ (entry [.s (.bp 0 0), .int n] [.a [.vw kE rb, .int rp]]) _
 obtain ⟨hr,(hn:n≤1000000)⟩:=hp
 have hp0:0≤rp:=hr.p0
 have hp1:rp≤1000000:=hr.p1
 have hnb:∀k,0≤byteOf rb k∧byteOf rb k≤255:=fun k=>by
  by_cases hk:k < rb.length
  ·exact hr.iV _ (bS (ek:=kE) hk)
  ·show 0≤nth kE rb k∧nth kE rb k≤255;unfold nth;rw [List.getElem?_eq_none (by omega)];exact ⟨Int.le_refl _,by decide⟩
 have hlp:decide ((rb.length:Int)=0)=false→0 < (rb.length:Int):=fun h=>by have:=ca h;omega
 have hnp:decide (n < 1)=false→0 < n:=fun h=>by have:=ca h;omega
 have hnc:∀k,(0:Int)≤nth kE rb k∧(nth kE rb k:Int)≤(255:Int):=hnb
 have c1:=hnc (rp+1 - 1).toNat
 have c2:=hnc ((rp+1 - 1) % (rb.length:Int)).toNat
 have c3:=hnc (((rp+1 - 1) * 7+3) % (rb.length:Int)).toNat
 have a1:=hnb (rp+1 - 1).toNat
 have a2:=hnb ((rp+1 - 1) % (rb.length:Int)).toNat
 have a3:=hnb (((rp+1 - 1) * 7+3) % (rb.length:Int)).toNat
 have hl2:rb.length≤2000:=hr.len
 have a4:decide ((rb.length:Int)=0)=false→0≤(rp+1 - 1) / (rb.length:Int)∧(rp+1 - 1) / (rb.length:Int)≤rp+1 - 1:=fun h=>⟨Int.ediv_nonneg (by omega) (Int.le_of_lt (hlp h)),Int.ediv_le_self _ (by omega)⟩
 refine ⟨⟨?_,?_⟩,tv,fun w1=>?_,fun w2=>⟨fun w3=>?_,fun w4=>⟨⟨?_,?_⟩,fun w5=>⟨⟨?_,?_⟩,⟨?_,?_⟩,⟨?_,?_⟩,?_⟩,fun w6=>⟨[.s 0],[.s 47],rfl,[.s 47],[.s 48],rfl,[.s 48],[.s 49],rfl,[.s 49, .b 0],[.s 50],rfl,[.s 5],[.s 51],rfl,[.s 0],[.s 52],rfl,[.s 52],[.s 53],rfl,[.s 53],[.s 54],rfl,[.s 54, .b 0],[.s 55],rfl,[.s 55],[.s 56],rfl,[.s 51, .s 56],[.s 57],rfl,⟨?_,?_⟩,[.s 50, .s 57],[.s 58],rfl,⟨?_,?_⟩,[.s 58],[.s 59],rfl,[.s 59],[.s 60],rfl,⟨?_,?_⟩,[.s 60],[.s 61],rfl,⟨?_,?_⟩,[.s 0],[.s 62],rfl,[.s 62],[.s 63],rfl,[.s 63],[.s 64],rfl,[.s 64, .b 0],[.s 65],rfl,[.s 5],[.s 66],rfl,[.s 66],[.s 67],rfl,⟨?_,?_⟩,[.s 67],[.s 68],rfl,⟨?_,?_⟩,[.s 0],[.s 69],rfl,[.s 69],[.s 70],rfl,[.s 70],[.s 71],rfl,[.s 71, .b 0],[.s 72],rfl,[.s 72],[.s 73],rfl,[.s 68, .s 73],[.s 74],rfl,⟨?_,?_⟩,[.s 65, .s 74],[.s 75],rfl,⟨?_,?_⟩,[.s 75],[.s 76],rfl,[.s 76],[.s 77],rfl,⟨?_,?_⟩,[.s 77],[.s 78],rfl,⟨?_,?_⟩,[.s 61, .s 78],[.s 79],rfl,⟨?_,?_⟩,[.s 5],[.s 80],rfl,[.s 80],[.s 81],rfl,⟨?_,?_⟩,[.s 79, .s 81],[.s 82],rfl,⟨?_,?_⟩,[.s 5],[.s 83],rfl,[.s 0],[.s 84],rfl,[.s 84],[.s 85],rfl,[.s 85],[.s 86],rfl,[.s 86, .b 0],[.s 87],rfl,[.s 87],[.s 88],rfl,[.s 83, .s 88],[.s 89],rfl,⟨?_,?_,?_⟩,[.s 89],[.s 90],rfl,⟨?_,?_⟩,[.s 82, .s 90],[.s 91],rfl,⟨?_,?_⟩,[.s 91],[.s 6],rfl,⟨?_,?_,?_⟩,⟨?_,?_,?_,?_⟩,⟨?_,?_⟩,?_⟩⟩⟩⟩
 all_goals first|refine au ?_|refine aw ?_|exact sa|exact sb|exact Int.emod_nonneg _ (Int.ne_of_gt (hlp w4))|exact Int.emod_lt_of_pos _ (hlp w4)|(simp only [gD,imax];omega)|(simp only [gD,imax];have:=a4 w4;omega)|exact a1.1|exact cw w5|exact Int.le_trans a1.2 (by decide)|exact Int.le_trans a2.2 (by decide)|exact Int.le_trans a3.2 (by decide)|(show byteOf rb ((rp+1 - 1) % (rb.length:Int)).toNat * 131≤imax;unfold imax;omega)|(show byteOf rb (((rp+1 - 1) * 7+3) % (rb.length:Int)).toNat * 1117≤imax;unfold imax;omega)|(show byteOf rb ((rp+1 - 1) % (rb.length:Int)).toNat * 131+byteOf rb (((rp+1 - 1) * 7+3) % (rb.length:Int)).toNat * 1117≤imax;unfold imax;omega)|(have:=a4 w4;show (byteOf rb ((rp+1 - 1) % (rb.length:Int)).toNat * 131+byteOf rb (((rp+1 - 1) * 7+3) % (rb.length:Int)).toNat * 1117+(rp+1 - 1) * 29+(rp+1 - 1) / (rb.length:Int) * 53) / 64≤imax;unfold imax;omega)|skip
 ·refine ⟨[],[],_,_,_,rfl,rr,(0,rp+1),⟨.inl rfl,rfl⟩,rfl,rfl,rfl⟩
 ·refine ⟨[],[],_,_,_,rfl,rr,(0,rp+1),⟨.inl rfl,rfl⟩,rfl,rfl,rfl⟩
 ·refine ⟨[],[],_,_,_,rfl,rr,(byteOf rb (rp+1 - 1).toNat % n,rp+1),⟨.inr ⟨Int.emod_nonneg _ (Int.ne_of_gt (hnp w2)),Int.emod_lt_of_pos _ (hnp w2)⟩,rfl⟩,rfl,rfl,rfl⟩
 all_goals first
  |(have:=a4 w4;have h:(byteOf rb ((rp+1 - 1) % (rb.length:Int)).toNat * 131+byteOf rb (((rp+1 - 1) * 7+3) % (rb.length:Int)).toNat * 1117+(rp+1 - 1) * 29+(rp+1 - 1) / (rb.length:Int) * 53)≤imax:=by unfold imax;omega
    exact h)
  |(have:=a4 w4;have h:(byteOf rb ((rp+1 - 1) % (rb.length:Int)).toNat * 131+byteOf rb (((rp+1 - 1) * 7+3) % (rb.length:Int)).toNat * 1117+(rp+1 - 1) * 29+(rp+1 - 1) / (rb.length:Int) * 53) / 64≤imax:=by unfold imax;omega
    exact h)
  |(have h:byteOf rb ((rp+1 - 1) % (rb.length:Int)).toNat * 131+byteOf rb (((rp+1 - 1) * 7+3) % (rb.length:Int)).toNat * 1117+(rp+1 - 1) * 29≤imax:=by unfold imax;omega
    exact h)
  |skip
 ·have hx:=hnp w2
  refine ⟨[],[],_,_,_,rfl,GL.rp,(_,rp+1),⟨.inr ⟨?_,?_⟩,rfl⟩,rfl,rfl,rfl⟩
  ·exact Int.emod_nonneg _ (Int.ne_of_gt hx)
  ·exact Int.emod_lt_of_pos _ hx
def gW (r:List Int×Int) (n:Int):Prop:=EY r 990000∧0≤n∧n≤100
def eZ (r:List Int×Int) (n:Int) (z:ByteArray×Int):Prop:=(z.1.size:Int)≤n∧r.2≤z.2∧z.2≤r.2+1000
def Q7 (r:List Int×Int) (n:Int) (z:ByteArray×Int):AV:=.s (.str z.1)
def V8 (r:List Int×Int) (n:Int) (z:ByteArray×Int):List AV:=[.a [.vw kE r.1, .int z.2]]
def cN:Con where
 A:=[.b 0, .s .int]
 B:=[.a [.vw kE, .int]]
 pre:=fun x b=>gW b (x.2)
 α:=fun _ _=>ByteArray×Int
 φ:=fun x b z=>eZ b (x.2) z
 r:=fun x b z=>Q7 b (x.2) z
 o:=fun x b z=>V8 b (x.2) z
 nf:=0
set_option maxRecDepth 100000 in
theorem oY:Has Tryz.prog 19 cN:=by
 refine Has.ofE (fun d=> !(Nat.beq d 40)) (fun _=>false) (fun _=>false) (l:=[(16,aX)]) ⟨c7,trivial⟩ (fn:=Tryz.f19) Tryz.func19 rfl (by decide) (cH rfl) ?_
 rintro ⟨_,(n:Int)⟩ ⟨(rb:List Int),(rp:Int)⟩ (hp:gW (rb,rp) n)
 show vc _ _ _ _ (entry [.s (.bp 0 0), .int n] [.a [.vw kE rb, .int rp]]) _
 obtain ⟨hr,(hn0:0≤n),(hn1:n≤100)⟩:=hp
 have hp0:0≤rp:=hr.p0
 have hp1:rp≤990000:=hr.p1
 have dA:∀p:Int,0≤p→p≤1000000→EY (rb,p) 1000000:=fun p h0 h1=>⟨hr.len,hr.iV,h0,h1⟩
 refine ⟨tv,⟨?_,?_⟩,⟨⟨tv,tv,tv⟩,?_,?_⟩,fun x1 w2=>⟨⟨⟨tv,tv,tv⟩,?_,?_⟩,fun x3 w4=>?_⟩⟩
 all_goals first|refine au ?_|refine aw ?_|exact sa|(dsimp only [aX,cc];omega)|exact sb|skip
 ·exact dA rp hp0 (by omega)
 ·have e1:x1.2=rp+1:=w2.2
  exact dA x1.2 (by omega) (by omega)
 ·obtain ⟨mv,p1⟩:=x1
  obtain ⟨kv,p2⟩:=x3
  have e1:p1=rp+1:=w2.2
  have e2:p2=p1+1:=w4.2
  have hm:mv=0∨(0≤mv∧mv < n+1):=w2.1
  refine cI (l:=[(16,aX)]) (ex:=fun d=> !(Nat.beq d 40)) (wr:=fun _=>false) (pt:=fun _=>false) ⟨c7,trivial⟩ [.s 0, .s 1, .s 6, .s 7] (fun y:List Int×Int=>[(.s 5, .s (.xs 1010 1 0 y.1.length)),(.b 1010, .rs kE y.1),(.b 0, .a [.vw kE rb, .int y.2])]) (fun y=>y.1.length≤mv.toNat∧rp≤y.2∧y.2≤rp+2+3 * (y.1.length:Int)) (fun y=>mv.toNat - y.1.length) ([],p2) [] ⟨Nat.zero_le _,by show rp≤p2;omega,by show p2≤rp+2+3 * ((0:Nat):Int);omega⟩ ru ?_
  rintro ⟨out,p⟩ ⟨(ho:out.length≤mv.toNat),(hq0:rp≤p),(hq1:p≤rp+2+3 * (out.length:Int))⟩
  refine ⟨fun w1=>⟨fun w2=>⟨⟨⟨tv,tv,tv⟩,?_,?_⟩,fun x3 w4=>⟨⟨?_,?_⟩,tv,⟨⟨?_,?_⟩,?_,?_⟩,?_⟩⟩,fun w5=>⟨fun w6=>⟨⟨tv,⟨?_,?_⟩,⟨?_,?_⟩,⟨?_,?_⟩,⟨?_,?_⟩,⟨?_,?_⟩,⟨?_,?_⟩,⟨?_,?_⟩,tv⟩,?_,⟨⟨tv,tv,tv⟩,?_,?_⟩,fun x7 w8=>⟨⟨?_,?_⟩,tv,fun x9 df=>⟨tv,⟨⟨?_,?_⟩,?_,?_⟩,?_⟩⟩⟩,fun ka=>⟨fun dC=>⟨⟨⟨tv,tv,tv⟩,?_,?_⟩,fun rP gx=>⟨⟨?_,?_⟩,⟨?_,?_⟩,⟨⟨tv,tv,tv⟩,?_,?_⟩,fun ku j9=>?_⟩⟩,fun wu=>⟨⟨⟨tv,tv,tv⟩,?_,?_⟩,fun qy ot=>⟨⟨?_,?_⟩,⟨?_,?_⟩,tv,⟨⟨?_,?_⟩,?_,?_⟩,?_⟩⟩⟩⟩⟩,fun um=>⟨⟨?_,?_⟩,?_⟩⟩
  all_goals first|refine au ?_|refine aw ?_|exact sa|(dsimp only [aX,cc];omega)|exact sb|exact dA p (by omega) (by omega)|decide|skip
  ·have h:x3.1=0∨(0≤x3.1∧x3.1 < 256):=w4.1
   show 0≤x3.1;omega
  ·have h:x3.1=0∨(0≤x3.1∧x3.1 < 256):=w4.1
   show x3.1≤255;omega
  ·have hl:=cw (p:=(out.length:Int) < mv) w1
   have e3:x3.2=p+1:=w4.2
   have hlen:(out++[x3.1]).length=out.length+1:=by rw [List.length_append];rfl
   refine ⟨(out++[x3.1],x3.2),[(1010,1036)],?_,?_,?_⟩
   rotate_right
   ·exact rq
   ·exact ⟨by show (out++[x3.1]).length≤mv.toNat;omega,by show rp≤x3.2;omega,by show x3.2≤rp+2+3 * ((out++[x3.1]).length:Int);omega⟩
   ·show mv.toNat - (out++[x3.1]).length < mv.toNat - out.length;omega
  ·have h:x7.1=0∨(0≤x7.1∧x7.1 < 7):=w8.1
   show 0≤x7.1;omega
  ·have h:x7.1=0∨(0≤x7.1∧x7.1 < 7):=w8.1
   show x7.1 < 7;omega
  ·have hl:=cw (p:=(out.length:Int) < mv) w1
   have e3:x7.2=p+1:=w8.2
   have hlen:(out++[x9]).length=out.length+1:=by rw [List.length_append];rfl
   refine ⟨(out++[x9],x7.2),[(1010,1047)],?_,?_,?_⟩
   rotate_right
   ·exact rq
   ·exact ⟨by show (out++[x9]).length≤mv.toNat;omega,by show rp≤x7.2;omega,by show x7.2≤rp+2+3 * ((out++[x9]).length:Int);omega⟩
   ·show mv.toNat - (out++[x9]).length < mv.toNat - out.length;omega
  ·have h:rP.1=0∨(0≤rP.1∧rP.1 < 3):=gx.1
   show gD≤97+rP.1;unfold gD;omega
  ·have h:rP.1=0∨(0≤rP.1∧rP.1 < 3):=gx.1
   show 97+rP.1≤imax;unfold imax;omega
  ·have h:rP.1=0∨(0≤rP.1∧rP.1 < 3):=gx.1
   show 0≤97+rP.1;omega
  ·have h:rP.1=0∨(0≤rP.1∧rP.1 < 3):=gx.1
   show 97+rP.1≤255;omega
  ·have e3:rP.2=p+1:=gx.2
   exact dA rP.2 (by omega) (by omega)
  ·have hl:=cw (p:=(out.length:Int) < mv) w1
   have e3:rP.2=p+1:=gx.2
   have e4:ku.2=rP.2+1:=j9.2
   have h5:ku.1=0∨(0≤ku.1∧ku.1 < 6):=j9.1
   refine cI (l:=[(16,aX)]) (ex:=fun d=> !(Nat.beq d 40)) (wr:=fun _=>false) (pt:=fun _=>false) ⟨c7,trivial⟩ [.s 0, .s 1, .s 6, .s 7, .s 8, .b 0] (fun y:List Int×Int=>[(.s 5, .s (.xs 1010 1 0 y.1.length)),(.s 9, .int y.2),(.b 1010, .rs kE y.1)]) (fun y=>y.1.length≤mv.toNat∧(out.length+1≤y.1.length∨(y.1.length=out.length∧0≤y.2))∧-1≤y.2∧y.2≤6) (fun y=>(y.2+1).toNat) (out,ku.1) [] ⟨ho, .inr ⟨rfl,by show 0≤ku.1;omega⟩,by show -1≤ku.1;omega,by show ku.1≤6;omega⟩ ru ?_
   rintro ⟨o2,k⟩ ⟨(g1:o2.length≤mv.toNat),(g2:out.length+1≤o2.length∨(o2.length=out.length∧0≤k)),(g3: -1≤k),(g4:k≤6)⟩
   have hlen:∀z:Int,(o2++[z]).length=o2.length+1:=fun z=>by rw [List.length_append];rfl
   refine ⟨tv,fun w1=>⟨fun w2=>⟨tv,⟨⟨?_,?_⟩,?_,?_⟩,⟨?_,?_⟩,?_⟩,fun w3=>?_⟩,fun w4=>?_⟩
   all_goals first|refine au ?_|refine aw ?_|exact sa|(dsimp only [aX,cc];omega)|exact sb|skip
   ·have hm2:=cw (p:=(o2.length:Int) < mv) w2
    have hk2:=cw (p:=k≥0) w1
    have hle:=hlen (97+rP.1)
    refine ⟨(o2++[97+rP.1],k - 1),[(1010,1069)],?_,?_,?_⟩
    rotate_right
    ·exact rq
    ·exact ⟨by show (o2++[97+rP.1]).length≤mv.toNat;omega, .inl (by show out.length+1≤(o2++[97+rP.1]).length;omega),by show -1≤k - 1;omega,by show k - 1≤6;omega⟩
    ·show (k - 1+1).toNat < (k+1).toNat;omega
   ·have hm2:=ca (p:=(o2.length:Int) < mv) w3
    have hg:out.length+1≤o2.length:=by omega
    refine ⟨(o2,ku.2),[],?_,?_,?_⟩
    rotate_right
    ·exact rq
    ·exact ⟨by show (o2).length≤mv.toNat;omega,by show rp≤ku.2;omega,by show ku.2≤rp+2+3 * ((o2).length:Int);omega⟩
    ·show mv.toNat - (o2).length < mv.toNat - out.length;omega
   ·have hk2:=ca (p:=k≥0) w4
    have hg:out.length+1≤o2.length:=by omega
    refine ⟨(o2,ku.2),[],?_,?_,?_⟩
    rotate_right
    ·exact rq
    ·exact ⟨by show (o2).length≤mv.toNat;omega,by show rp≤ku.2;omega,by show ku.2≤rp+2+3 * ((o2).length:Int);omega⟩
    ·show mv.toNat - (o2).length < mv.toNat - out.length;omega
  ·have h:qy.1=0∨(0≤qy.1∧qy.1 < 2):=ot.1
   show gD≤qy.1 * 97;unfold gD;omega
  ·have h:qy.1=0∨(0≤qy.1∧qy.1 < 2):=ot.1
   show qy.1 * 97≤imax;unfold imax;omega
  ·have h:qy.1=0∨(0≤qy.1∧qy.1 < 2):=ot.1
   show 0≤qy.1 * 97;omega
  ·have h:qy.1=0∨(0≤qy.1∧qy.1 < 2):=ot.1
   show qy.1 * 97≤255;omega
  ·have hl:=cw (p:=(out.length:Int) < mv) w1
   have e3:qy.2=p+1:=ot.2
   have hlen:(out++[qy.1 * 97]).length=out.length+1:=by rw [List.length_append];rfl
   refine ⟨(out++[qy.1 * 97],qy.2),[(1010,1028)],?_,?_,?_⟩
   rotate_right
   ·exact rq
   ·exact ⟨by show (out++[qy.1 * 97]).length≤mv.toNat;omega,by show rp≤qy.2;omega,by show qy.2≤rp+2+3 * ((out++[qy.1 * 97]).length:Int);omega⟩
   ·show mv.toNat - (out++[qy.1 * 97]).length < mv.toNat - out.length;omega
  ·have hl:=ca (p:=(out.length:Int) < mv) (by assumption)
   have hs:(ft out).size=out.length:=by rw [ft,nC];simp
   refine ⟨[],[],_,_,_,rfl,rr,(ft out,p),⟨by show ((ft out).size:Int)≤n;omega,hq0,by show p≤rp+1000;omega⟩,rfl,rfl,rfl⟩
end GL
end Go.Proofs.YtbfgjadbfjkcdaaGreatDoor
