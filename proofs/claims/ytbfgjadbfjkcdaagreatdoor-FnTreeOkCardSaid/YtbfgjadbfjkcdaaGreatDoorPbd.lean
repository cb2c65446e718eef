/- FnTreeOk returns true for every code (its row lists package variables, tied by the card): part 30 of 39. -/
import Derived.Test.YtbfgjadbfjkcdaaGreatDoorPau
import Derived.Test.YtbfgjadbfjkcdaaGreatDoorPaw
import Derived.Test.YtbfgjadbfjkcdaaGreatDoorPaz
import Derived.Test.YtbfgjadbfjkcdaaGreatDoorPba
import Derived.Test.YtbfgjadbfjkcdaaGreatDoorPbc
set_option maxHeartbeats 20000000
set_option linter.all false
namespace Go.Proofs.YtbfgjadbfjkcdaaGreatDoor
namespace GL
section
variable {n l:Int} {k:Nat}
theorem aiM (h:(!(ir n 0 900))=true):KP n l k=false:=decide_eq_false (by rw [Bool.not_eq_true',IV] at h;omega)
theorem aiL (h:(!(ir l n 900))=true):KP n l k=false:=decide_eq_false (by rw [Bool.not_eq_true',IV] at h;omega)
theorem agN (h:decide (n > 0)=true) (h2:decide ((k:Int) < 8)=true):KP n l k=false:=decide_eq_false (by have:=cw h;have:=cw h2;omega)
theorem acK (h:(!(ir n 0 900))=false) (h2:(!(ir l n 900))=false) (h3:decide (n=0)=false∨decide (l≠0)=false) (h4:decide (n > 0)=false∨decide ((k:Int) < 8)=false):KP n l k=true:=decide_eq_true (by
 have a1:=cn.1 (cB h);have a2:=cn.1 (cB h2)
 refine ⟨by omega,?_,?_⟩
 ·rcases h3 with h3 |h3
  ·have:=ca h3;omega
  ·have:=ca h3;omega
 ·rcases h4 with h4 |h4
  ·have:=ca h4;omega
  ·have:=ca h4;omega)
end
def lO (sp:List Int×List Int):Prop:=True
def cC (sp:List Int×List Int):AV:=.s (.q (ry sp))
def SC (sp:List Int×List Int):List AV:=[]
def kR:Con where
 A:=[.a [.vz ae, .vz ae]]
 B:=[]
 pre:=fun x b=>lO x
 α:=fun _ _=>Unit
 φ:=fun _ _ _=>True
 r:=fun x b _=>cC x
 o:=fun x b _=>SC x
 nf:=0
set_option maxRecDepth 100000 in
theorem yM:Has Tryz.prog 30 kR:=by
 refine Has.ofEI (fun _=>true) (fun _=>false) (fun _=>false) (l:=[(31,cu)]) ⟨ga,trivial⟩ (fn:=Tryz.f30) Tryz.func30 rfl (by decide) (cH rfl) ?_
 rintro ⟨(dv:List Int),(eD:List Int)⟩ _ (hp:lO (dv,eD))
 show vc _ _ _ _ (entry [.a [.vz ae dv, .vz ae eD]] []) _
 refine ⟨tv,fun w1=>?_,fun w2=>⟨fun w3=>?_,fun w4=>?_⟩⟩
 all_goals first|refine au ?_|refine aw ?_|exact sa|(dsimp only [cu,di];omega)|exact sb|skip
 ·refine ⟨[],[],_,_,_,rfl,rp,(),tv,?_,?_,rfl⟩
  ·(show _=cC (dv,eD));unfold cC;first |(rw [N3 (p:=(dv,eD)) w1];rfl) |rfl
  ·rfl
 ·refine ⟨[],[],_,_,_,rfl,rp,(),tv,?_,?_,rfl⟩
  ·(show _=cC (dv,eD));unfold cC;first |(rw [N2 (p:=(dv,eD)) w3];rfl) |rfl
  ·rfl
 ·have l1:dv.length=64:=by have:=ca w2;omega
  have l2:eD.length=64:=by have:=ca w4;omega
  have hE:=U9 (p:=(dv,eD)) w2 w4
  refine lW (l:=[(31,cu)]) (ex:=fun _=>true) (wr:=fun _=>false) (pt:=fun _=>false) ⟨ga,trivial⟩ [.s 1, .b 1001, .s 17, .s 18] (fun i:Nat=>[(.s 19, .int i)]) (fun i=>i≤64∧∀j,j < i→xx dv eD j=true) (fun i=>64 - i) 0 [] ⟨Nat.zero_le _,fun j hj=>absurd hj (by omega)⟩ ru ?_
  rintro i ⟨(hi:i≤64),hj⟩
  have cg:decide ((i:Int) < (dv.length:Int))=true→i < 64:=fun h=>by have:=cw h;omega
  have bM:∀l:List Int,l.length=64→decide ((i:Int) < (dv.length:Int))=true→(i:Int) < (l.length:Int):=fun l hl h=>by rw [hl,←l1];exact cw h
  have iu:i < 64→xx dv eD i=false→ry (dv,eD)=false:=fun h h2=>by rw [hE];exact UG h h2
  have hgo:xx dv eD i=true→∀j,j < i+1→xx dv eD j=true:=fun h j yR=>by
   by_cases e:j=i
   ·rw [e];exact h
   ·exact hj j (by omega)
  refine ⟨fun w1=>⟨⟨?_,?_⟩,⟨?_,?_⟩,⟨⟨tv,tv,tv,tv⟩,tv⟩,fun x2 w3=>⟨tv,fun w4=>?_,fun w5=>⟨⟨⟨tv,tv,tv,tv⟩,tv⟩,fun x6 w7=>⟨tv,fun w8=>?_,fun w9=>⟨tv,fun df=>⟨tv,fun ka=>?_,fun dC=>⟨tv,fun iA=>⟨fun gx=>?_,fun oU=>⟨⟨?_,?_⟩,?_⟩⟩,fun j9=>⟨⟨?_,?_⟩,?_⟩⟩⟩,fun wu=>⟨tv,fun qI=>⟨fun ot=>?_,fun um=>⟨⟨?_,?_⟩,?_⟩⟩,fun zg=>⟨⟨?_,?_⟩,?_⟩⟩⟩⟩⟩⟩⟩,fun zf=>?_⟩
  all_goals first|refine au ?_|refine aw ?_|exact sa|(dsimp only [cu,di];omega)|exact sb|exact bM _ l1 w1|exact bM _ l2 w1|skip
  ·refine ⟨[],[],_,_,_,rfl,rp,(),tv,?_,?_,rfl⟩
   ·(show _=cC (dv,eD));unfold cC;first |(rw [iu (cg w1) (aiM w4)];rfl) |rfl
   ·rfl
  ·refine ⟨[],[],_,_,_,rfl,rp,(),tv,?_,?_,rfl⟩
   ·(show _=cC (dv,eD));unfold cC;first |(rw [iu (cg w1) (aiL w8)];rfl) |rfl
   ·rfl
  ·refine ⟨[],[],_,_,_,rfl,rp,(),tv,?_,?_,rfl⟩
   ·(show _=cC (dv,eD));unfold cC;first |(rw [iu (cg w1) (agP df ka)];rfl) |rfl
   ·rfl
  ·refine ⟨[],[],_,_,_,rfl,rp,(),tv,?_,?_,rfl⟩
   ·(show _=cC (dv,eD));unfold cC;first |(rw [iu (cg w1) (agN iA gx)];rfl) |rfl
   ·rfl
  ·refine ⟨(i+1),[],?_,?_,?_⟩
   rotate_right
   ·exact rq
   ·exact ⟨cg w1,hgo (acK w5 w9 (.inr dC) (.inl j9))⟩
   ·show 64 - (i+1) < 64 - i;have:=cg w1;omega
  ·refine ⟨[],[],_,_,_,rfl,rp,(),tv,?_,?_,rfl⟩
   ·(show _=cC (dv,eD));unfold cC;first |(rw [iu (cg w1) (agN qI ot)];rfl) |rfl
   ·rfl
  ·refine ⟨(i+1),[],?_,?_,?_⟩
   rotate_right
   ·exact rq
   ·exact ⟨cg w1,hgo (acK w5 w9 (.inl wu) (.inr um))⟩
   ·show 64 - (i+1) < 64 - i;have:=cg w1;omega
  ·refine ⟨(i+1),[],?_,?_,?_⟩
   rotate_right
   ·exact rq
   ·exact ⟨cg w1,hgo (acK w5 w9 (.inl wu) (.inl zg))⟩
   ·show 64 - (i+1) < 64 - i;have:=cg w1;omega
  ·have e:ry (dv,eD)=true:=by rw [hE];exact M8 fun j yR=>hj j (by have:=ca zf;omega)
   refine ⟨[],[],_,_,_,rfl,rp,(),tv,?_,?_,rfl⟩
   ·(show _=cC (dv,eD));unfold cC;first |(rw [e];rfl) |rfl
   ·rfl
end GL
namespace GL
def vj (l:List Int):Prop:=0 < l.length∧l.length≤1000000
def acZ (l:List Int) (z:Int):Prop:=(∀j,j < l.length→nth ae l j≤z)∧∃j,j < l.length∧nth ae l j=z
def GU (l:List Int) (z:Int):AV:=.int z
def OP (l:List Int) (z:Int):List AV:=[]
def y7:Con where
 A:=[.s (.vz ae)]
 B:=[]
 pre:=fun x b=>vj x
 α:=fun _ _=>Int
 φ:=fun x b z=>acZ x z
 r:=fun x b z=>GU x z
 o:=fun x b z=>OP x z
 nf:=0
set_option maxRecDepth 100000 in
theorem XH:Has Tryz.prog 32 y7:=by
 refine Has.ofZI (fun _=>true) (fun _=>false) (fun _=>false) (l:=[]) trivial (fn:=Tryz.f32) Tryz.func32 rfl (by decide) (cH rfl) ?_
 rintro (l:List Int) _ (hp:vj l)
 show vc _ _ _ _ (entry [.s (.vz ae l)] []) _
 obtain ⟨(h0:0 < l.length),(h1:l.length≤1000000)⟩:=hp
 refine ⟨fun w1=>?_,fun w2=>⟨⟨?_,?_⟩,?_⟩⟩
 all_goals first|(exfalso;simp only [decide_eq_true_eq,decide_eq_false_iff_not] at *;omega)|refine au ?_|refine aw ?_|exact sa|exact sb|skip
 refine lW (l:=[]) (ex:=fun _=>true) (wr:=fun _=>false) (pt:=fun _=>false) trivial [.s 0] (fun y:Nat×Int=>[(.s 3, .int y.2),(.s 4, .int ((y.1+1:Nat):Int))]) (fun y=>y.1+1≤l.length∧(∀j,j < y.1+1→nth ae l j≤y.2)∧∃j,j < y.1+1∧nth ae l j=y.2) (fun y=>l.length - y.1) (0,nth ae l 0) [] ⟨h0,fun j hj=>by rw [show j=0 by omega];exact Int.le_refl _,0,by omega,rfl⟩ ru ?_
 rintro ⟨i,m⟩ ⟨(hi:i+1≤l.length),hj,hx⟩
 refine ⟨fun w1=>⟨⟨?_,?_⟩,⟨⟨?_,?_⟩,?_⟩⟩,fun w2=>?_⟩
 all_goals first|refine au ?_|refine aw ?_|exact sa|exact sb|skip
 ·have bM:i+1 < l.length:=by have:=cw w1;simp only [] at this;omega
  refine ⟨(i+1,max m (nth ae l (i+1))),[],?_,?_,?_⟩
  rotate_right
  ·exact rq
  ·refine ⟨bM,fun j yR=>?_,?_⟩
   ·by_cases e:j=i+1
    ·rw [e];exact Int.le_max_right _ _
    ·exact Int.le_trans (hj j (by omega)) (Int.le_max_left _ _)
   ·obtain ⟨j,h2,h3⟩:=hx
    by_cases e:nth ae l (i+1)≤m
    ·exact ⟨j,by omega,by rw [h3];exact (Int.max_eq_left e).symm⟩
    ·exact ⟨i+1,by omega,(Int.max_eq_right (by have:=Int.not_le.1 e;exact Int.le_of_lt this)).symm⟩
  ·show l.length - (i+1) < l.length - i;omega
 ·have FJ:¬(i+1 < l.length):=by have:=ca w2;simp only [] at this;omega
  obtain ⟨j,h2,h3⟩:=hx
  refine ⟨[],[],_,_,_,rfl,rp,m,0,(⟨fun j yR=>hj j (by omega),j,by omega,h3⟩),?_,?_,rfl⟩
  ·(show _=GU l m);unfold GU;first |(rw [rfl];rfl) |rfl
  ·(show _=OP l m);unfold OP;first |(rw [rfl];rfl) |rfl
def fa (s:ax) (ik:Int) (p:Pt):Bool:=aV p&&(!(ar p)&&(!(decide (p.2.1 > ik))&& !(decide (nth ae s.refs p.1.toNat=(0:Int)))))
section
variable {s:ax} {ik:Int} {p:Pt}
theorem ahA (h:(!(aV p))=true):fa s ik p=false:=by unfold fa;rw [qV h];rfl
theorem ahz (h:ar p=true):fa s ik p=false:=by unfold fa;rw [h];cases aV p<;>rfl
theorem ahy (h:decide (p.2.1 > ik)=true):fa s ik p=false:=by unfold fa;rw [h];cases aV p<;>cases ar p<;>rfl
theorem ahx (h:decide (nth ae s.refs p.1.toNat=(0:Int))=true):fa s ik p=false:=by unfold fa;rw [h];cases aV p<;>cases ar p<;>cases decide (p.2.1 > ik)<;>rfl
theorem ahu (h:(!(aV p))=false) (h2:ar p=false) (h3:decide (p.2.1 > ik)=false) (h4:decide (nth ae s.refs p.1.toNat=(0:Int))=false):fa s ik p=true:=by unfold fa;rw [cB h,h2,h3,h4];rfl
end
theorem NW {l:List Pt} {n:Nat} (h:n < l.length):l.take (n+1)=l.take n++[nth ab l n]:=by
 rw [List.take_succ,oB (ek:=ab) h];rfl
def r8 (l:List Pt) (ik:Int) (S:ax) (o:List Int):Prop:=o.length=64∧S.refs.length=64∧l.length≤1000000∧∀r,(0:Int)≤nth ae o r∧nth ae o r≤(1000000:Int)
def LR (l:List Pt) (ik:Int) (S:ax) (o:List Int) (z:List Int):Prop:=z.length=64∧(∀r,(0:Int)≤nth ae z r∧nth ae z r≤(nth ae o r+(l.length:Int):Int))∧(l.all (fa S ik)=true→∀r,nth ae z r=(nth ae o r+(bj l r:Int):Int))
def gM (l:List Pt) (ik:Int) (S:ax) (o:List Int) (z:List Int):AV:=.q (l.all (fa S ik))
def jk (l:List Pt) (ik:Int) (S:ax) (o:List Int) (z:List Int):List AV:=[.a [.xs 1 1 0 o.length], .rs ae z]
def ud:Con where
 A:=[.s (.vz ab), .s .int, .vs xw, .b 0]
 B:=[.a [.xb 1 ae], .r ae]
 pre:=fun x b=>U0 (b.1) (b.2)∧r8 (x.1) (x.2.1) (x.2.2.1) (b.2)
 α:=fun _ _=>List Int
 φ:=fun x b z=>LR (x.1) (x.2.1) (x.2.2.1) (b.2) z
 r:=fun x b z=>gM (x.1) (x.2.1) (x.2.2.1) (b.2) z
 o:=fun x b z=>jk (x.1) (x.2.1) (x.2.2.1) (b.2) z
 nf:=0
set_option maxRecDepth 100000 in
theorem PJ:Has Tryz.prog 33 ud:=by
 refine Has.ofZI (fun _=>true) (fun _=>false) (fun _=>false) (l:=[(34,cx),(35,bB)]) ⟨jl,eJ,trivial⟩ (fn:=Tryz.f33) Tryz.func33 rfl (by decide) (cH rfl) ?_
 rintro ⟨(l:List Pt),(ik:Int),⟨(ai:List ByteArray),(aj:List Int),(ak:List Int),(an:Int),(ag:List Pt),(ao:Int),(ah:List Pt),(aq:Bool)⟩,_⟩ ⟨(om:Nat),(o:List Int)⟩ ⟨(akE:om=List.length o),(hp:r8 l ik (ai,aj,ak,an,ag,ao,ah,aq) o)⟩
 subst akE
 show vc _ _ _ _ (entry [.s (.vz ab l), .int ik, .s (.vs [.vz aa ai, .vz ae aj, .vz ae ak, .v (.int .i64 an), .vz ab ag, .v (.int .i64 ao), .vz ab ah, .q aq] 0), .s (.bp 0 0)] [.a [.xs 1 1 0 o.length], .rs ae o]) _
 obtain ⟨(ho:List.length o=64),(hrf:aj.length=64),(hl:l.length≤1000000),hb⟩:=hp
 refine ?_
 all_goals first|refine au ?_|refine aw ?_|exact sa|(dsimp only [cx,cM];omega)|(dsimp only [bB,bV];omega)|exact sb|skip
 refine lW (l:=[(34,cx),(35,bB)]) (ex:=fun _=>true) (wr:=fun _=>false) (pt:=fun _=>false) ⟨jl,eJ,tv⟩ [.s 1, .s 2, .s 3, .s 9, .s 10, .b 0] (fun y:Nat×List Int=>[(.s 11, .int y.1),(.b 1, .rs ae y.2)]) (fun y=>y.1≤l.length∧y.2.length=64∧(∀r,nth ae y.2 r=(nth ae o r+(bj (l.take y.1) r:Int):Int))∧(l.take y.1).all (fa (ai,aj,ak,an,ag,ao,ah,aq) ik)=true) (fun y=>l.length - y.1) (0,o) [] ⟨Nat.zero_le _,ho,fun r=>(Int.add_zero _).symm,rfl⟩ ru ?_
 rintro ⟨i,z⟩ ⟨(hi:i≤l.length),(hz:z.length=64),(hc:∀r,nth ae z r=(nth ae o r+(bj (l.take i) r:Int):Int)),(ha:(l.take i).all (fa (ai,aj,ak,an,ag,ao,ah,aq) ik)=true)⟩
 have cg:decide ((i:Int) < (l.length:Int))=true→i < l.length:=fun h=>by have:=cw h;omega
 have hq:(!(aV (nth ab l i)))=false→0≤(nth ab l i).1∧(nth ab l i).1 < 64:=fun h=>nT (cB h)
 have hci:∀r,bj (l.take i) r≤i:=fun r=>Nat.le_trans List.countP_le_length (by rw [List.length_take];omega)
 have hzb:∀r,(0:Int)≤nth ae z r∧nth ae z r≤(nth ae o r+(l.length:Int):Int)∧nth ae z r≤(2000000:Int):=fun r=>by
  have h1:=hb r;have h2:=hci r
  rw [hc r]
  refine ⟨?_,?_,?_⟩
  ·show (0:Int)≤nth ae o r+(bj (l.take i) r:Int);have h3:(0:Int)≤nth ae o r:=h1.1;omega
  ·exact Int.add_le_add_left (by omega:((bj (l.take i) r:Nat):Int)≤(l.length:Int)) _
  ·exact Int.le_trans (Int.add_le_add h1.2 (by omega:((bj (l.take i) r:Nat):Int)≤1000000)) (by decide)
 have iu:i < l.length→fa (ai,aj,ak,an,ag,ao,ah,aq) ik (nth ab l i)=false→l.all (fa (ai,aj,ak,an,ag,ao,ah,aq) ik)=false:=fun h h2=>by
  rw [Bool.eq_false_iff];intro h3
  rw [List.all_eq_true.1 h3 _ (bS (ek:=ab) h)] at h2;cases h2
 have vE:∀b:Bool,l.all (fa (ai,aj,ak,an,ag,ao,ah,aq) ik)=b→b=false→LR l ik (ai,aj,ak,an,ag,ao,ah,aq) o z:=fun b h h2=>⟨hz,fun r=>⟨(hzb r).1,(hzb r).2.1⟩,fun h3=>by rw [h,h2] at h3;cases h3⟩
 refine ⟨fun w1=>⟨⟨?_,?_⟩,⟨⟨⟨tv,tv,tv,tv,tv,tv⟩,tv⟩,tv⟩,fun x2 w3=>⟨tv,fun w4=>?_,fun w5=>⟨⟨⟨⟨tv,tv,tv,tv,tv,tv⟩,tv⟩,tv⟩,fun x6 w7=>⟨tv,fun w8=>?_,fun w9=>⟨tv,fun df=>?_,fun ka=>⟨⟨?_,?_⟩,fun dC=>?_,fun iA=>⟨⟨?_,?_⟩,?_,⟨?_,?_⟩,⟨?_,?_⟩,?_,⟨?_,?_⟩,?_⟩⟩⟩⟩⟩⟩⟩,fun gx=>?_⟩
 all_goals first|refine au ?_|refine aw ?_|exact sa|(dsimp only [cx,cM];omega)|(dsimp only [bB,bV];omega)|exact sb|exact (hq w5).1|(show _ < (aj.length:Int);rw [hrf];exact (hq w5).2)|(show _ < (List.length o:Int);rw [ho];exact (hq w5).2)|(show (nth ab l i).1.toNat < z.length;rw [hz];exact sj (cB w5))|(have h8:=(hzb (nth ab l i).1.toNat).1;show (-9223372036854775808:Int)≤nth ae z (nth ab l i).1.toNat+1;have h9:(0:Int)≤nth ae z (nth ab l i).1.toNat:=h8;omega)|exact Int.le_trans (Int.add_le_add_right (hzb (nth ab l i).1.toNat).2.2 1) (by decide)|skip
 ·have e:=iu (cg w1) (ahA w4)
  refine ⟨[],[],_,_,_,rfl,rp,z,0,(vE _ e rfl),?_,?_,rfl⟩
  ·(show _=gM l ik (ai,aj,ak,an,ag,ao,ah,aq) o z);unfold gM;first |(rw [e];rfl) |rfl
  ·(show _=jk l ik (ai,aj,ak,an,ag,ao,ah,aq) o z);unfold jk;first |(rw [e];rfl) |rfl
 ·have e:=iu (cg w1) (ahz w8)
  refine ⟨[],[],_,_,_,rfl,rp,z,0,(vE _ e rfl),?_,?_,rfl⟩
  ·(show _=gM l ik (ai,aj,ak,an,ag,ao,ah,aq) o z);unfold gM;first |(rw [e];rfl) |rfl
  ·(show _=jk l ik (ai,aj,ak,an,ag,ao,ah,aq) o z);unfold jk;first |(rw [e];rfl) |rfl
 ·have e:=iu (cg w1) (ahy df)
  refine ⟨[],[],_,_,_,rfl,rp,z,0,(vE _ e rfl),?_,?_,rfl⟩
  ·(show _=gM l ik (ai,aj,ak,an,ag,ao,ah,aq) o z);unfold gM;first |(rw [e];rfl) |rfl
  ·(show _=jk l ik (ai,aj,ak,an,ag,ao,ah,aq) o z);unfold jk;first |(rw [e];rfl) |rfl
 ·have e:=iu (cg w1) (ahx (s:=(ai,aj,ak,an,ag,ao,ah,aq)) dC)
  refine ⟨[],[],_,_,_,rfl,rp,z,0,(vE _ e rfl),?_,?_,rfl⟩
  ·(show _=gM l ik (ai,aj,ak,an,ag,ao,ah,aq) o z);unfold gM;first |(rw [e];rfl) |rfl
  ·(show _=jk l ik (ai,aj,ak,an,ag,ao,ah,aq) o z);unfold jk;first |(rw [e];rfl) |rfl
 ·have bM:=cg w1
  have hk:(nth ab l i).1.toNat < z.length:=by rw [hz];exact sj (cB w5)
  refine ⟨(i+1,z.set (nth ab l i).1.toNat (nth ae z (nth ab l i).1.toNat+1:Int)),[],?_,?_,?_⟩
  rotate_right
  ·exact rq
  ·refine ⟨bM,by show (List.set _ _ _).length=64;rw [List.length_set,hz],fun r=>?_,?_⟩
   ·show nth ae (List.set z _ _) r=(nth ae o r+(bj (l.take (i+1)) r:Int):Int)
    rw [NW bM,bD]
    by_cases e:(nth ab l i).1.toNat=r
    ·subst e
     rw [nu (ek:=ae) hk,hc,rI (p:=nth ab l i) w9]
     exact Int.add_assoc _ _ _
    ·rw [ij (ek:=ae) e,hc,y3 e];rfl
   ·show (l.take (i+1)).all _=true
    rw [NW bM,List.all_append,ha]
    show (true&&(fa (ai,aj,ak,an,ag,ao,ah,aq) ik (nth ab l i)&&true))=true
    rw [ahu (s:=(ai,aj,ak,an,ag,ao,ah,aq)) (p:=nth ab l i) w5 w9 ka iA];rfl
  ·show l.length - (i+1) < l.length - i;omega
 ·have FJ:i=l.length:=by have:=ca (p:=(i:Int) < (l.length:Int)) gx;omega
  have ht:l.take i=l:=List.take_of_length_le (by omega)
  rw [ht] at ha
  refine ⟨[],[],_,_,_,rfl,rp,z,0,(⟨hz,fun r=>⟨(hzb r).1,(hzb r).2.1⟩,fun _ r=>by rw [hc r,ht]⟩),?_,?_,rfl⟩
  ·(show _=gM l ik (ai,aj,ak,an,ag,ao,ah,aq) o z);unfold gM;first |(rw [ha];rfl) |rfl
  ·(show _=jk l ik (ai,aj,ak,an,ag,ao,ah,aq) o z);unfold jk;first |(rw [ha];rfl) |rfl
end GL
namespace GL
noncomputable section
structure KK (s:ax):Prop where
 len:s.rows.length=64
 sp:ry (s.refs,s.last)=true
 bY:1≤s.bY∧s.bY≤900
 bT:0≤s.bT∧s.bT≤s.bY - 1
 QF:∀i,i < 64→nth ae s.last i≤s.bY
 row:∀i,i < 64→(nth aa s.rows i).size≤128∧decide (nth aa s.rows i=⟨#[]⟩)=decide (nth ae s.refs i=(0:Int))
 gone:∀p∈s.gone,aV p=true∧ar p=false∧p.2.1≤s.bY - 1
 dead:∀p∈s.dead,aV p=true∧ar p=false∧p.2.1≤s.bT
 bj:∀r,r < 64→((bj s.gone r+bj s.dead r:Nat):Int)≤qz s r
def gz (s:ax):Bool:= @decide (KK s) (Classical.propDecidable _)
theorem U8 {s:ax} (h:KK s):gz s=true:=by unfold gz;exact @decide_eq_true _ (Classical.propDecidable _) h
theorem mB {s:ax} (h:¬KK s):gz s=false:=by unfold gz;exact @decide_eq_false _ (Classical.propDecidable _) h
theorem QS {s:ax}:gz s=true↔KK s:=by unfold gz;exact @decide_eq_true_iff _ (Classical.propDecidable _)
theorem QX {p:List Int×List Int} (h:ry p=true):p.1.length=64∧p.2.length=64:=by
 cases h1:decide ((p.1.length:Int)≠64) with
 |true=>rw [N3 h1] at h;cases h
 |false=>
  cases h2:decide ((p.2.length:Int)≠64) with
  |true=>rw [N2 h2] at h;cases h
  |false=>
   have:=ca (p:=¬(p.1.length:Int)=64) h1;have:=ca (p:=¬(p.2.length:Int)=64) h2
   omega
theorem adJ:∀(l:List Int),0 < l.length→∃z:Int,(∀j,j < l.length→nth ae l j≤z)∧∃j,j < l.length∧nth ae l j=z
 |[a],_=>⟨a,fun j hj=>by rw [show j=0 by simpa using hj];exact Int.le_refl _,0,by simp,rfl⟩
 |a::b::l,_=>by
  obtain ⟨z,h1,k,h2,h3⟩:=adJ (b::l) (by simp)
  by_cases e:a≤z
  ·refine ⟨z,fun j hj=>?_,k+1,by simpa using h2,h3⟩
   cases j with
   |zero=>exact e
   |succ j=>exact h1 j (by simpa using hj)
  ·refine ⟨a,fun j hj=>?_,0,by simp,rfl⟩
   cases j with
   |zero=>exact Int.le_refl _
   |succ j=>exact Int.le_trans (h1 j (by simpa using hj)) (by omega)
section
variable {s:ax}
theorem aiK (h:decide ((s.rows.length:Int)≠64)=true):gz s=false:=mB fun k=>by have:=cw h;have:=k.len;omega
theorem aiJ (h:(!(ry (s.refs,s.last)))=true):gz s=false:=mB fun k=>by rw [k.sp] at h;cases h
theorem aiI (h:(!(ir s.bY 1 900))=true):gz s=false:=mB fun k=>by rw [cn.2 k.bY] at h;cases h
theorem aiH (h:(!(ir s.bT 0 (s.bY - 1)))=true):gz s=false:=mB fun k=>by rw [cn.2 k.bT] at h;cases h
theorem akv {m:Int} (hl:s.last.length=64) (hx:∃j,j < s.last.length∧nth ae s.last j=m) (h:decide (m > s.bY)=true):gz s=false:=mB fun k=>by
 obtain ⟨j,h1,h2⟩:=hx
 have h3:=k.QF j (by omega)
 rw [h2] at h3
 have:=cw h
 exact absurd h3 (Int.not_le.2 this)
end
def A7 (s:ax) (i:Nat):Bool:=bif decide (((nth aa s.rows i).size:Int) > 128) then false else !(bne (decide (nth aa s.rows i=⟨#[]⟩)) (decide (nth ae s.refs i=(0:Int))))
theorem uM (n r:Nat):nth ae (List.replicate n (EK.zero ae)) r=(0:Int):=by
 by_cases h:r < (List.replicate n (EK.zero ae)).length
 ·exact (List.mem_replicate.1 (bS (ek:=ae) h)).2
 ·exact tq (ek:=ae) (by omega)
section
variable {s:ax} {i:Nat}
theorem acO (h:decide (((nth aa s.rows i).size:Int) > 128)=true):A7 s i=false:=by unfold A7;rw [h];rfl
theorem acN (h:bne (decide (nth aa s.rows i=⟨#[]⟩)) (decide (nth ae s.refs i=(0:Int)))=true):A7 s i=false:=by unfold A7;rw [h];cases decide (((nth aa s.rows i).size:Int) > 128)<;>rfl
theorem acM (h:decide (((nth aa s.rows i).size:Int) > 128)=false) (h2:bne (decide (nth aa s.rows i=⟨#[]⟩)) (decide (nth ae s.refs i=(0:Int)))=false):A7 s i=true:=by unfold A7;rw [h,h2];rfl
theorem GO:A7 s i=true↔(nth aa s.rows i).size≤128∧decide (nth aa s.rows i=⟨#[]⟩)=decide (nth ae s.refs i=(0:Int)):=by
 unfold A7
 cases h:decide (((nth aa s.rows i).size:Int) > 128) with
 |true=>have:=cw h;exact ⟨fun h=>(by cases h),fun h=>absurd h.1 (by omega)⟩
 |false=>
  have:=ca h
  rw [cond_false]
  cases decide (nth aa s.rows i=⟨#[]⟩)<;>cases decide (nth ae s.refs i=(0:Int))<;>simp<;>omega
theorem zB {ik:Int} {p:Pt}:fa s ik p=true↔aV p=true∧ar p=false∧p.2.1≤ik∧nth ae s.refs p.1.toNat≠(0:Int):=by
 unfold fa
 simp only [Bool.and_eq_true,Bool.not_eq_true',decide_eq_false_iff_not,Int.not_lt]
theorem UO {l:List Pt} {p:Pt} (h:p∈l) (hh:ar p=false):0 < bj l (at' p):=List.countP_pos_iff.2 ⟨p,h,by simp [K2,hh]⟩
theorem KK.ahv (k:KK s):s.gone.all (fa s (s.bY - 1))=true:=List.all_eq_true.2 fun p hp=>by
 obtain ⟨h1,h2,h3⟩:=k.gone p hp
 refine zB.2 ⟨h1,h2,h3,fun h=>?_⟩
 have h4:=k.bj (at' p) (sj h1);have h5:=UO hp h2
 rw [show qz s (at' p)=0 from h] at h4;omega
theorem KK.ahw (k:KK s):s.dead.all (fa s s.bT)=true:=List.all_eq_true.2 fun p hp=>by
 obtain ⟨h1,h2,h3⟩:=k.dead p hp
 refine zB.2 ⟨h1,h2,h3,fun h=>?_⟩
 have h4:=k.bj (at' p) (sj h1);have h5:=UO hp h2
 rw [show qz s (at' p)=0 from h] at h4;omega
theorem afJ (hi:i < 64) (h:A7 s i=false):gz s=false:=mB fun k=>by rw [GO.2 (k.row i hi)] at h;cases h
theorem aku (h:s.gone.all (fa s (s.bY - 1))=false):gz s=false:=mB fun k=>by rw [k.ahv] at h;cases h
theorem akt (h:s.dead.all (fa s s.bT)=false):gz s=false:=mB fun k=>by rw [k.ahw] at h;cases h
theorem aks {r:Nat} (hr:r < 64) (h:¬((bj s.gone r+bj s.dead r:Nat):Int)≤qz s r):gz s=false:=mB fun k=>h (k.bj r hr)
end
def tj (S:ax):Prop:=S.gone.length≤1000000∧S.dead.length≤1000000
def bI (S:ax):AV:=.s (.q (gz S))
def SB (S:ax):List AV:=[]
def y5:Con where
 A:=[.a xw]
 B:=[]
 pre:=fun x b=>tj x
 α:=fun _ _=>Unit
 φ:=fun _ _ _=>True
 r:=fun x b _=>bI x
 o:=fun x b _=>SB x
 nf:=0
set_option maxRecDepth 100000 in
theorem XF:Has Tryz.prog 12 y5:=by
 refine Has.ofEI (fun _=>true) (fun _=>false) (fun _=>false) (l:=[(30,kR),(31,cu),(32,y7),(33,ud)]) ⟨yM,ga,XH,PJ,trivial⟩ (fn:=Tryz.f12) Tryz.func12 rfl (by decide) (cH rfl) ?_
 rintro ⟨(ai:List ByteArray),(aj:List Int),(ak:List Int),(an:Int),(ag:List Pt),(ao:Int),(ah:List Pt),(aq:Bool)⟩ _ (hp:tj (ai,aj,ak,an,ag,ao,ah,aq))
 show vc _ _ _ _ (entry [.a [.vz aa ai, .vz ae aj, .vz ae ak, .int an, .vz ab ag, .int ao, .vz ab ah, .q aq]] []) _
 obtain ⟨(hg:ag.length≤1000000),(hd:ah.length≤1000000)⟩:=hp
 have hla:(!(ry (aj,ak)))=false→aj.length=64∧ak.length=64:=fun h=>QX (cB h)
 have hxt:(!(ir an 1 900))=false→1≤an∧an≤900:=fun h=>cn.1 (cB h)
 have hxk:(!(ir ao 0 (an - 1)))=false→0≤ao∧ao≤an - 1:=fun h=>cn.1 (cB h)
 refine ⟨[.s 1],[.s 9],rfl,[.s 9, .b 1001],[.s 10],rfl,[.s 10],[.s 11],rfl,[.s 11],[.s 12],rfl,[.s 12],[.s 13],rfl,tv,fun w1=>⟨[.s 13],[.s 14],rfl,[.s 13],[.s 15],rfl,[.s 13],[.s 16],rfl,[.s 13],[.s 17],rfl,[.s 13, .s 17],[.s 18],rfl,[.s 18],[.s 19],rfl,[.s 19],[.s 20],rfl,[.s 19],[.s 21],rfl,[.s 19],[.s 22],rfl,[.s 19],[.s 23],rfl,[.s 19, .s 23],[.s 24],rfl,[.s 24],[.s 25],rfl,[.s 25],[.s 26],rfl,[.s 25],[.s 27],rfl,[.s 25],[.s 28],rfl,[.s 25],[.s 29],rfl,[.s 25],[.s 30],rfl,[.s 25],[.s 31],rfl,[.s 25],[.s 32],rfl,[.s 25, .s 32],[.s 33],rfl,[.s 33],[.s 34],rfl,[.s 34],[.s 35],rfl,[.s 34],[.s 36],rfl,[.s 34],[.s 37],rfl,[.s 34],[.s 38],rfl,[.s 34],[.s 39],rfl,[.s 34],[.s 40],rfl,[.s 34],[.s 41],rfl,[.s 34, .s 41],[.s 42],rfl,?_⟩,fun w2=>⟨[.s 13, .s 1],[.s 14],rfl,[.s 13, .s 14, .b 1001],[.s 15],rfl,[.s 13, .s 15],[.s 16],rfl,⟨⟨⟨tv,tv,tv⟩,tv⟩,tv⟩,?_,fun x3 w4=>⟨[.s 13, .s 16],[.s 17],rfl,[.s 13, .s 17],[.s 18],rfl,[.s 18],[.s 19],rfl,tv,fun w5=>⟨[.s 19],[.s 20],rfl,[.s 19],[.s 21],rfl,[.s 19],[.s 22],rfl,[.s 19],[.s 23],rfl,[.s 19, .s 23],[.s 24],rfl,[.s 24],[.s 25],rfl,[.s 25],[.s 26],rfl,[.s 25],[.s 27],rfl,[.s 25],[.s 28],rfl,[.s 25],[.s 29],rfl,[.s 25],[.s 30],rfl,[.s 25],[.s 31],rfl,[.s 25],[.s 32],rfl,[.s 25, .s 32],[.s 33],rfl,[.s 33],[.s 34],rfl,[.s 34],[.s 35],rfl,[.s 34],[.s 36],rfl,[.s 34],[.s 37],rfl,[.s 34],[.s 38],rfl,[.s 34],[.s 39],rfl,[.s 34],[.s 40],rfl,[.s 34],[.s 41],rfl,[.s 34, .s 41],[.s 42],rfl,?_⟩,fun w6=>⟨[.s 19, .s 1],[.s 20],rfl,[.s 19, .s 20, .b 1001],[.s 21],rfl,[.s 19, .s 21],[.s 22],rfl,⟨⟨tv,tv,tv,tv⟩,tv⟩,?_,fun x7 w8=>⟨[.s 19, .s 22],[.s 23],rfl,[.s 19, .s 23],[.s 24],rfl,[.s 24],[.s 25],rfl,tv,fun w9=>⟨[.s 25],[.s 26],rfl,[.s 25],[.s 27],rfl,[.s 25],[.s 28],rfl,[.s 25],[.s 29],rfl,[.s 25],[.s 30],rfl,[.s 25],[.s 31],rfl,[.s 25],[.s 32],rfl,[.s 25, .s 32],[.s 33],rfl,[.s 33],[.s 34],rfl,[.s 34],[.s 35],rfl,[.s 34],[.s 36],rfl,[.s 34],[.s 37],rfl,[.s 34],[.s 38],rfl,[.s 34],[.s 39],rfl,[.s 34],[.s 40],rfl,[.s 34],[.s 41],rfl,[.s 34, .s 41],[.s 42],rfl,?_⟩,fun df=>⟨[.s 25, .s 1],[.s 26],rfl,[.s 25, .s 26, .b 1001],[.s 27],rfl,[.s 25, .s 1],[.s 28],rfl,[.s 25, .s 28, .b 1001],[.s 29],rfl,[.s 25, .s 29],[.s 30],rfl,⟨?_,?_⟩,[.s 25, .s 27, .s 30],[.s 31],rfl,⟨⟨tv,tv,tv,tv⟩,tv⟩,?_,fun kx dC=>⟨[.s 25, .s 31],[.s 32],rfl,[.s 25, .s 32],[.s 33],rfl,[.s 33],[.s 34],rfl,tv,fun iA=>⟨[.s 34],[.s 35],rfl,[.s 34],[.s 36],rfl,[.s 34],[.s 37],rfl,[.s 34],[.s 38],rfl,[.s 34],[.s 39],rfl,[.s 34],[.s 40],rfl,[.s 34],[.s 41],rfl,[.s 34, .s 41],[.s 42],rfl,?_⟩,fun gx=>⟨[.s 34, .s 1],[.s 35],rfl,[.s 34, .s 35],[.s 36],rfl,[.s 34, .s 36, .b 1001],[.s 37],rfl,[.s 34, .s 37],[.s 38],rfl,⟨⟨tv,tv⟩,?_,?_⟩,?_,fun ku j9=>⟨[.s 34, .s 1],[.s 39],rfl,[.s 34, .s 39, .b 1001],[.s 40],rfl,[.s 34, .s 38, .s 40],[.s 41],rfl,[.s 34, .s 41],[.s 42],rfl,fun wu=>?_,fun qI=>?_⟩⟩⟩⟩⟩⟩⟩⟩⟩
 all_goals first|refine au ?_|refine aw ?_|exact sa|(dsimp only [kR,lO];omega)|(dsimp only [cu,di];omega)|(dsimp only [y7,vj];omega)|(dsimp only [ud,r8];omega)|exact sb|(show (-9223372036854775808:Int)≤an - 1;have:=hxt df;omega)|(show an - 1≤(9223372036854775807:Int);have:=hxt df;omega)|(show 0 < ak.length;rw [(hla w6).2];decide)|(show ak.length≤1000000;rw [(hla w6).2];decide)|exact adJ ak (by rw [(hla w6).2];decide)|skip
 ·refine ⟨[],[],_,_,_,rfl,rp,(),tv,?_,?_,rfl⟩
  ·(show _=bI (ai,aj,ak,an,ag,ao,ah,aq));unfold bI;first |(rw [aiK (s:=(ai,aj,ak,an,ag,ao,ah,aq)) w1];rfl) |rfl
  ·rfl
 ·refine ⟨[],[],_,_,_,rfl,rp,(),tv,?_,?_,rfl⟩
  ·(show _=bI (ai,aj,ak,an,ag,ao,ah,aq));unfold bI;first |(rw [aiJ (s:=(ai,aj,ak,an,ag,ao,ah,aq)) w5];rfl) |rfl
  ·rfl
 ·refine ⟨[],[],_,_,_,rfl,rp,(),tv,?_,?_,rfl⟩
  ·(show _=bI (ai,aj,ak,an,ag,ao,ah,aq));unfold bI;first |(rw [aiI (s:=(ai,aj,ak,an,ag,ao,ah,aq)) w9];rfl) |rfl
  ·rfl
 ·refine ⟨[],[],_,_,_,rfl,rp,(),tv,?_,?_,rfl⟩
  ·(show _=bI (ai,aj,ak,an,ag,ao,ah,aq));unfold bI;first |(rw [aiH (s:=(ai,aj,ak,an,ag,ao,ah,aq)) iA];rfl) |rfl
  ·rfl
 ·refine ⟨[],[],_,_,_,rfl,rp,(),tv,?_,?_,rfl⟩
  ·(show _=bI (ai,aj,ak,an,ag,ao,ah,aq));unfold bI;first |(rw [akv (s:=(ai,aj,ak,an,ag,ao,ah,aq)) (hla w6).2 j9.2 wu];rfl) |rfl
  ·rfl
 have hlen:ai.length=64:=by have:=ca w2;omega
 have hrl:=hla w6
 have hsp:ry (aj,ak)=true:=cB w6
 have htx:=hxt df
 have hkp:=hxk gx
 have hyo:∀i,i < 64→nth ae ak i≤an:=fun i hi=>Int.le_trans (j9.1 i (show i < ak.length by rw [hrl.2];exact hi)) (Int.not_lt.1 (ca (p:=(show Int from ku) > an) qI))
 have hz0:∀r,nth ae (List.replicate (Int.toNat 64) (EK.zero ae)) r=(0:Int):=fun r=>uM _ r
 have hz1:∀r,(0:Int)≤nth ae (List.replicate (Int.toNat 64) (EK.zero ae)) r:=fun r=>by rw [hz0];exact Int.le_refl _
 have hz2:∀r,nth ae (List.replicate (Int.toNat 64) (EK.zero ae)) r≤(1000000:Int):=fun r=>by rw [hz0];decide
 have hz3:∀r,(nth ae (List.replicate (Int.toNat 64) (EK.zero ae)) r+(ag.length:Int):Int)≤(1000000:Int):=fun r=>by rw [hz0];show (0:Int)+_≤_;omega
 refine lW (l:=[(30,kR),(31,cu),(32,y7),(33,ud)]) (ex:=fun _=>true) (wr:=fun _=>false) (pt:=fun _=>false) ⟨yM,ga,XH,PJ,trivial⟩ [.s 1, .b 1001, .s 44, .s 45] (fun i:Nat=>[(.s 46, .int i)]) (fun i=>i≤64∧∀j,j < i→A7 (ai,aj,ak,an,ag,ao,ah,aq) j=true) (fun i=>64 - i) 0 [] ⟨Nat.zero_le _,fun j hj=>absurd hj (by omega)⟩ ru ?_
 rintro i ⟨(hi:i≤64),hj⟩
 have cg:decide ((i:Int) < (ai.length:Int))=true→i < 64:=fun h=>by have:=cw h;omega
 refine ⟨fun w1=>⟨⟨?_,?_⟩,tv,fun w2=>?_,fun w3=>⟨⟨?_,?_⟩,fun w4=>?_,fun w5=>⟨⟨?_,?_⟩,?_⟩⟩⟩,fun w6=>⟨⟨?_,?_,?_⟩,⟨?_,?_⟩,⟨⟨tv,tv,tv,tv,tv⟩,?_,?_,?_,?_,fun x7=>⟨?_,?_⟩⟩,fun x8 w9=>⟨tv,fun df=>?_,fun ka=>⟨⟨⟨tv,tv,tv,tv,tv⟩,?_,?_,?_,?_,fun x12=>⟨?_,?_⟩⟩,fun rP gx=>⟨fun oU=>?_,fun j9=>?_⟩⟩⟩⟩⟩
 all_goals first|refine au ?_|refine aw ?_|exact sa|(dsimp only [kR,lO];omega)|(dsimp only [cu,di];omega)|(dsimp only [y7,vj];omega)|(dsimp only [ud,r8];omega)|exact sb|(show (i:Int) < (aj.length:Int);rw [hrl.1];exact Int.ofNat_lt.2 (cg w1))|exact hrl.1|exact hz1 _|exact hz2 _|exact w9.1.symm|exact w9.1|exact (w9.2.1 _).1|exact Int.le_trans (w9.2.1 _).2 (hz3 _)|exact hg|exact hd|skip
 ·refine ⟨[],[],_,_,_,rfl,rp,(),tv,?_,?_,rfl⟩
  ·(show _=bI (ai,aj,ak,an,ag,ao,ah,aq));unfold bI;first |(rw [afJ (s:=(ai,aj,ak,an,ag,ao,ah,aq)) (cg w1) (acO (s:=(ai,aj,ak,an,ag,ao,ah,aq)) w2)];rfl) |rfl
  ·rfl
 ·refine ⟨[],[],_,_,_,rfl,rp,(),tv,?_,?_,rfl⟩
  ·(show _=bI (ai,aj,ak,an,ag,ao,ah,aq));unfold bI;first |(rw [afJ (s:=(ai,aj,ak,an,ag,ao,ah,aq)) (cg w1) (acN (s:=(ai,aj,ak,an,ag,ao,ah,aq)) w4)];rfl) |rfl
  ·rfl
 ·refine ⟨(i+1),[],?_,?_,?_⟩
  rotate_right
  ·exact rq
  ·refine ⟨cg w1,fun j yR=>?_⟩
   by_cases e:j=i
   ·rw [e];exact acM (s:=(ai,aj,ak,an,ag,ao,ah,aq)) w3 w5
   ·exact hj j (by omega)
  ·show 64 - (i+1) < 64 - i;have:=cg w1;omega
 ·refine ⟨[],[],_,_,_,rfl,rp,(),tv,?_,?_,rfl⟩
  ·(show _=bI (ai,aj,ak,an,ag,ao,ah,aq));unfold bI;first |(rw [aku (s:=(ai,aj,ak,an,ag,ao,ah,aq)) (qV df)];rfl) |rfl
  ·rfl
 ·refine ⟨[],[],_,_,_,rfl,rp,(),tv,?_,?_,rfl⟩
  ·(show _=bI (ai,aj,ak,an,ag,ao,ah,aq));unfold bI;first |(rw [akt (s:=(ai,aj,ak,an,ag,ao,ah,aq)) (qV oU)];rfl) |rfl
  ·rfl
 ·have ab3:∀j,j < 64→A7 (ai,aj,ak,an,ag,ao,ah,aq) j=true:=fun j yR=>hj j (by have:=ca w6;omega)
  have hgo:ag.all (fa (ai,aj,ak,an,ag,ao,ah,aq) (an - 1))=true:=cB ka
  have hde:ah.all (fa (ai,aj,ak,an,ag,ao,ah,aq) ao)=true:=cB j9
  have hc1:∀r,(nth ae (show List Int from x8) r:Int)=(bj ag r:Int):=fun r=>(w9.2.2 hgo r).trans (show (nth ae (List.replicate (Int.toNat 64) (EK.zero ae)) r+(bj ag r:Int):Int)=_ by rw [hz0,Int.zero_add])
  have hcn:∀r,(nth ae (show List Int from rP) r:Int)=((bj ag r+bj ah r:Nat):Int):=fun r=>(gx.2.2 hde r).trans (show (nth ae (show List Int from x8) r+(bj ah r:Int):Int)=_ by rw [hc1];rfl)
  have hx8:List.length (show List Int from x8)=64:=w9.1
  have hx:List.length (show List Int from rP)=64:=gx.1
  refine lW (l:=[(30,kR),(31,cu),(32,y7),(33,ud)]) (ex:=fun _=>true) (wr:=fun _=>false) (pt:=fun _=>false) ⟨yM,ga,XH,PJ,trivial⟩ [.s 1, .b 1001, .s 86, .s 87, .b 1067] (fun i:Nat=>[(.s 88, .int i)]) (fun i=>i≤64∧∀j,j < i→(nth ae rP j:Int)≤nth ae aj j) (fun i=>64 - i) 0 [] ⟨Nat.zero_le _,fun j hj=>absurd hj (by omega)⟩ ru ?_
  clear hj cg hi
  rintro i ⟨(hi:i≤64),hj⟩
  have cg:decide ((i:Int) < (List.length (show List Int from x8):Int))=true→i < 64:=fun h=>by have:=cw h;omega
  have ob:decide ((i:Int) < (List.length (show List Int from x8):Int))=false→i=64:=fun h=>by have:=ca h;omega
  refine ⟨fun w1=>⟨⟨?_,?_⟩,⟨?_,⟨⟨?_,?_⟩,⟨fun w2=>?_,fun w3=>⟨⟨?_,?_⟩,?_⟩⟩⟩⟩⟩,fun w4=>?_⟩
  all_goals first|refine au ?_|refine aw ?_|exact sa|(dsimp only [kR,lO];omega)|(dsimp only [cu,di];omega)|(dsimp only [y7,vj];omega)|(dsimp only [ud,r8];omega)|exact sb|(show i < List.length (show List Int from rP);rw [hx];exact cg w1)|(show (i:Int) < (aj.length:Int);rw [hrl.1];exact Int.ofNat_lt.2 (cg w1))|skip
  ·refine ⟨[],[],_,_,_,rfl,rp,(),tv,?_,?_,rfl⟩
   ·(show _=bI (ai,aj,ak,an,ag,ao,ah,aq));unfold bI;first |(rw [aks (s:=(ai,aj,ak,an,ag,ao,ah,aq)) (cg w1) (fun h=>by rw [←hcn i] at h;exact absurd h (Int.not_le.2 (cw w2)))];rfl) |rfl
   ·rfl
  ·refine ⟨(i+1),[],?_,?_,?_⟩
   rotate_right
   ·exact rq
   ·refine ⟨cg w1,fun j yR=>?_⟩
    by_cases e:j=i
    ·rw [e];exact Int.not_lt.1 (ca w3)
    ·exact hj j (by omega)
   ·show 64 - (i+1) < 64 - i;have:=cg w1;omega
  ·have e:gz (ai,aj,ak,an,ag,ao,ah,aq)=true:=U8
    {len:=hlen,sp:=hsp,bY:=htx,bT:=hkp,QF:=hyo,row:=fun j yR=>GO.1 (ab3 j yR)
     gone:=fun p hp=>by
      have:=zB.1 (List.all_eq_true.1 hgo p hp)
      exact ⟨this.1,this.2.1,this.2.2.1⟩
     dead:=fun p hp=>by
      have:=zB.1 (List.all_eq_true.1 hde p hp)
      exact ⟨this.1,this.2.1,this.2.2.1⟩
     bj:=fun r hr=>by rw [←hcn r];exact hj r (by rw [ob w4];exact hr) }
   refine ⟨[],[],_,_,_,rfl,rp,(),tv,?_,?_,rfl⟩
   ·(show _=bI (ai,aj,ak,an,ag,ao,ah,aq));unfold bI;first |(rw [e];rfl) |rfl
   ·rfl
end
end GL
namespace GL
def mr:fl:=(2,1,0,0,0,0,0,0,0,0)
def pn:aZ:=(0,0,0,0,0,0,0)
theorem abL (b:Bool):ay (j5 b) pn=cl 16:=by
 have e:bn (j5 b) pn=([bL],true):=vu (f:=2) (lv:=0) (l:=[bL]) rfl
 unfold ay;rw [e];rfl
theorem wI (b:Bool):Tree (j5 b) pn 0 where
 rm:=⟨rfl,by decide,⟨rfl,fun h=>by cases h⟩⟩
 m0:=Int.le_refl _
 m1:=by decide
 dm:=rfl
 tail:=fun i _=>by rw [abL,B9];rfl
theorem SZ (b:Bool) (k:Nat):getM (j5 b) pn k=⟨#[]⟩:=mW (wI b) (j:=k) (Int.natCast_nonneg k)
theorem HT (b:Bool) (r:Nat):qz (j5 b) r=0:=uM 64 r
theorem adF (b:Bool) (E:Nat→Bool) (r:Nat):gy (j5 b) pn E r=0:=by
 have h:∀k,(bif E k then 0 else bj (du (j5 b) (nodeAt (j5 b) pn k)) r)=0:=fun k=>by
  rw [jL (SZ b k)];cases E k<;>rfl
 unfold gy
 have hs:∀l:List Nat,(l.map fun k=>bif E k then 0 else bj (du (j5 b) (nodeAt (j5 b) pn k)) r).sum=0:=fun l=>by
  induction l with
  |nil=>rfl
  |cons x l ih=>rw [List.map_cons,List.sum_cons,ih,h x]
 exact hs _
theorem ZQ (b:Bool):FI (j5 b) pn (rL E0 0) (fun r=>O0 r+bj (du (j5 b) mr) r) where
 tree:=wI b
 nodes:=fun k _ _=>.inl (SZ b k)
 acc:=
  {wf:=⟨⟨rfl,rfl,rfl⟩,fun x hx=>by rw [(List.mem_replicate.1 hx).2];exact Nat.zero_le _⟩
   up:=fun r=>by rw [HT];decide
   bY:=⟨Int.le_refl _,show (1:Int)≤1000000 by decide⟩
   sl:=fun r=>by
    rw [HT,adF,show bj (du (j5 b) mr) r=0 from ma rfl r,show bj (c8 (j5 b) pn) r=0 from ma rfl r]
    exact Int.le_refl _
   ok:=fun p hp=>by cases hp }
theorem SY (b:Bool):(aU (j5 b) pn 0 (az mr)).2.2=true:=by cases b<;>decide+kernel
theorem acP:cm mr=true:=by decide
theorem afV (b:Bool):FS (aU (j5 b) pn 0 (az mr)).1 (aU (j5 b) pn 0 (az mr)).2.1:=by
 obtain ⟨h1,h2⟩:=(ZQ b).ZD (i:=0) (n:=mr) (O:=O0) (by decide) (by decide) (fun h=>⟨h,wI b⟩) (SY b)
 have e:vR (rL E0 0) 0=E0:=by
  funext k
  unfold vR rL
  cases decide (k=0)<;>rfl
 rw [e] at h1
 refine ⟨h1,?_⟩
 have h3:bm (getM (aU (j5 b) pn 0 (az mr)).1 (aU (j5 b) pn 0 (az mr)).2.1 0)=(mr,true):=(congrArg bm h2.at_).trans (tz acP)
 show (bm (getM (aU (j5 b) pn 0 (az mr)).1 (aU (j5 b) pn 0 (az mr)).2.1 0)).1.1=2
 rw [h3];rfl
end GL
namespace GL
def xo (s:ax) (p:Pt):List Pt:=bif ar p then cl 4 else (bd (bA s p).1).1
def qi (s:ax) (p:Pt) (lv:Int):Bool:=bif ar p then true else bif !(bA s p).2 then false else bif decide (p.2.2.2.2≠lv) then false else (bd (bA s p).1).2&& !((bd (bA s p).1).1.any (late p))
section
variable {s:ax} {p:Pt} {lv:Int}
theorem X2 (h:ar p=true):qi s p lv=true:=by unfold qi;rw [h];rfl
theorem X1 (h:ar p=false) (h1:(!(bA s p).2)=true):qi s p lv=false:=by unfold qi;rw [h,h1];rfl
theorem aeS (h:ar p=false) (h1:(!(bA s p).2)=false) (h2:decide (p.2.2.2.2≠lv)=true):qi s p lv=false:=by unfold qi;rw [h,h1,h2];rfl
theorem aeR (h:ar p=false) (h1:(!(bA s p).2)=false) (h2:decide (p.2.2.2.2≠lv)=false) (h3:false=(bd (bA s p).1).2):qi s p lv=false:=by unfold qi;rw [h,h1,h2,←h3];rfl
theorem aeQ (h:ar p=false) (h1:(!(bA s p).2)=false) (h2:decide (p.2.2.2.2≠lv)=false) (h3:true=(bd (bA s p).1).2):qi s p lv= !((bd (bA s p).1).1.any (late p)):=by unfold qi;rw [h,h1,h2,←h3];rfl
theorem JG (h:ar p=true):xo s p=cl 4:=by unfold xo;rw [h];rfl
theorem aeO (h:ar p=false):xo s p=(bd (bA s p).1).1:=by unfold xo;rw [h];rfl
theorem acd (cq:aV p=true) (hb:ar p=false→p.2.1≤s.bY):qi s p lv=(a8 s p lv).2∧(qi s p lv=true→xo s p=(a8 s p lv).1):=by
 cases hh:ar p with
 |true=>rw [X2 hh,kq hh];exact ⟨rfl,fun _=>JG hh⟩
 |false=>
  have hb:=hb hh
  cases hl:decide (p.2.2.2.2≠lv) with
  |true=>
   rw [wa hh hl]
   cases hr: !(bA s p).2 with
   |true=>rw [X1 hh hr];exact ⟨rfl,fun h=>by cases h⟩
   |false=>rw [aeS hh hr hl];exact ⟨rfl,fun h=>by cases h⟩
  |false=>
   have h1:(!(aV p))=false:=by rw [cq];rfl
   have h3:decide (p.2.1 > s.bY)=false:=decide_eq_false (by omega)
   cases hr: !(bA s p).2 with
   |true=>rw [X1 hh hr,v8 hh h1 hl h3 hr];exact ⟨rfl,fun h=>by cases h⟩
   |false=>
    rw [v7 hh h1 hl h3 hr]
    cases hf:(bd (bA s p).1).2 with
    |false=>
     rw [aeR hh hr hl hf.symm,X0 hf];exact ⟨rfl,fun h=>by cases h⟩
    |true=>
     rw [aeQ hh hr hl hf.symm,aeO hh]
     cases ha:(bd (bA s p).1).1.any (late p) with
     |true=>rw [wb ha];exact ⟨rfl,fun h=>by cases h⟩
     |false=>rw [sM ha];exact ⟨by rw [hf];rfl,fun _=>rfl⟩
end
def kJ (S:ax) (p:Pt) (lv:Int):Prop:=S.rd∧aV p=true
def V0 (S:ax) (p:Pt) (lv:Int) (z:Bool):Prop:=qi S p lv=true→z=true
def fJ (S:ax) (p:Pt) (lv:Int) (z:Bool):AV:=.t [match z with |true=>.s (.xs 0 5 0 (xo S p).length) |false=>.s (.v (.slice none 0 0)), .s (.q (qi S p lv))]
def gP (S:ax) (p:Pt) (lv:Int) (z:Bool):List AV:=match z with |true=>[.rs ab (xo S p)] |false=>[.zz]
def kn:Con where
 A:=[.vs xw, .a [.int, .int, .int, .int, .int], .s .int]
 B:=[]
 pre:=fun x b=>kJ (x.1) (x.2.1) (x.2.2)
 α:=fun _ _=>Bool
 φ:=fun x b z=>V0 (x.1) (x.2.1) (x.2.2) z
 r:=fun x b z=>fJ (x.1) (x.2.1) (x.2.2) z
 o:=fun x b z=>gP (x.1) (x.2.1) (x.2.2) z
 nf:=1
set_option maxRecDepth 100000 in
theorem zM:Has Tryz.prog 37 kn:=by
 refine Has.ofZI (fun _=>true) (fun _=>false) (fun _=>false) (l:=[(35,bB),(38,kD),(59,DE),(60,y8)]) ⟨eJ,zK,abZ,XI,trivial⟩ (fn:=Tryz.f37) Tryz.func37 rfl (by decide) (cH rfl) ?_
 rintro ⟨⟨(ai:List ByteArray),(aj:List Int),(ak:List Int),(an:Int),(ag:List Pt),(ao:Int),(ah:List Pt),(aq:Bool)⟩,⟨(p1:Int),(p2:Int),(p3:Int),(p4:Int),(p5:Int)⟩,(lv:Int)⟩ _ (hp:kJ (ai,aj,ak,an,ag,ao,ah,aq) (p1,p2,p3,p4,p5) lv)
 show vc _ _ _ _ (entry [.s (.vs [.vz aa ai, .vz ae aj, .vz ae ak, .v (.int .i64 an), .vz ab ag, .v (.int .i64 ao), .vz ab ah, .q aq] 0), .a [.int p1, .int p2, .int p3, .int p4, .int p5], .int lv] []) _
 obtain ⟨dA,cq⟩:=hp
 have dA:ax.rd (ai,aj,ak,an,ag,ao,ah,aq):=dA
 have cq:aV (p1,p2,p3,p4,p5)=true:=cq
 have db:∀q,(bA (ai,aj,ak,an,ag,ao,ah,aq) q).1.size≤1000000:=fun q=>zu dA
 have hF:=(vM (bA (ai,aj,ak,an,ag,ao,ah,aq) (p1,p2,p3,p4,p5)).1).1
 refine ⟨⟨⟨⟨tv,tv,tv,tv,tv,tv⟩,tv⟩,tv⟩,fun x1 w2=>⟨fun w3=>⟨⟨?_,?_,?_⟩,?_⟩,fun w4=>⟨⟨⟨tv,⟨tv,tv,tv,tv,tv,tv⟩,tv⟩,fun x5 w6=>?_,?_,?_⟩,fun x7 w8=>⟨tv,fun w9=>?_,fun df=>⟨fun ka=>?_,fun dC=>⟨⟨⟨tv,tv⟩,?_⟩,fun |false=>fun iA=>⟨tv,fun gx=>⟨⟨⟨⟨tv,tv,tv⟩,?_⟩,fun ku j9=>?_⟩,fun x17 qI=>?_⟩,fun ot=>?_⟩ |true=>fun um=>⟨tv,fun zg=>⟨⟨⟨⟨⟨?_,?_⟩,tv,tv⟩,?_⟩,fun x22 xv=>?_⟩,fun x24 w25=>?_⟩,fun EL=>?_⟩⟩⟩⟩⟩⟩⟩
 all_goals first|refine au ?_|refine aw ?_|exact sa|(dsimp only [bB,bV];omega)|(dsimp only [kD,k8];omega)|(dsimp only [DE,qS];omega)|(dsimp only [y8,tl];omega)|exact sb|exact dA.1|exact cq|exact dA.2 _ w6|exact dA.2 _ (by assumption)|exact Nat.zero_le _|exact db _|(show (bd (bA (ai,aj,ak,an,ag,ao,ah,aq) (p1,p2,p3,p4,p5)).1).1.length≤1000000;omega)|skip
 ·refine ⟨[1014],[],_,_,_,rfl,rp,true,0,(fun _=>rfl),?_,?_,rfl⟩
  ·(show _=fJ (ai,aj,ak,an,ag,ao,ah,aq) (p1,p2,p3,p4,p5) lv true);unfold fJ;first |(rw [X2 (s:=(ai,aj,ak,an,ag,ao,ah,aq)) (lv:=lv) w3,JG (s:=(ai,aj,ak,an,ag,ao,ah,aq)) w3];rfl) |(rw [JG (s:=(ai,aj,ak,an,ag,ao,ah,aq)) w3];rfl) |rfl
  ·(show _=gP (ai,aj,ak,an,ag,ao,ah,aq) (p1,p2,p3,p4,p5) lv true);unfold gP;first |(rw [X2 (s:=(ai,aj,ak,an,ag,ao,ah,aq)) (lv:=lv) w3,JG (s:=(ai,aj,ak,an,ag,ao,ah,aq)) w3];rfl) |(rw [JG (s:=(ai,aj,ak,an,ag,ao,ah,aq)) w3];rfl) |rfl
 ·have e:=X1 (s:=(ai,aj,ak,an,ag,ao,ah,aq)) (lv:=lv) w4 w9
  refine ⟨[],[],_,_,_,rfl,rp,false,1,(fun h:qi (ai,aj,ak,an,ag,ao,ah,aq) (p1,p2,p3,p4,p5) lv=true=>absurd (e.symm.trans h) (by decide)),?_,?_,rfl⟩
  ·(show _=fJ (ai,aj,ak,an,ag,ao,ah,aq) (p1,p2,p3,p4,p5) lv false);unfold fJ;first |(rw [e];rfl) |rfl
  ·(show _=gP (ai,aj,ak,an,ag,ao,ah,aq) (p1,p2,p3,p4,p5) lv false);unfold gP;first |(rw [e];rfl) |rfl
 ·have e:=aeS (s:=(ai,aj,ak,an,ag,ao,ah,aq)) (lv:=lv) w4 df ka
  refine ⟨[],[],_,_,_,rfl,rp,false,1,(fun h:qi (ai,aj,ak,an,ag,ao,ah,aq) (p1,p2,p3,p4,p5) lv=true=>absurd (e.symm.trans h) (by decide)),?_,?_,rfl⟩
  ·(show _=fJ (ai,aj,ak,an,ag,ao,ah,aq) (p1,p2,p3,p4,p5) lv false);unfold fJ;first |(rw [e];rfl) |rfl
  ·(show _=gP (ai,aj,ak,an,ag,ao,ah,aq) (p1,p2,p3,p4,p5) lv false);unfold gP;first |(rw [e];rfl) |rfl
 ·cases gx
 ·have e:=aeR (s:=(ai,aj,ak,an,ag,ao,ah,aq)) (lv:=lv) w4 df dC (show false=(bd (bA (ai,aj,ak,an,ag,ao,ah,aq) (p1,p2,p3,p4,p5)).1).2 from iA)
  refine ⟨[],[],_,_,_,rfl,rp,false,1,(fun h:qi (ai,aj,ak,an,ag,ao,ah,aq) (p1,p2,p3,p4,p5) lv=true=>absurd (e.symm.trans h) (by decide)),?_,?_,rfl⟩
  ·(show _=fJ (ai,aj,ak,an,ag,ao,ah,aq) (p1,p2,p3,p4,p5) lv false);unfold fJ;first |(rw [e];rfl) |rfl
  ·(show _=gP (ai,aj,ak,an,ag,ao,ah,aq) (p1,p2,p3,p4,p5) lv false);unfold gP;first |(rw [e];rfl) |rfl
 ·have e:=aeQ (s:=(ai,aj,ak,an,ag,ao,ah,aq)) (lv:=lv) w4 df dC (show true=(bd (bA (ai,aj,ak,an,ag,ao,ah,aq) (p1,p2,p3,p4,p5)).1).2 from um)
  have e2:=aeO (s:=(ai,aj,ak,an,ag,ao,ah,aq)) w4
  refine ⟨[320000],[],_,_,_,rfl,rp,true,0,(fun _=>rfl),?_,?_,rfl⟩
  ·(show _=fJ (ai,aj,ak,an,ag,ao,ah,aq) (p1,p2,p3,p4,p5) lv true);unfold fJ;first |(rw [e,e2];rfl) |(rw [e2];rfl) |rfl
  ·(show _=gP (ai,aj,ak,an,ag,ao,ah,aq) (p1,p2,p3,p4,p5) lv true);unfold gP;first |(rw [e,e2];rfl) |(rw [e2];rfl) |rfl
 ·cases EL
end GL
end Go.Proofs.YtbfgjadbfjkcdaaGreatDoor
