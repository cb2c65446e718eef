/- FnTreeOk returns true for every code (its row lists package variables, tied by the card): part 36. -/
import Derived.Test.YtbfgjadbfjkcdaaGreatDoorPbi
set_option maxHeartbeats 20000000
set_option linter.all false
namespace Go.Proofs.YtbfgjadbfjkcdaaGreatDoor
namespace GL
def NK (n:Nat) (f:Nat→Bool):Bool:=(List.range n).all f
theorem UN {n i:Nat}{f:Nat→Bool}(hi:i<n) (h:f i=false):NK n f=false:=by
 unfold NK;rw [Bool.eq_false_iff];intro h2;rw [ZC8.1 h2 i (ZE2.2 hi)] at h;cases h
theorem NJ {n:Nat}{f:Nat→Bool}(h:∀i,i<n→f i=true):NK n f=true:=ZC8.2 fun i hi=>h i (ZE2.1 hi)
theorem ae2 {n:Nat}{f:Nat→Bool}(h:NK n f=true) {i:Nat}(hi:i<n):f i=true:=ZC8.1 h i (ZE2.2 hi)
theorem I6 {n a b:Int}:iC n a b=false↔¬(a≤n∧n≤b):=by rw [←cz,Bool.not_eq_true]
def K0 (n l:Int) (k:Nat):Bool:=decide ((0≤n∧n≤l∧l≤900)∧(n=0→l=0)∧(0<n→8≤k))
def xF (rf la:List Int) (k:Nat):Bool:=K0 (nth ag rf k) (nth ag la k) k
section
variable {n l:Int}{k:Nat}
theorem ai4 (h:(!(iC l 0 900))=true):K0 n l k=false:=decide_eq_false (by rw [ZF9,I6] at h;omega)
theorem ai3 (h:(!(iC n 0 l))=true):K0 n l k=false:=decide_eq_false (by rw [ZF9,I6] at h;omega)
theorem ag0 (h:decide (n=0)=true) (h2:decide (l≠0)=true):K0 n l k=false:=decide_eq_false (by have:=aE h;have:=aE h2;omega)
theorem agZ (hk:k<64) (h:(!(iC (k:Int) 8 63))=true) (h2:decide (n>0)=true):K0 n l k=false:=decide_eq_false (by rw [ZF9,I6] at h;have:=aE h2;omega)
theorem ZE (h:(!(iC l 0 900))=false) (h2:(!(iC n 0 l))=false) (h3:decide (n=0)=false∨decide (l≠0)=false) (h4:(!(iC (k:Int) 8 63))=false∨decide (n>0)=false):K0 n l k=true:=decide_eq_true (by
 have a1:=cz.1 (cI h);have a2:=cz.1 (cI h2)
 refine⟨by omega,?_,?_⟩
 ·rcases h3 with h3 |h3
  ·have:=aA h3;omega
  ·have:=aA h3;omega
 ·rcases h4 with h4 |h4
  ·have:=cz.1 (cI h4);omega
  ·have:=aA h4;omega)
end
def rK (p:List Int×List Int):Bool:=bif decide ((p.1.length:Int)≠64) then false else bif decide ((p.2.length:Int)≠64) then false else NK 64 (xF p.1 p.2)
theorem OC {p:List Int×List Int}(h:decide ((p.1.length:Int)≠64)=true):rK p=false:=by unfold rK;rw [h];rfl
theorem OB {p:List Int×List Int}(h:decide ((p.2.length:Int)≠64)=true):rK p=false:=by unfold rK;rw [h];cases decide ((p.1.length:Int)≠64)<;>rfl
theorem VH {p:List Int×List Int}(h:decide ((p.1.length:Int)≠64)=false) (h2:decide ((p.2.length:Int)≠64)=false):rK p=NK 64 (xF p.1 p.2):=by unfold rK;rw [h,h2];rfl
def nV (sp:List Int×List Int):Prop:=True
def cW (sp:List Int×List Int):AV:=.s (.q (rK sp))
def W2 (sp:List Int×List Int):List AV:=[]
def nr:Con where
 A:=[.a [.vz ag,.vz ag]]
 B:=[]
 pre:=fun x b=>nV x
 α:=fun _ _=>Unit
 φ:=fun _ _ _=>True
 r:=fun x b _=>cW x
 o:=fun x b _=>W2 x
 nf:=0
set_option maxRecDepth 100000 in
theorem CY:Has Tryz.prog 23 nr:=by
 refine Has.ofE (fun _=>true) (fun _=>false) (fun _=>false) (l:=[(24,dE),(55,o7)]) ⟨iA,zS,trivial⟩ (fn:=Tryz.f23) Tryz.func23 rfl (by decide) (aZ rfl) ?_
 rintro⟨(dB:List Int),(eK:List Int)⟩ _ (hp:nV (dB,eK))
 show vc _ _ _ _ (entry [.a [.vz ag dB,.vz ag eK]] []) _
 refine⟨aa,fun w1=>?_,fun w2=>⟨fun w3=>?_,fun w4=>?_⟩⟩
 all_goals first|refine aw ?_|refine ax ?_|exact ba|(dsimp only [dE,gX];omega)|(dsimp only [o7,sk];omega)|exact a8|skip
 ·refine⟨[],[],_,_,_,rfl,az,(),aa,?_,?_,rfl⟩
  ·(show _=cW (dB,eK));unfold cW;first|(rw [OC (p:=(dB,eK)) w1];rfl)|rfl
  ·rfl
 ·refine⟨[],[],_,_,_,rfl,az,(),aa,?_,?_,rfl⟩
  ·(show _=cW (dB,eK));unfold cW;first|(rw [OB (p:=(dB,eK)) w3];rfl)|rfl
  ·rfl
 ·have l1:dB.length=64:=by have:=aA w2;omega
  have l2:eK.length=64:=by have:=aA w4;omega
  have hE:=VH (p:=(dB,eK)) w2 w4
  refine cO (l:=[(24,dE),(55,o7)]) (ex:=fun _=>true) (wr:=fun _=>false) (pt:=fun _=>false) ⟨iA,zS,trivial⟩ [.s 1,.b 1001] (fun i:Nat=>[(.s 3,.int i)]) (fun i=>i≤64∧∀j,j<i→xF dB eK j=true) (fun i=>64-i) 0 [] ⟨ZA8 _,fun j hj=>absurd hj (by omega)⟩ dN ?_
  rintro i ⟨(hi:i≤64),hj⟩
  have cr:decide ((i:Int)<64)=true→i<64:=fun h=>by have:=aE h;omega
  have bU:∀l:List Int,l.length=64→decide ((i:Int)<64)=true→(i:Int)<(l.length:Int):=fun l hl h=>by rw [hl];exact aE h
  have iD:i<64→xF dB eK i=false→rK (dB,eK)=false:=fun h h2=>by rw [hE];exact UN h h2
  have hgo:xF dB eK i=true→∀j,j<i+1→xF dB eK j=true:=fun h j yU=>by
   by_cases e:j=i
   ·rw [e];exact h
   ·exact hj j (by omega)
  refine⟨fun w1=>⟨[.s 1],[.s 18],rfl,[.s 18,.b 1001],[.s 19],rfl,[.s 3],[.s 20],rfl,[.s 19,.s 20],[.s 21],rfl,⟨?_,?_⟩,[.s 21],[.s 22],rfl,[.s 22],[.s 23],rfl,⟨⟨aa,aa,aa,aa⟩,aa⟩,?_,fun x2 w3=>⟨[.s 23],[.s 24],rfl,[.s 24],[.s 25],rfl,aa,fun w4=>⟨[.s 25],[.s 26],rfl,[.s 25],[.s 27],rfl,[.s 25],[.s 28],rfl,[.s 25],[.s 29],rfl,[.s 25],[.s 30],rfl,[.s 25],[.s 31],rfl,[.s 25],[.s 32],rfl,[.s 25],[.s 33],rfl,[.s 25],[.s 34],rfl,[.s 25],[.s 35],rfl,[.s 25],[.s 36],rfl,[.s 25],[.s 37],rfl,[.s 25,.s 37],[.s 38],rfl,[.s 38],[.s 39],rfl,[.s 39],[.s 40],rfl,[.s 39],[.s 41],rfl,[.s 39],[.s 42],rfl,[.s 39],[.s 43],rfl,[.s 39],[.s 44],rfl,[.s 39],[.s 45],rfl,[.s 39],[.s 46],rfl,[.s 46],[.s 47],rfl,[.s 46],[.s 48],rfl,[.s 46],[.s 49],rfl,[.s 46],[.s 50],rfl,[.s 46],[.s 51],rfl,[.s 46],[.s 52],rfl,[.s 39],[.s 53],rfl,[.s 39,.s 53],[.s 54],rfl,[.s 54],[.s 55],rfl,[.s 55],[.s 56],rfl,[.s 55],[.s 57],rfl,[.s 55],[.s 58],rfl,[.s 55],[.s 59],rfl,[.s 59],[.s 60],rfl,[.s 59],[.s 61],rfl,[.s 59],[.s 62],rfl,[.s 59],[.s 63],rfl,[.s 59],[.s 64],rfl,[.s 59],[.s 65],rfl,[.s 55],[.s 66],rfl,[.s 55,.s 66],[.s 67],rfl,?_⟩,fun w5=>⟨[.s 25,.s 1],[.s 26],rfl,[.s 25,.s 26,.b 1001],[.s 27],rfl,[.s 25,.s 3],[.s 28],rfl,[.s 25,.s 27,.s 28],[.s 29],rfl,⟨?_,?_⟩,[.s 25,.s 29],[.s 30],rfl,[.s 25,.s 1],[.s 31],rfl,[.s 25,.s 31,.b 1001],[.s 32],rfl,[.s 25,.s 3],[.s 33],rfl,[.s 25,.s 32,.s 33],[.s 34],rfl,⟨?_,?_⟩,[.s 25,.s 34],[.s 35],rfl,[.s 25,.s 30,.s 35],[.s 36],rfl,⟨⟨aa,aa,aa,aa⟩,aa⟩,?_,fun x6 w7=>⟨[.s 25,.s 36],[.s 37],rfl,[.s 25,.s 37],[.s 38],rfl,[.s 38],[.s 39],rfl,aa,fun w8=>⟨[.s 39],[.s 40],rfl,[.s 39],[.s 41],rfl,[.s 39],[.s 42],rfl,[.s 39],[.s 43],rfl,[.s 39],[.s 44],rfl,[.s 39],[.s 45],rfl,[.s 39],[.s 46],rfl,[.s 46],[.s 47],rfl,[.s 46],[.s 48],rfl,[.s 46],[.s 49],rfl,[.s 46],[.s 50],rfl,[.s 46],[.s 51],rfl,[.s 46],[.s 52],rfl,[.s 39],[.s 53],rfl,[.s 39,.s 53],[.s 54],rfl,[.s 54],[.s 55],rfl,[.s 55],[.s 56],rfl,[.s 55],[.s 57],rfl,[.s 55],[.s 58],rfl,[.s 55],[.s 59],rfl,[.s 59],[.s 60],rfl,[.s 59],[.s 61],rfl,[.s 59],[.s 62],rfl,[.s 59],[.s 63],rfl,[.s 59],[.s 64],rfl,[.s 59],[.s 65],rfl,[.s 55],[.s 66],rfl,[.s 55,.s 66],[.s 67],rfl,?_⟩,fun w9=>⟨[.s 39,.s 1],[.s 40],rfl,[.s 39,.s 40,.b 1001],[.s 41],rfl,[.s 39,.s 3],[.s 42],rfl,[.s 39,.s 41,.s 42],[.s 43],rfl,⟨?_,?_⟩,[.s 39,.s 43],[.s 44],rfl,[.s 39,.s 44],[.s 45],rfl,[.s 39,.s 45],[.s 46],rfl,aa,fun dq=>⟨[.s 46,.s 1],[.s 47],rfl,[.s 46,.s 47,.b 1001],[.s 48],rfl,[.s 46,.s 3],[.s 49],rfl,[.s 46,.s 48,.s 49],[.s 50],rfl,⟨?_,?_⟩,[.s 46,.s 50],[.s 51],rfl,[.s 46,.s 51],[.s 52],rfl,[.s 39,.s 46,.s 52],[.s 53],rfl,[.s 39,.s 53],[.s 54],rfl,[.s 54],[.s 55],rfl,aa,fun kk=>⟨[.s 55],[.s 56],rfl,[.s 55],[.s 57],rfl,[.s 55],[.s 58],rfl,[.s 55],[.s 59],rfl,[.s 59],[.s 60],rfl,[.s 59],[.s 61],rfl,[.s 59],[.s 62],rfl,[.s 59],[.s 63],rfl,[.s 59],[.s 64],rfl,[.s 59],[.s 65],rfl,[.s 55],[.s 66],rfl,[.s 55,.s 66],[.s 67],rfl,?_⟩,fun dI=>⟨[.s 55,.s 3],[.s 56],rfl,[.s 55,.s 56],[.s 57],rfl,⟨⟨aa,aa⟩,aa⟩,?_,fun r4 gI=>⟨[.s 55,.s 57],[.s 58],rfl,[.s 55,.s 58],[.s 59],rfl,aa,fun pe=>⟨[.s 59,.s 1],[.s 60],rfl,[.s 59,.s 60,.b 1001],[.s 61],rfl,[.s 59,.s 3],[.s 62],rfl,[.s 59,.s 61,.s 62],[.s 63],rfl,⟨?_,?_⟩,[.s 59,.s 63],[.s 64],rfl,[.s 59,.s 64],[.s 65],rfl,[.s 55,.s 59,.s 65],[.s 66],rfl,[.s 55,.s 66],[.s 67],rfl,fun kj=>?_,fun wC=>⟨⟨?_,?_⟩,?_⟩⟩,fun qX=>⟨[.s 59],[.s 60],rfl,[.s 59],[.s 61],rfl,[.s 59],[.s 62],rfl,[.s 59],[.s 63],rfl,[.s 59],[.s 64],rfl,[.s 59],[.s 65],rfl,[.s 55,.s 59,.s 65],[.s 66],rfl,[.s 55,.s 66],[.s 67],rfl,⟨?_,?_⟩,?_⟩⟩⟩⟩,fun oB=>⟨[.s 46],[.s 47],rfl,[.s 46],[.s 48],rfl,[.s 46],[.s 49],rfl,[.s 46],[.s 50],rfl,[.s 46],[.s 51],rfl,[.s 46],[.s 52],rfl,[.s 39,.s 46,.s 52],[.s 53],rfl,[.s 39,.s 53],[.s 54],rfl,[.s 54],[.s 55],rfl,[.s 55,.s 3],[.s 56],rfl,[.s 55,.s 56],[.s 57],rfl,⟨⟨aa,aa⟩,aa⟩,?_,fun x20 zm=>⟨[.s 55,.s 57],[.s 58],rfl,[.s 55,.s 58],[.s 59],rfl,aa,fun zl=>⟨[.s 59,.s 1],[.s 60],rfl,[.s 59,.s 60,.b 1001],[.s 61],rfl,[.s 59,.s 3],[.s 62],rfl,[.s 59,.s 61,.s 62],[.s 63],rfl,⟨?_,?_⟩,[.s 59,.s 63],[.s 64],rfl,[.s 59,.s 64],[.s 65],rfl,[.s 55,.s 59,.s 65],[.s 66],rfl,[.s 55,.s 66],[.s 67],rfl,fun xD=>?_,fun rG=>⟨⟨?_,?_⟩,?_⟩⟩,fun w25=>⟨[.s 59],[.s 60],rfl,[.s 59],[.s 61],rfl,[.s 59],[.s 62],rfl,[.s 59],[.s 63],rfl,[.s 59],[.s 64],rfl,[.s 59],[.s 65],rfl,[.s 55,.s 59,.s 65],[.s 66],rfl,[.s 55,.s 66],[.s 67],rfl,⟨?_,?_⟩,?_⟩⟩⟩⟩⟩⟩⟩⟩,fun E1=>?_⟩
  all_goals first|refine aw ?_|refine ax ?_|exact ba|(dsimp only [dE,gX];omega)|(dsimp only [o7,sk];omega)|exact a8|exact bU _ l1 w1|exact bU _ l2 w1|skip
  ·refine⟨[],[],_,_,_,rfl,az,(),aa,?_,?_,rfl⟩
   ·(show _=cW (dB,eK));unfold cW;first|(rw [iD (cr w1) (ai4 w4)];rfl)|rfl
   ·rfl
  ·refine⟨[],[],_,_,_,rfl,az,(),aa,?_,?_,rfl⟩
   ·(show _=cW (dB,eK));unfold cW;first|(rw [iD (cr w1) (ai3 w8)];rfl)|rfl
   ·rfl
  ·refine⟨[],[],_,_,_,rfl,az,(),aa,?_,?_,rfl⟩
   ·(show _=cW (dB,eK));unfold cW;first|(rw [iD (cr w1) (ag0 dq kk)];rfl)|rfl
   ·rfl
  ·refine⟨[],[],_,_,_,rfl,az,(),aa,?_,?_,rfl⟩
   ·(show _=cW (dB,eK));unfold cW;first|(rw [iD (cr w1) (agZ (cr w1) pe kj)];rfl)|rfl
   ·rfl
  ·refine⟨(i+1),[],?_,?_,?_⟩
   rotate_right
   ·exact bX
   ·exact⟨cr w1,hgo (ZE w5 w9 (.inr dI) (.inr wC))⟩
   ·show 64-(i+1)<64-i;have:=cr w1;omega
  ·refine⟨(i+1),[],?_,?_,?_⟩
   rotate_right
   ·exact bX
   ·exact⟨cr w1,hgo (ZE w5 w9 (.inr dI) (.inl qX))⟩
   ·show 64-(i+1)<64-i;have:=cr w1;omega
  ·refine⟨[],[],_,_,_,rfl,az,(),aa,?_,?_,rfl⟩
   ·(show _=cW (dB,eK));unfold cW;first|(rw [iD (cr w1) (agZ (cr w1) zl xD)];rfl)|rfl
   ·rfl
  ·refine⟨(i+1),[],?_,?_,?_⟩
   rotate_right
   ·exact bX
   ·exact⟨cr w1,hgo (ZE w5 w9 (.inl oB) (.inr rG))⟩
   ·show 64-(i+1)<64-i;have:=cr w1;omega
  ·refine⟨(i+1),[],?_,?_,?_⟩
   rotate_right
   ·exact bX
   ·exact⟨cr w1,hgo (ZE w5 w9 (.inl oB) (.inl w25))⟩
   ·show 64-(i+1)<64-i;have:=cr w1;omega
  ·have e:rK (dB,eK)=true:=by rw [hE];exact NJ fun j yU=>hj j (by have:=aA E1;omega)
   refine⟨[],[],_,_,_,rfl,az,(),aa,?_,?_,rfl⟩
   ·(show _=cW (dB,eK));unfold cW;first|(rw [e];rfl)|rfl
   ·rfl
end GL
end Go.Proofs.YtbfgjadbfjkcdaaGreatDoor
