/- FnTreeOk returns true for every code (its row lists package variables, tied by the card): part 14 of 39. -/
import Derived.Test.YtbfgjadbfjkcdaaGreatDoorPam
set_option maxHeartbeats 20000000
set_option linter.all false
namespace Go.Proofs.YtbfgjadbfjkcdaaGreatDoor
namespace GL
theorem L6 {s:ByteArray}:∀(f k:Nat),(∀j,j < k→C5 s j=true)→(∀j,j < sr f s k→C5 s j=true)∧sr f s k≤k+f
 |0,k,h=>⟨h,Nat.le_refl _⟩
 |f+1,k,h=>by
  unfold sr
  cases hd:C5 s k with
  |true=>
   have:=L6 (s:=s) f (k+1) (fun j hj=>by
    by_cases e:j=k
    ·rw [e];exact hd
    ·exact h j (by omega))
   exact ⟨this.1,Nat.le_trans this.2 (by omega)⟩
  |false=>exact ⟨h,Nat.le_add_right _ _⟩
theorem ae5 {s:ByteArray} {k:Nat} (h:C5 s k=true):k < s.size∧48≤bG s k∧bG s k≤57:=by
 unfold C5 at h
 simp only [Bool.and_eq_true,decide_eq_true_eq] at h
 omega
theorem SQ {s:ByteArray}:∀(k:Nat),(∀j,j < k→C5 s j=true)→0≤iG s k∧iG s k < (10:Int) ^ k
 |0,_=>⟨Int.le_refl _,by show (0:Int) < 1;omega⟩
 |k+1,h=>by
  have h1:=SQ k (fun j hj=>h j (by omega))
  have h2:=ae5 (h k (by omega))
  rw [Int.pow_succ]
  show 0≤10 * iG s k+(bG s k - 48)∧10 * iG s k+(bG s k - 48) < _
  omega
theorem abJ (s:ByteArray):cR s≤9∧cR s≤s.size∧(0≤iG s (cR s)∧iG s (cR s)≤999999999):=by
 have h:=L6 (s:=s) 9 0 (fun j hj=>absurd hj (by omega))
 have hn:sr 9 s 0=cR s:=rfl
 rw [hn] at h
 have h1:cR s≤9:=by omega
 have h2:=SQ _ h.1
 have h3:(10:Int) ^ cR s≤10 ^ 9:=by exact_mod_cast Nat.pow_le_pow_right (by omega) h1
 refine ⟨h1,?_,h2.1,by omega⟩
 by_cases e:cR s=0
 ·omega
 ·have:=ae5 (h.1 (cR s - 1) (by omega));omega
theorem ahK (s:ByteArray):(0≤(CI s).1∧(CI s).1≤999999999)∧(0≤(CI s).2∧(CI s).2≤9)∧(CI s).2≤s.size:=by
 have h:=abJ s
 unfold CI
 cases hc:decide ((cR s:Int) > 1)&&decide (bG s 0=48) with
 |true=>
  simp only [Bool.and_eq_true,decide_eq_true_eq] at hc
  show (0≤(0:Int)∧(0:Int)≤999999999)∧(0≤(1:Int)∧(1:Int)≤9)∧(1:Int)≤s.size
  omega
 |false=>
  show (0≤iG s (cR s)∧iG s (cR s)≤999999999)∧(0≤(cR s:Int)∧(cR s:Int)≤9)∧(cR s:Int)≤s.size
  omega
def qh (s:ByteArray) (i:Int) (r:Int×Int):Bool:=
 decide (r.2=0)||(decide (i+r.2≥s.size)||(decide (bG s (i+r.2).toNat≠58)||decide (r.1 > s.size - i - r.2 - 1)))
abbrev tO (s:ByteArray) (i:Int):Int×Int:=CI (s.extract i.toNat s.size)
def JA:Nat→ByteArray→Int→List ByteArray→Option (List ByteArray)
 |0,_,_,_=>none
 |f+1,s,i,out=>bif decide (i < s.size) then
   (bif qh s i (tO s i) then none else
    JA f s (i+(tO s i).2+1+(tO s i).1) (out++[s.extract (i+(tO s i).2+1).toNat (i+(tO s i).2+1+(tO s i).1).toNat]))
  else some out
theorem D7 {f:Nat} {s:ByteArray} {i:Int} {out:List ByteArray} (h:decide (i < s.size)=true) (hb:qh s i (tO s i)=true):JA (f+1) s i out=none:=by rw [JA,h,hb];rfl
theorem ag9 {f:Nat} {s:ByteArray} {i:Int} {out:List ByteArray} (h:decide (i < s.size)=true) (hb:qh s i (tO s i)=false):JA (f+1) s i out=JA f s (i+(tO s i).2+1+(tO s i).1) (out++[s.extract (i+(tO s i).2+1).toNat (i+(tO s i).2+1+(tO s i).1).toNat]):=by rw [JA,h,hb];rfl
theorem aeM {f:Nat} {s:ByteArray} {i:Int} {out:List ByteArray} (h:decide (i < s.size)=false):JA (f+1) s i out=some out:=by rw [JA,h];rfl
theorem aam {s:ByteArray} {i:Int} {r:Int×Int} (h:decide (r.2=0)=true):qh s i r=true:=by unfold qh;rw [h];rfl
theorem aal {s:ByteArray} {i:Int} {r:Int×Int} (h:decide (i+r.2≥s.size)=true):qh s i r=true:=by unfold qh;rw [h,Bool.true_or,Bool.or_true]
theorem aak {s:ByteArray} {i:Int} {r:Int×Int} (h:decide (bG s (i+r.2).toNat≠58)=true):qh s i r=true:=by unfold qh;rw [h,Bool.true_or,Bool.or_true,Bool.or_true]
theorem aaj {s:ByteArray} {i:Int} {r:Int×Int} (h:decide (r.1 > s.size - i - r.2 - 1)=true):qh s i r=true:=by unfold qh;rw [h,Bool.or_true,Bool.or_true,Bool.or_true]
theorem aan {s:ByteArray} {i:Int} {r:Int×Int} (h1:decide (r.2=0)=false) (h2:decide (i+r.2≥s.size)=false) (h3:decide (bG s (i+r.2).toNat≠58)=false) (h4:decide (r.1 > s.size - i - r.2 - 1)=false):qh s i r=false:=by unfold qh;rw [h1,h2,h3,h4];rfl
def vK (s:ByteArray) (out:List ByteArray):List ByteArray×Bool:=bif !(cz out).2||decide ((cz out).1≠s) then ([],false) else (out,true)
def bh (s:ByteArray):List ByteArray×Bool:=
 bif decide ((s.size:Int)≤2048) then (match JA (s.size+1) s 0 [] with
  |none=>([],false)
  |some out=>vK s out) else ([],false)
theorem gw {s:ByteArray} (h:decide ((s.size:Int)≤2048)=true) (h2:JA (s.size+1) s 0 []=none):bh s=([],false):=by unfold bh;rw [h,h2];rfl
theorem jO {s:ByteArray} {out:List ByteArray} (h:decide ((s.size:Int)≤2048)=true) (h2:JA (s.size+1) s 0 []=some out):bh s=vK s out:=by unfold bh;rw [h,h2];rfl
theorem oO {s:ByteArray} (h:decide ((s.size:Int)≤2048)=false):bh s=([],false):=by unfold bh;rw [h];rfl
theorem aah {s:ByteArray} {out:List ByteArray} (h:(!(cz out).2)=true):vK s out=([],false):=by unfold vK;rw [h];rfl
theorem aag {s:ByteArray} {out:List ByteArray} (h:decide ((cz out).1≠s)=true):vK s out=([],false):=by unfold vK;rw [h,Bool.or_true];rfl
theorem aaf {s:ByteArray} {out:List ByteArray} (h:(!(cz out).2)=false) (h2:decide ((cz out).1≠s)=false):vK s out=(out,true):=by unfold vK;rw [h,h2];rfl
def ns (s:ByteArray):Prop:=s.size≤1000000
def bU (s:ByteArray):AV:=.t [.s (.xs 0 1 0 (bh s).1.length), .s (.q (bh s).2)]
def cj (s:ByteArray):List AV:=[.rs aa (bh s).1]
def vY:Con where
 A:=[.s .str]
 B:=[]
 pre:=fun x b=>ns x
 α:=fun _ _=>Unit
 φ:=fun _ _ _=>True
 r:=fun x b _=>bU x
 o:=fun x b _=>cj x
 nf:=1
set_option maxRecDepth 100000 in
theorem TQ:Has Tryz.prog 73 vY:=by
 refine Has.ofE (fun _=>true) (fun _=>false) (fun _=>false) (l:=[(113,tX),(114,jz)]) ⟨PD,vC,trivial⟩ (fn:=Tryz.f73) Tryz.func73 rfl (by decide) (cH rfl) ?_
 rintro (s:ByteArray) _ (hp:ns s)
 show vc _ _ _ _ (entry [.str s] []) _
 unfold ns at hp
 refine ⟨tv,?_⟩
 all_goals first|refine au ?_|refine aw ?_|exact sa|(dsimp only [tX,k6];omega)|(dsimp only [jz,ki];omega)|exact sb|skip
 refine cI (l:=[(113,tX),(114,jz)]) (ex:=fun _=>true) (wr:=fun _=>false) (pt:=fun _=>false) ⟨PD,vC,trivial⟩ [.s 0] (fun y:Int×List ByteArray×Nat=>[(.s 4, .s (.xs 1010 1 0 y.2.1.length)),(.s 5, .int y.1),(.b 1010, .rs aa y.2.1)]) (fun y=>(0≤y.1∧y.1≤s.size)∧(y.2.1.length:Int)≤y.1∧(s.size:Int) < y.1+y.2.2∧(s.size≤2048→JA y.2.2 s y.1 y.2.1=JA (s.size+1) s 0 [])∧(2048 < s.size→y.1=0∧y.2.1=[])) (fun y=>(s.size - y.1).toNat) (0,[],s.size+1) [] ⟨⟨Int.le_refl _,by show (0:Int)≤s.size;omega⟩,Int.le_refl _,by show (s.size:Int) < 0+(s.size+1:Nat);omega,fun _=>rfl,fun _=>⟨rfl,rfl⟩⟩ ru ?_
 rintro ⟨i,out,f⟩ ⟨⟨(hi0:0≤i),(hi:i≤s.size)⟩,(hl:(out.length:Int)≤i),(hf:(s.size:Int) < i+f),(hr:s.size≤2048→JA f s i out=JA (s.size+1) s 0 []),(h0:2048 < s.size→i=0∧out=[])⟩
 have hb:=ahK (s.extract i.toNat s.size)
 rw [ByteArray.size_extract] at hb
 have h48:decide ((s.size:Int)≤2048)=true→s.size≤2048:=fun h=>by have:=cw h;omega
 obtain ⟨g,rfl⟩:∃g,f=g+1:=⟨f - 1,by omega⟩
 refine ⟨tv,fun w1=>⟨fun w2=>⟨⟨?_,?_,?_⟩,⟨⟨tv,tv⟩,?_⟩,fun x3 w4=>⟨tv,fun w5=>⟨tv,?_⟩,fun w6=>⟨⟨?_,?_⟩,tv,fun w7=>⟨tv,?_⟩,fun w8=>⟨⟨?_,?_⟩,⟨?_,?_⟩,tv,fun w9=>⟨tv,?_⟩,fun df=>⟨⟨?_,?_⟩,⟨?_,?_⟩,⟨?_,?_⟩,fun ka=>⟨tv,?_⟩,fun dC=>⟨⟨?_,?_⟩,⟨?_,?_⟩,⟨?_,?_⟩,⟨?_,?_⟩,⟨?_,?_⟩,⟨?_,?_,?_⟩,tv,⟨⟨?_,?_⟩,?_,?_⟩,⟨?_,?_⟩,⟨?_,?_⟩,⟨?_,?_⟩,?_⟩⟩⟩⟩⟩⟩,fun iA=>⟨⟨⟨⟨?_,?_⟩,tv⟩,tv⟩,fun x14 oU=>⟨tv,fun j9=>⟨tv,?_⟩,fun wu=>⟨fun qI=>⟨tv,?_⟩,fun ot=>?_⟩⟩⟩⟩,fun um=>⟨⟨⟨⟨?_,?_⟩,tv⟩,tv⟩,fun x21 zf=>⟨tv,fun xv=>⟨tv,?_⟩,fun rl=>⟨fun w25=>⟨tv,?_⟩,fun EL=>?_⟩⟩⟩⟩
 all_goals first|refine au ?_|refine aw ?_|exact sa|(dsimp only [tX,k6];omega)|(dsimp only [jz,ki];omega)|exact sb|(show k6 (s.extract i.toNat s.size);unfold k6;rw [ByteArray.size_extract];omega)|skip
 ·refine ⟨[1056],[],_,_,_,rfl,rp,(),tv,?_,?_,rfl⟩
  ·(show _=bU s);unfold bU;first |(rw [gw w2 (by rw [←hr (h48 w2),D7 w1 (aam w5)])];rfl) |rfl
  ·(show _=cj s);unfold cj;first |(rw [gw w2 (by rw [←hr (h48 w2),D7 w1 (aam w5)])];rfl) |rfl
 ·refine ⟨[1056],[],_,_,_,rfl,rp,(),tv,?_,?_,rfl⟩
  ·(show _=bU s);unfold bU;first |(rw [gw w2 (by rw [←hr (h48 w2),D7 w1 (aal w7)])];rfl) |rfl
  ·(show _=cj s);unfold cj;first |(rw [gw w2 (by rw [←hr (h48 w2),D7 w1 (aal w7)])];rfl) |rfl
 ·refine ⟨[1056],[],_,_,_,rfl,rp,(),tv,?_,?_,rfl⟩
  ·(show _=bU s);unfold bU;first |(rw [gw w2 (by rw [←hr (h48 w2),D7 w1 (aak w9)])];rfl) |rfl
  ·(show _=cj s);unfold cj;first |(rw [gw w2 (by rw [←hr (h48 w2),D7 w1 (aak w9)])];rfl) |rfl
 ·refine ⟨[1056],[],_,_,_,rfl,rp,(),tv,?_,?_,rfl⟩
  ·(show _=bU s);unfold bU;first |(rw [gw w2 (by rw [←hr (h48 w2),D7 w1 (aaj ka)])];rfl) |rfl
  ·(show _=cj s);unfold cj;first |(rw [gw w2 (by rw [←hr (h48 w2),D7 w1 (aaj ka)])];rfl) |rfl
 ·have h5:¬((tO s i).2=0):=ca w6
  have h6:¬(i+(tO s i).2≥s.size):=ca w8
  have h7:¬((tO s i).1 > s.size - i - (tO s i).2 - 1):=ca dC
  have h8:s.size≤2048:=h48 w2
  have hb:(0≤(tO s i).1∧(tO s i).1≤999999999)∧(0≤(tO s i).2∧(tO s i).2≤9)∧_:=hb
  refine ⟨(i+(tO s i).2+1+(tO s i).1,out++[s.extract (i+(tO s i).2+1).toNat (i+(tO s i).2+1+(tO s i).1).toNat],g),[(1010,1071)],?_,?_,?_⟩
  rotate_right
  ·exact rq
  ·refine ⟨⟨?_,?_⟩,?_,?_,fun h=>?_,fun h=>absurd h8 (by omega)⟩
   ·show 0≤i+(tO s i).2+1+(tO s i).1;omega
   ·show i+(tO s i).2+1+(tO s i).1≤_;omega
   ·show ((List.length (_++_):Nat):Int)≤i+(tO s i).2+1+(tO s i).1;rw [List.length_append];show ((out.length+1:Nat):Int)≤_;omega
   ·show (s.size:Int) < i+(tO s i).2+1+(tO s i).1+(g:Int);omega
   ·rw [←hr h,ag9 w1 (aan w6 w8 df dC)]
  ·show (s.size - (i+(tO s i).2+1+(tO s i).1)).toNat < (s.size - i).toNat;omega
 ·obtain ⟨rfl,rfl⟩:=h0 (by have:=ca iA;omega)
  refine ⟨[1090],[],_,_,_,rfl,rp,(),tv,?_,?_,rfl⟩
  ·(show _=bU s);unfold bU;first |(rw [oO iA];rfl) |rfl
  ·(show _=cj s);unfold cj;first |(rw [oO iA];rfl) |rfl
 ·obtain ⟨rfl,rfl⟩:=h0 (by have:=ca iA;omega)
  refine ⟨[1090],[],_,_,_,rfl,rp,(),tv,?_,?_,rfl⟩
  ·(show _=bU s);unfold bU;first |(rw [oO iA];rfl) |rfl
  ·(show _=cj s);unfold cj;first |(rw [oO iA];rfl) |rfl
 ·obtain ⟨rfl,rfl⟩:=h0 (by have:=ca iA;omega)
  have h9:¬((⟨#[]⟩:ByteArray)≠s):=ca ot
  have h10:(⟨#[]⟩:ByteArray)=s:=Decidable.not_not.1 h9
  have h11:¬((s.size:Int)≤2048):=ca iA
  exact absurd (show ((s.size:Nat):Int)≤2048 by rw [←h10];show (0:Int)≤2048;omega) h11
 all_goals
  have h13:¬(i < (s.size:Int)):=ca um
  have h14:JA (g+1) s i out=some out:=aeM um
  have xF:decide ((s.size:Int)≤2048)=true:=by
   cases hh:decide ((s.size:Int)≤2048) with
   |true=>rfl
   |false=>
    have h16:=ca hh
    obtain ⟨rfl,_⟩:=h0 (by omega)
    omega
  have e:JA (s.size+1) s 0 []=some out:=by rw [←hr (h48 xF),h14]
 ·refine ⟨[1090],[],_,_,_,rfl,rp,(),tv,?_,?_,rfl⟩
  ·(show _=bU s);unfold bU;first |(rw [jO xF e,aah (out:=out) xv];rfl) |rfl
  ·(show _=cj s);unfold cj;first |(rw [jO xF e,aah (out:=out) xv];rfl) |rfl
 ·refine ⟨[1090],[],_,_,_,rfl,rp,(),tv,?_,?_,rfl⟩
  ·(show _=bU s);unfold bU;first |(rw [jO xF e,aag (out:=out) w25];rfl) |rfl
  ·(show _=cj s);unfold cj;first |(rw [jO xF e,aag (out:=out) w25];rfl) |rfl
 ·refine ⟨[1010],[],_,_,_,rfl,rp,(),tv,?_,?_,rfl⟩
  ·(show _=bU s);unfold bU;first |(rw [jO xF e,aaf (out:=out) rl EL];rfl) |rfl
  ·(show _=cj s);unfold cj;first |(rw [jO xF e,aaf (out:=out) rl EL];rfl) |rfl
def mR (w:List ByteArray):fl:=
 ((aA (nth aa w 0)).1,(aA (nth aa w 1)).1,(aA (nth aa w 2)).1,
   (bJ (nth aa w 3)).1.1,(bJ (nth aa w 3)).1.2.1,(bJ (nth aa w 3)).1.2.2.1,(bJ (nth aa w 3)).1.2.2.2.1,(bJ (nth aa w 3)).1.2.2.2.2,
   (aA (nth aa w 4)).1,(aA (nth aa w 5)).1)
def nz:fl:=(0,0,0,0,0,0,0,0,0,0)
def bm (s:ByteArray):fl×Bool:=
 bif !(bh s).2||(decide (((bh s).1.length:Int)≠7)||(!(cm (mR (bh s).1))||decide (az (mR (bh s).1)≠s))) then (nz,false) else (mR (bh s).1,true)
theorem yA {s:ByteArray} (h:(!(bh s).2)=true):bm s=(nz,false):=by unfold bm;rw [h];rfl
theorem tA {s:ByteArray} (h:decide (((bh s).1.length:Int)≠7)=true):bm s=(nz,false):=by unfold bm;rw [h,Bool.true_or,Bool.or_true];rfl
theorem yz {s:ByteArray} (h:(!(cm (mR (bh s).1)))=true):bm s=(nz,false):=by unfold bm;rw [h,Bool.true_or,Bool.or_true,Bool.or_true];rfl
theorem yy {s:ByteArray} (h:decide (az (mR (bh s).1)≠s)=true):bm s=(nz,false):=by unfold bm;rw [h,Bool.or_true,Bool.or_true,Bool.or_true];rfl
theorem yB {s:ByteArray} (h1:(!(bh s).2)=false) (h2:decide (((bh s).1.length:Int)≠7)=false) (h3:(!(cm (mR (bh s).1)))=false) (h4:decide (az (mR (bh s).1)≠s)=false):bm s=(mR (bh s).1,true):=by unfold bm;rw [h1,h2,h3,h4];rfl
def ndA (n:fl):A0:=.a (EK.AU oS n)
theorem aeL {s:ByteArray}:∀ {f:Nat} {i:Int} {out r:List ByteArray},JA f s i out=some r→(∀x∈out,x.size≤s.size)→∀x∈r,x.size≤s.size
 |0,_,_,_,h,_=>by cases h
 |f+1,i,out,r,h,ho=>by
  unfold JA at h
  cases hc:decide (i < (s.size:Int)) with
  |true=>
   rw [hc,cond_true] at h
   cases hb:qh s i (tO s i) with
   |true=>rw [hb] at h;cases h
   |false=>
    rw [hb,cond_false] at h
    refine aeL h fun x hx=>?_
    rcases List.mem_append.1 hx with hx |hx
    ·exact ho x hx
    ·simp only [List.mem_cons,List.not_mem_nil,or_false] at hx
     subst hx
     rw [ByteArray.size_extract];omega
  |false=>rw [hc] at h;cases h;exact ho
theorem K4 {s:ByteArray}:∀x∈(bh s).1,x.size≤s.size:=by
 intro x hx
 unfold bh at hx
 cases hc:decide ((s.size:Int)≤2048) with
 |true=>
  rw [hc,cond_true] at hx
  cases hr:JA (s.size+1) s 0 [] with
  |none=>rw [hr] at hx;cases hx
  |some out=>
   rw [hr] at hx
   have ho:=aeL hr (fun _ h=>by cases h)
   unfold vK at hx
   cases hd: !(cz out).2||decide ((cz out).1≠s) with
   |true=>simp only [hd,cond_true] at hx;cases hx
   |false=>simp only [hd,cond_false] at hx;exact ho x hx
 |false=>rw [hc] at hx;cases hx
def ld (s:ByteArray):Prop:=s.size≤1000000
def eW (s:ByteArray):AV:=.t [ndA (bm s).1, .s (.q (bm s).2)]
def WX (s:ByteArray):List AV:=[]
def ng:Con where
 A:=[.s .str]
 B:=[]
 pre:=fun x b=>ld x
 α:=fun _ _=>Unit
 φ:=fun _ _ _=>True
 r:=fun x b _=>eW x
 o:=fun x b _=>WX x
 nf:=0
set_option maxRecDepth 100000 in
theorem CN:Has Tryz.prog 46 ng:=by
 refine Has.ofE (fun _=>true) (fun _=>false) (fun _=>false) (l:=[(73,vY),(74,jy),(75,qs),(76,qu),(77,sK)]) ⟨TQ,vB,IM,IP,ML,trivial⟩ (fn:=Tryz.f46) Tryz.func46 rfl (by decide) (cH rfl) ?_
 rintro (s:ByteArray) _ (hp:ld s)
 show vc _ _ _ _ (entry [.str s] []) _
 unfold ld at hp
 have db:∀k,(nth aa (bh s).1 k).size≤1000000:=fun k=>by
  by_cases h:k < (bh s).1.length
  ·exact Nat.le_trans (K4 _ (bS (ek:=aa) h)) hp
  ·unfold nth;rw [List.getElem?_eq_none (by omega)];exact Nat.zero_le _
 have agb:∀k,gB (nth aa (bh s).1 k):=fun k=>by unfold gB;have:=db k;omega
 refine ⟨⟨⟨tv,tv⟩,?_⟩,fun x1 w2=>⟨tv,fun w3=>?_,fun w4=>⟨fun w5=>?_,fun w6=>⟨⟨?_,?_⟩,?_,⟨⟨tv,tv⟩,?_⟩,fun x7 w8=>⟨⟨?_,?_⟩,?_,⟨⟨tv,tv⟩,?_⟩,fun x9 df=>⟨⟨?_,?_⟩,?_,⟨⟨tv,tv⟩,?_⟩,fun kx dC=>⟨⟨?_,?_⟩,?_,⟨⟨tv,tv⟩,?_⟩,fun rP gx=>⟨⟨?_,?_⟩,?_,⟨⟨tv,tv⟩,?_⟩,fun ku j9=>⟨⟨?_,?_⟩,?_,⟨⟨tv,tv⟩,?_⟩,fun x17 qI=>⟨⟨⟨⟨tv,tv,tv,tv,tv,tv,tv,tv,tv,tv,tv⟩,tv⟩,tv⟩,fun x19 um=>⟨tv,fun zg=>?_,fun zf=>⟨⟨⟨⟨tv,tv,tv,tv,tv,tv,tv,tv,tv,tv,tv⟩,tv⟩,tv⟩,fun x23 rl=>⟨fun w25=>?_,fun EL=>?_⟩⟩⟩⟩⟩⟩⟩⟩⟩⟩⟩⟩⟩
 all_goals first|refine au ?_|refine aw ?_|exact sa|(dsimp only [vY,ns];omega)|(dsimp only [jy,gB];omega)|(dsimp only [qs,mM];omega)|(dsimp only [qu,pY];omega)|(dsimp only [sK,qU];omega)|exact sb|exact db _|exact agb _|skip
 ·refine ⟨[],[],_,_,_,rfl,rp,(),tv,?_,?_,rfl⟩
  ·(show _=eW s);unfold eW;first |(rw [yA w3];rfl) |rfl
  ·rfl
 ·refine ⟨[],[],_,_,_,rfl,rp,(),tv,?_,?_,rfl⟩
  ·(show _=eW s);unfold eW;first |(rw [tA w5];rfl) |rfl
  ·rfl
 ·refine ⟨[],[],_,_,_,rfl,rp,(),tv,?_,?_,rfl⟩
  ·(show _=eW s);unfold eW;first |(rw [yz zg];rfl) |rfl
  ·rfl
 ·refine ⟨[],[],_,_,_,rfl,rp,(),tv,?_,?_,rfl⟩
  ·(show _=eW s);unfold eW;first |(rw [yy w25];rfl) |rfl
  ·rfl
 ·refine ⟨[],[],_,_,_,rfl,rp,(),tv,?_,?_,rfl⟩
  ·(show _=eW s);unfold eW;first |(rw [yB w4 w6 zf EL];rfl) |rfl
  ·rfl
end GL
namespace GL
def LV (s:ByteArray) (k:Nat):Bool:=decide (bG s k < 97)||decide (bG s k > 122)
def nmF:Nat→ByteArray→Nat→Bool
 |0,_,_=>true
 |f+1,s,k=>bif LV s k then false else nmF f s (k+1)
def fv (s:ByteArray):Bool:=nmF s.size s 0&&ir s.size 1 4
theorem agS {f:Nat} {s:ByteArray} {k:Nat} (h:LV s k=true):nmF (f+1) s k=false:=by rw [nmF,h];rfl
theorem ai0 {f:Nat} {s:ByteArray} {k:Nat} (h:LV s k=false):nmF (f+1) s k=nmF f s (k+1):=by rw [nmF,h];rfl
theorem S2 {s:ByteArray} (h:nmF s.size s 0=false):fv s=false:=by unfold fv;rw [h];rfl
theorem adH {s:ByteArray} (h:nmF s.size s 0=true):fv s=ir s.size 1 4:=by unfold fv;rw [h];rfl
def mO (s:ByteArray):Prop:=s.size≤1000000
def kG (s:ByteArray):AV:=.s (.q (fv s))
def abD (s:ByteArray):List AV:=[]
def oi:Con where
 A:=[.s .str]
 B:=[]
 pre:=fun x b=>mO x
 α:=fun _ _=>Unit
 φ:=fun _ _ _=>True
 r:=fun x b _=>kG x
 o:=fun x b _=>abD x
 nf:=0
set_option maxRecDepth 100000 in
theorem zN:Has Tryz.prog 112 oi:=by
 refine Has.ofE (fun _=>true) (fun _=>false) (fun _=>false) (l:=[(24,dy)]) ⟨im,trivial⟩ (fn:=Tryz.f112) Tryz.func112 rfl (by decide) (cH rfl) ?_
 rintro (s:ByteArray) _ (hp:mO s)
 show vc _ _ _ _ (entry [.str s] []) _
 unfold mO at hp
 refine cI (l:=[(24,dy)]) (ex:=fun _=>true) (wr:=fun _=>false) (pt:=fun _=>false) ⟨im,tv⟩ [.s 0] (fun y:Nat×Nat=>[(.s 3, .int y.1)]) (fun y=>y.1+y.2=s.size∧nmF y.2 s y.1=nmF s.size s 0) (fun y=>y.2) (0,s.size) [] ⟨Nat.zero_add _,rfl⟩ ru ?_
 rintro ⟨k,f⟩ ⟨(hk:k+f=s.size),(he:nmF f s k=nmF s.size s 0)⟩
 have hb:=xg s k
 have bM:decide ((k:Int) < s.size)=true→∃g,f=g+1:=fun h=>⟨f - 1,by have:=cw h;omega⟩
 refine ⟨fun w1=>⟨⟨?_,?_⟩,tv,fun w2=>?_,fun w3=>⟨⟨?_,?_⟩,fun w4=>?_,fun w5=>⟨⟨?_,?_⟩,?_⟩⟩⟩,fun w6=>⟨⟨⟨tv,tv,tv,tv⟩,tv⟩,fun x7 w8=>?_⟩⟩
 all_goals first|refine au ?_|refine aw ?_|exact sa|(dsimp only [dy,gO];omega)|exact sb|skip
 ·obtain ⟨g,rfl⟩:=bM w1
  have e:fv s=false:=S2 (by rw [←he];exact agS (by unfold LV;rw [show decide (bG s k < 97)=true from w2];rfl))
  refine ⟨[],[],_,_,_,rfl,rp,(),tv,?_,?_,rfl⟩
  ·(show _=kG s);unfold kG;first |(rw [e];rfl) |rfl
  ·rfl
 ·obtain ⟨g,rfl⟩:=bM w1
  have e:fv s=false:=S2 (by rw [←he];exact agS (by unfold LV;rw [show decide (bG s k > 122)=true from w4,Bool.or_true]))
  refine ⟨[],[],_,_,_,rfl,rp,(),tv,?_,?_,rfl⟩
  ·(show _=kG s);unfold kG;first |(rw [e];rfl) |rfl
  ·rfl
 ·obtain ⟨g,rfl⟩:=bM w1
  refine ⟨(k+1,g),[],?_,?_,?_⟩
  rotate_right
  ·exact rq
  ·exact ⟨by show k+1+g=s.size;omega,by rw [←he];exact (ai0 (by unfold LV;rw [show decide (bG s k < 97)=false from w3,show decide (bG s k > 122)=false from w5];rfl)).symm⟩
  ·exact Nat.lt_succ_self g
 ·have hf:f=0:=by have:=ca (p:=(k:Int) < s.size) w6;omega
  subst hf
  have e:fv s=ir s.size 1 4:=adH (by rw [←he];rfl)
  refine ⟨[],[],_,_,_,rfl,rp,(),tv,?_,?_,rfl⟩
  ·(show _=kG s);unfold kG;first |(rw [e];rfl) |rfl
  ·rfl
def j8 (l:List eU) (i:Nat):Bool:= !(fv (nth aG l i).1)||(!(ir (nth aG l i).2 1 15)||(decide ((i:Int) > 0)&& !(Op.bytesLess (nth aG l ((i:Int) - 1).toNat).1.toList (nth aG l i).1.toList)))
def z6:Nat→List eU→Nat→Bool
 |0,_,_=>true
 |f+1,l,i=>bif j8 l i then false else z6 f l (i+1)
def ez (l:List eU):Bool:=z6 l.length l 0&&decide ((l.length:Int)≤12)
theorem PY {f:Nat} {l:List eU} {k:Nat} (h:j8 l k=true):z6 (f+1) l k=false:=by rw [z6,h];rfl
theorem X4 {f:Nat} {l:List eU} {k:Nat} (h:j8 l k=false):z6 (f+1) l k=z6 f l (k+1):=by rw [z6,h];rfl
theorem vO {l:List eU} (h:z6 l.length l 0=false):ez l=false:=by unfold ez;rw [h];rfl
theorem UJ {l:List eU} (h:z6 l.length l 0=true):ez l=decide ((l.length:Int)≤12):=by unfold ez;rw [h];rfl
theorem ae2 {l:List eU} {i:Nat} (h:(!(fv (nth aG l i).1))=true):j8 l i=true:=by unfold j8;rw [h];rfl
theorem ae1 {l:List eU} {i:Nat} (h:(!(ir (nth aG l i).2 1 15))=true):j8 l i=true:=by unfold j8;rw [h,Bool.true_or,Bool.or_true]
theorem ae0 {l:List eU} {i:Nat} (h:decide ((i:Int) > 0)=true) (h2:(!(Op.bytesLess (nth aG l ((i:Int) - 1).toNat).1.toList (nth aG l i).1.toList))=true):j8 l i=true:=by unfold j8;rw [h,h2,Bool.and_true,Bool.or_true,Bool.or_true]
theorem ae3 {l:List eU} {i:Nat} (h1:(!(fv (nth aG l i).1))=false) (h2:(!(ir (nth aG l i).2 1 15))=false) (h3:decide ((i:Int) > 0)=false):j8 l i=false:=by unfold j8;rw [h1,h2,h3];rfl
theorem aci {l:List eU} {i:Nat} (h1:(!(fv (nth aG l i).1))=false) (h2:(!(ir (nth aG l i).2 1 15))=false) (h4:(!(Op.bytesLess (nth aG l ((i:Int) - 1).toNat).1.toList (nth aG l i).1.toList))=false):j8 l i=false:=by unfold j8;rw [h1,h2,h4,Bool.and_false];rfl
structure afF (l:List eU):Prop where
 len:l.length≤1000000
 sz:∀e∈l,e.1.size≤1000000
theorem afF.at {l:List eU} (h:afF l) (k:Nat):(nth aG l k).1.size≤1000000:=by
 by_cases hk:k < l.length
 ·exact h.sz _ (bS (ek:=aG) hk)
 ·unfold nth;rw [List.getElem?_eq_none (by omega)];exact Nat.zero_le _
def nt (l:List eU):Prop:=afF l
def eQ (l:List eU):AV:=.s (.q (ez l))
def OU (l:List eU):List AV:=[]
def oj:Con where
 A:=[.s (.vz aG)]
 B:=[]
 pre:=fun x b=>nt x
 α:=fun _ _=>Unit
 φ:=fun _ _ _=>True
 r:=fun x b _=>eQ x
 o:=fun x b _=>OU x
 nf:=0
set_option maxRecDepth 100000 in
theorem D0:Has Tryz.prog 166 oj:=by
 refine Has.ofE (fun _=>true) (fun _=>false) (fun _=>false) (l:=[(24,dy),(112,oi)]) ⟨im,zN,trivial⟩ (fn:=Tryz.f166) Tryz.func166 rfl (by decide) (cH rfl) ?_
 rintro (l:List eU) _ (hp:nt l)
 show vc _ _ _ _ (entry [.s (.vz aG l)] []) _
 have hE:afF l:=hp
 have hlen:=hE.len
 refine cI (l:=[(24,dy),(112,oi)]) (ex:=fun _=>true) (wr:=fun _=>false) (pt:=fun _=>false) ⟨im,zN,tv⟩ [.s 0] (fun y:Nat×Nat=>[(.s 3, .int y.1)]) (fun y=>y.1+y.2=l.length∧z6 y.2 l y.1=z6 l.length l 0) (fun y=>y.2) (0,l.length) [] ⟨Nat.zero_add _,rfl⟩ ru ?_
 rintro ⟨k,f⟩ ⟨(hk:k+f=l.length),(he:z6 f l k=z6 l.length l 0)⟩
 have bM:decide ((k:Int) < (l.length:Int))=true→k < l.length:=fun h=>by have:=cw h;omega
 have hg:decide ((k:Int) < (l.length:Int))=true→∃g,f=g+1:=fun h=>⟨f - 1,by have:=bM h;omega⟩
 refine ⟨fun w1=>⟨[.s 0],[.s 10],rfl,[.s 3],[.s 11],rfl,[.s 10, .s 11],[.s 12],rfl,⟨?_,?_⟩,[.s 12],[.s 13],rfl,[.s 13],[.s 14],rfl,[.s 14],[.s 15],rfl,⟨⟨tv,tv⟩,?_⟩,?_,fun x2 w3=>⟨[.s 15],[.s 16],rfl,[.s 16],[.s 17],rfl,tv,fun w4=>⟨[.s 17],[.s 18],rfl,[.s 17],[.s 19],rfl,[.s 17],[.s 20],rfl,[.s 17],[.s 21],rfl,[.s 17],[.s 22],rfl,[.s 17],[.s 23],rfl,[.s 17],[.s 24],rfl,[.s 17, .s 24],[.s 25],rfl,[.s 25],[.s 26],rfl,[.s 26],[.s 27],rfl,[.s 26],[.s 28],rfl,[.s 26],[.s 29],rfl,[.s 29],[.s 30],rfl,[.s 29],[.s 31],rfl,[.s 29],[.s 32],rfl,[.s 29],[.s 33],rfl,[.s 29],[.s 34],rfl,[.s 29],[.s 35],rfl,[.s 29],[.s 36],rfl,[.s 29],[.s 37],rfl,[.s 29],[.s 38],rfl,[.s 29],[.s 39],rfl,[.s 29],[.s 40],rfl,[.s 29],[.s 41],rfl,[.s 26],[.s 42],rfl,[.s 26, .s 42],[.s 43],rfl,?_⟩,fun w5=>⟨[.s 17, .s 0],[.s 18],rfl,[.s 17, .s 3],[.s 19],rfl,[.s 17, .s 18, .s 19],[.s 20],rfl,⟨?_,?_⟩,[.s 17, .s 20],[.s 21],rfl,[.s 17, .s 21],[.s 22],rfl,[.s 17, .s 22],[.s 23],rfl,⟨⟨tv,tv,tv,tv⟩,tv⟩,?_,fun x6 w7=>⟨[.s 17, .s 23],[.s 24],rfl,[.s 17, .s 24],[.s 25],rfl,[.s 25],[.s 26],rfl,tv,fun w8=>⟨[.s 26],[.s 27],rfl,[.s 26],[.s 28],rfl,[.s 26],[.s 29],rfl,[.s 29],[.s 30],rfl,[.s 29],[.s 31],rfl,[.s 29],[.s 32],rfl,[.s 29],[.s 33],rfl,[.s 29],[.s 34],rfl,[.s 29],[.s 35],rfl,[.s 29],[.s 36],rfl,[.s 29],[.s 37],rfl,[.s 29],[.s 38],rfl,[.s 29],[.s 39],rfl,[.s 29],[.s 40],rfl,[.s 29],[.s 41],rfl,[.s 26],[.s 42],rfl,[.s 26, .s 42],[.s 43],rfl,?_⟩,fun w9=>⟨[.s 26, .s 3],[.s 27],rfl,[.s 26, .s 27],[.s 28],rfl,[.s 26, .s 28],[.s 29],rfl,tv,fun df=>⟨[.s 29, .s 0],[.s 30],rfl,[.s 29, .s 3],[.s 31],rfl,[.s 29, .s 31],[.s 32],rfl,⟨?_,?_⟩,[.s 29, .s 30, .s 32],[.s 33],rfl,⟨?_,?_⟩,[.s 29, .s 33],[.s 34],rfl,[.s 29, .s 34],[.s 35],rfl,[.s 29, .s 0],[.s 36],rfl,[.s 29, .s 3],[.s 37],rfl,[.s 29, .s 36, .s 37],[.s 38],rfl,⟨?_,?_⟩,[.s 29, .s 38],[.s 39],rfl,[.s 29, .s 39],[.s 40],rfl,[.s 29, .s 35, .s 40],[.s 41],rfl,[.s 26, .s 29, .s 41],[.s 42],rfl,[.s 26, .s 42],[.s 43],rfl,fun ka=>?_,fun dC=>⟨⟨?_,?_⟩,?_⟩⟩,fun iA=>⟨[.s 29],[.s 30],rfl,[.s 29],[.s 31],rfl,[.s 29],[.s 32],rfl,[.s 29],[.s 33],rfl,[.s 29],[.s 34],rfl,[.s 29],[.s 35],rfl,[.s 29],[.s 36],rfl,[.s 29],[.s 37],rfl,[.s 29],[.s 38],rfl,[.s 29],[.s 39],rfl,[.s 29],[.s 40],rfl,[.s 29],[.s 41],rfl,[.s 26, .s 29, .s 41],[.s 42],rfl,[.s 26, .s 42],[.s 43],rfl,⟨?_,?_⟩,?_⟩⟩⟩⟩⟩⟩,fun gx=>?_⟩
 all_goals first|refine au ?_|refine aw ?_|exact sa|(dsimp only [dy,gO];omega)|(dsimp only [oi,mO];omega)|exact sb|exact hE.at _|exact bM w1|skip
 ·obtain ⟨g,rfl⟩:=hg w1
  have e:ez l=false:=vO (by rw [←he];exact PY (ae2 (show (!(fv (nth aG l k).1))=true from w4)))
  refine ⟨[],[],_,_,_,rfl,rp,(),tv,?_,?_,rfl⟩
  ·(show _=eQ l);unfold eQ;first |(rw [e];rfl) |rfl
  ·rfl
 ·obtain ⟨g,rfl⟩:=hg w1
  have e:ez l=false:=vO (by rw [←he];exact PY (ae1 (show (!(ir (nth aG l k).2 1 15))=true from w8)))
  refine ⟨[],[],_,_,_,rfl,rp,(),tv,?_,?_,rfl⟩
  ·(show _=eQ l);unfold eQ;first |(rw [e];rfl) |rfl
  ·rfl
 ·obtain ⟨g,rfl⟩:=hg w1
  have e:ez l=false:=vO (by rw [←he];exact PY (ae0 df ka))
  refine ⟨[],[],_,_,_,rfl,rp,(),tv,?_,?_,rfl⟩
  ·(show _=eQ l);unfold eQ;first |(rw [e];rfl) |rfl
  ·rfl
 ·obtain ⟨g,rfl⟩:=hg w1
  refine ⟨(k+1,g),[],?_,?_,?_⟩
  rotate_right
  ·exact rq
  ·exact ⟨by show k+1+g=l.length;omega,by rw [←he];exact (X4 (aci (show (!(fv (nth aG l k).1))=false from w5) (show (!(ir (nth aG l k).2 1 15))=false from w9) dC)).symm⟩
  ·exact Nat.lt_succ_self g
 ·obtain ⟨g,rfl⟩:=hg w1
  refine ⟨(k+1,g),[],?_,?_,?_⟩
  rotate_right
  ·exact rq
  ·exact ⟨by show k+1+g=l.length;omega,by rw [←he];exact (X4 (ae3 (show (!(fv (nth aG l k).1))=false from w5) (show (!(ir (nth aG l k).2 1 15))=false from w9) iA)).symm⟩
  ·exact Nat.lt_succ_self g
 ·have hf:f=0:=by have:=ca (p:=(k:Int) < (l.length:Int)) gx;omega
  subst hf
  have e:ez l=decide ((l.length:Int)≤12):=UJ (by rw [←he];rfl)
  refine ⟨[],[],_,_,_,rfl,rp,(),tv,?_,?_,rfl⟩
  ·(show _=eQ l);unfold eQ;first |(rw [e];rfl) |rfl
  ·rfl
def q8 (out:ByteArray) (e:eU):ByteArray:=out++e.1++⟨#[61]⟩++bQ e.2++⟨#[59]⟩
def dW (l:List eU):ByteArray:=l.foldl q8 ⟨#[]⟩
structure acs (l:List eU):Prop where
 len:l.length≤1000
 sz:∀e∈l,e.1.size≤1000000
 id:∀e∈l,0≤e.2∧e.2≤999999999
def pS (l:List eU):Prop:=acs l
def xZ (l:List eU):AV:=.s (.str (dW l))
def abq (l:List eU):List AV:=[]
def qn:Con where
 A:=[.s (.vz aG)]
 B:=[]
 pre:=fun x b=>pS x
 α:=fun _ _=>Unit
 φ:=fun _ _ _=>True
 r:=fun x b _=>xZ x
 o:=fun x b _=>abq x
 nf:=0
set_option maxRecDepth 100000 in
theorem II:Has Tryz.prog 129 qn:=by
 refine Has.ofE (fun _=>true) (fun _=>false) (fun _=>false) (l:=[(117,jW)]) ⟨wS,trivial⟩ (fn:=Tryz.f129) Tryz.func129 rfl (by decide) (cH rfl) ?_
 rintro (l:List eU) _ (hp:pS l)
 show vc _ _ _ _ (entry [.s (.vz aG l)] []) _
 have hE:acs l:=hp
 have hlen:=hE.len
 refine ?_
 all_goals first|refine au ?_|refine aw ?_|exact sa|(dsimp only [jW,mJ];omega)|exact sb|skip
 refine cI (l:=[(117,jW)]) (ex:=fun _=>true) (wr:=fun _=>false) (pt:=fun _=>false) ⟨wS,tv⟩ [.s 0] (fun y:Nat×ByteArray=>[(.s 3, .str y.2),(.s 4, .int y.1)]) (fun y=>y.1≤l.length∧y.2.size≤2000000 * y.1∧(l.drop y.1).foldl q8 y.2=dW l) (fun y=>l.length - y.1) (0,⟨#[]⟩) [] ⟨Nat.zero_le _,Nat.zero_le _,rfl⟩ ru ?_
 rintro ⟨i,out⟩ ⟨(hi:i≤l.length),(ho:out.size≤2000000 * i),(hr:(l.drop i).foldl q8 out=dW l)⟩
 have bM:decide ((i:Int) < (l.length:Int))=true→i < l.length:=fun h=>by have:=cw h;omega
 have db:i < l.length→(nth aG l i).1.size≤1000000:=fun h=>hE.sz _ (bS (ek:=aG) h)
 have hid:i < l.length→0≤(nth aG l i).2∧(nth aG l i).2≤999999999:=fun h=>hE.id _ (bS (ek:=aG) h)
 have ahX:i < l.length→(bQ (nth aG l i).2).size≤12:=fun h=>cZ (Int.le_trans (hid h).2 (by omega))
 have hs1:i < l.length→(out++(nth aG l i).1).size≤2001000000:=fun h=>by rw [ByteArray.size_append];have:=db h;omega
 have hs2:i < l.length→(out++(nth aG l i).1++(⟨#[61]⟩:ByteArray)).size≤2001000001:=fun h=>by rw [ByteArray.size_append,sz1];have:=hs1 h;omega
 have hs3:i < l.length→(out++(nth aG l i).1++(⟨#[61]⟩:ByteArray)++bQ (nth aG l i).2).size≤2001000100:=fun h=>by rw [ByteArray.size_append];have:=hs2 h;have:=ahX h;omega
 have hA:i < l.length→(0:Int)≤(nth aG l i).2:=fun h=>(hid h).1
 have hB:i < l.length→((nth aG l i).2:Int)≤999999999999:=fun h=>Int.le_trans (hid h).2 (by omega)
 refine ⟨fun w1=>⟨[.s 3],[.s 11],rfl,[.s 0],[.s 12],rfl,[.s 4],[.s 13],rfl,[.s 12, .s 13],[.s 14],rfl,⟨?_,?_⟩,[.s 14],[.s 15],rfl,[.s 15],[.s 16],rfl,[.s 11, .s 16],[.s 17],rfl,?_,[.s 17],[.s 18],rfl,?_,[.s 0],[.s 19],rfl,[.s 4],[.s 20],rfl,[.s 19, .s 20],[.s 21],rfl,⟨?_,?_⟩,[.s 21],[.s 22],rfl,[.s 22],[.s 23],rfl,[.s 23],[.s 24],rfl,⟨⟨tv,tv⟩,?_,?_⟩,?_,fun x2 w3=>⟨[.s 18, .s 24],[.s 25],rfl,?_,[.s 25],[.s 26],rfl,?_,[.s 26],[.s 3],rfl,⟨?_,?_⟩,?_⟩⟩,fun w4=>?_⟩
 all_goals first|refine au ?_|refine aw ?_|exact sa|(dsimp only [jW,mJ];omega)|exact sb|exact bM w1|(unfold imax;simp only [ByteArray.size_append,Int.toNat_natCast,sz1];have:=db (bM w1);have:=ahX (bM w1);omega)|skip
 ·exact hB (bM w1)
 ·have mo:=bM w1
  refine ⟨(i+1,q8 out (nth aG l i)),[],?_,?_,?_⟩
  rotate_right
  ·exact rq
  ·refine ⟨mo,?_,by rw [←hr,bP (ek:=aG) mo];rfl⟩
   show (out++(nth aG l i).1++⟨#[61]⟩++bQ (nth aG l i).2++⟨#[59]⟩).size≤2000000 * (i+1)
   have a1:=db mo;have a2:=ahX mo
   simp only [ByteArray.size_append]
   rw [show (⟨#[61]⟩:ByteArray).size=1 from rfl,show (⟨#[59]⟩:ByteArray).size=1 from rfl];omega
  ·show l.length - (i+1) < l.length - i;omega
 ·have FJ:¬i < l.length:=by have:=ca (p:=(i:Int) < (l.length:Int)) (by assumption);omega
  have e:dW l=out:=by rw [←hr,List.drop_eq_nil_of_le (by omega)];rfl
  refine ⟨[],[],_,_,_,rfl,rp,(),tv,?_,?_,rfl⟩
  ·(show _=xZ l);unfold xZ;first |(rw [e];rfl) |rfl
  ·rfl
def atF:Nat→List eU→Nat→ByteArray→Int
 |0,_,_,_=> -1
 |f+1,l,i,name=>bif decide ((nth aG l i).1=name) then (i:Int) else atF f l (i+1) name
def lu (l:List eU) (name:ByteArray):Int:=atF l.length l 0 name
theorem ahd {f:Nat} {l:List eU} {i:Nat} {name:ByteArray} (h:decide ((nth aG l i).1=name)=true):atF (f+1) l i name=(i:Int):=by rw [atF,h];rfl
theorem ahe {f:Nat} {l:List eU} {i:Nat} {name:ByteArray} (h:decide ((nth aG l i).1=name)=false):atF (f+1) l i name=atF f l (i+1) name:=by rw [atF,h];rfl
def oW (l:List eU) (name:ByteArray):Prop:=l.length≤1000000
def rY (l:List eU) (name:ByteArray):AV:=.s (.int (lu l name))
def adk (l:List eU) (name:ByteArray):List AV:=[]
def oQ:Con where
 A:=[.s (.vz aG), .s .str]
 B:=[]
 pre:=fun x b=>oW (x.1) (x.2)
 α:=fun _ _=>Unit
 φ:=fun _ _ _=>True
 r:=fun x b _=>rY (x.1) (x.2)
 o:=fun x b _=>adk (x.1) (x.2)
 nf:=0
set_option maxRecDepth 100000 in
theorem FE:Has Tryz.prog 106 oQ:=by
 refine Has.ofE (fun _=>true) (fun _=>false) (fun _=>false) (l:=[]) trivial (fn:=Tryz.f106) Tryz.func106 rfl (by decide) (cH rfl) ?_
 rintro ⟨(l:List eU),(name:ByteArray)⟩ _ (hp:oW l name)
 show vc _ _ _ _ (entry [.s (.vz aG l), .str name] []) _
 have hlen:l.length≤1000000:=hp
 refine cI (l:=[]) (ex:=fun _=>true) (wr:=fun _=>false) (pt:=fun _=>false) trivial [.s 0, .s 1] (fun y:Nat×Nat=>[(.s 5, .int y.1)]) (fun y=>y.1+y.2=l.length∧atF y.2 l y.1 name=lu l name) (fun y=>y.2) (0,l.length) [] ⟨Nat.zero_add _,rfl⟩ ru ?_
 rintro ⟨k,f⟩ ⟨(hk:k+f=l.length),(he:atF f l k name=lu l name)⟩
 have bM:decide ((k:Int) < (l.length:Int))=true→k < l.length:=fun h=>by have:=cw h;omega
 have hg:decide ((k:Int) < (l.length:Int))=true→∃g,f=g+1:=fun h=>⟨f - 1,by have:=bM h;omega⟩
 refine ⟨fun w1=>⟨⟨?_,?_⟩,⟨fun w2=>?_,fun w3=>⟨⟨?_,?_⟩,?_⟩⟩⟩,fun w4=>?_⟩
 all_goals first|refine au ?_|refine aw ?_|exact sa|exact sb|exact bM w1|skip
 ·obtain ⟨g,rfl⟩:=hg w1
  have e:lu l name=(k:Int):=by rw [←he];exact ahd w2
  refine ⟨[],[],_,_,_,rfl,rp,(),tv,?_,?_,rfl⟩
  ·(show _=rY l name);unfold rY;first |(rw [e];rfl) |rfl
  ·rfl
 ·obtain ⟨g,rfl⟩:=hg w1
  refine ⟨(k+1,g),[],?_,?_,?_⟩
  rotate_right
  ·exact rq
  ·exact ⟨by show k+1+g=l.length;omega,by rw [←he];exact (ahe w3).symm⟩
  ·exact Nat.lt_succ_self g
 ·have hf:f=0:=by have:=ca (p:=(k:Int) < (l.length:Int)) w4;omega
  subst hf
  have e:lu l name= -1:=by rw [←he];rfl
  refine ⟨[],[],_,_,_,rfl,rp,(),tv,?_,?_,rfl⟩
  ·(show _=rY l name);unfold rY;first |(rw [e];rfl) |rfl
  ·rfl
def EX (e x:eU) (done:Bool):Bool:= !done&& !(Op.bytesLess x.1.toList e.1.toList||x.1.toList==e.1.toList)
def xr:List eU→eU→Bool→List eU→List eU×Bool
 |[],_,done,out=>(out,done)
 |x::l,e,done,out=>bif EX e x done then xr l e true (out++[e]++[x]) else xr l e done (out++[x])
def wj (e:eU) (r:List eU×Bool):List eU:=bif !r.2 then r.1++[e] else r.1
def qH (l:List eU) (e:eU):List eU:=wj e (xr l e false [])
theorem YQ {x e:eU} {l out:List eU} {done:Bool} (h:EX e x done=true):xr (x::l) e done out=xr l e true (out++[e]++[x]):=by rw [xr,h];rfl
theorem P8 {x e:eU} {l out:List eU} {done:Bool} (h:EX e x done=false):xr (x::l) e done out=xr l e done (out++[x]):=by rw [xr,h];rfl
def pT (l:List eU) (e:eU):Prop:=l.length≤1000
def pz (l:List eU) (e:eU):AV:=.s (.xs 0 2 0 (qH l e).length)
def sc (l:List eU) (e:eU):List AV:=[.rs aG (qH l e)]
def qo:Con where
 A:=[.s (.vz aG), .a [.str, .int]]
 B:=[]
 pre:=fun x b=>pT (x.1) (x.2)
 α:=fun _ _=>Unit
 φ:=fun _ _ _=>True
 r:=fun x b _=>pz (x.1) (x.2)
 o:=fun x b _=>sc (x.1) (x.2)
 nf:=1
set_option maxRecDepth 100000 in
theorem IJ:Has Tryz.prog 100 qo:=by
 refine Has.ofE (fun _=>true) (fun _=>false) (fun _=>false) (l:=[]) trivial (fn:=Tryz.f100) Tryz.func100 rfl (by decide) (cH rfl) ?_
 rintro ⟨(l:List eU),⟨(e1:ByteArray),(e2:Int)⟩⟩ _ (hp:pT l (e1,e2))
 show vc _ _ _ _ (entry [.s (.vz aG l), .a [.str e1, .int e2]] []) _
 have hlen:l.length≤1000:=hp
 refine ⟨tv,?_⟩
 all_goals first|refine au ?_|refine aw ?_|exact sa|exact sb|skip
 refine cI (l:=[]) (ex:=fun _=>true) (wr:=fun _=>false) (pt:=fun _=>false) trivial [.s 0, .s 3, .b 1003] (fun y:Nat×List eU×Bool=>[(.s 5, .s (.xs 1008 2 0 y.2.1.length)),(.s 6, .s (.q y.2.2)),(.s 7, .int y.1),(.b 1008, .rs aG y.2.1)]) (fun y=>y.1≤l.length∧y.2.1.length≤2 * y.1∧xr (l.drop y.1) (e1,e2) y.2.2 y.2.1=xr l (e1,e2) false []) (fun y=>l.length - y.1) (0,[],false) [] ⟨Nat.zero_le _,Nat.zero_le _,rfl⟩ ru ?_
 rintro ⟨i,out,dn⟩ ⟨(hi:i≤l.length),(ho:out.length≤2 * i),(hr:xr (l.drop i) (e1,e2) dn out=xr l (e1,e2) false [])⟩
 have bM:decide ((i:Int) < (l.length:Int))=true→i < l.length:=fun h=>by have:=cw h;omega
 refine ⟨fun w1=>⟨[.s 6],[.s 15],rfl,[.s 15],[.s 16],rfl,[.s 16],[.s 17],rfl,tv,fun w2=>⟨[.s 17, .s 0],[.s 18],rfl,[.s 17, .s 7],[.s 19],rfl,[.s 17, .s 18, .s 19],[.s 20],rfl,⟨?_,?_⟩,[.s 17, .s 20],[.s 21],rfl,[.s 17, .s 21],[.s 22],rfl,[.s 17, .s 3],[.s 23],rfl,[.s 17, .s 23, .b 1003],[.s 24],rfl,[.s 17, .s 22, .s 24],[.s 25],rfl,[.s 17, .s 25],[.s 26],rfl,fun w3=>⟨tv,⟨⟨?_,?_⟩,?_,?_⟩,⟨?_,?_⟩,tv,⟨⟨?_,?_⟩,?_,?_⟩,⟨?_,?_⟩,?_⟩,fun w4=>⟨⟨?_,?_⟩,tv,⟨⟨?_,?_⟩,?_,?_⟩,⟨?_,?_⟩,?_⟩⟩,fun w5=>⟨[.s 17],[.s 18],rfl,[.s 17],[.s 19],rfl,[.s 17],[.s 20],rfl,[.s 17],[.s 21],rfl,[.s 17],[.s 22],rfl,[.s 17],[.s 23],rfl,[.s 17],[.s 24],rfl,[.s 17],[.s 25],rfl,[.s 17, .s 25],[.s 26],rfl,⟨?_,?_⟩,tv,⟨⟨?_,?_⟩,?_,?_⟩,⟨?_,?_⟩,?_⟩⟩,fun w6=>⟨fun w7=>⟨tv,⟨⟨?_,?_⟩,?_,?_⟩,?_⟩,fun w8=>?_⟩⟩
 all_goals first|refine au ?_|refine aw ?_|exact sa|exact sb|exact bM w1|skip
 ·have mo:=bM w1
  have hb:EX (e1,e2) (nth aG l i) dn=true:=by unfold EX;rw [show (!dn)=true from w2,show (!(Op.bytesLess (nth aG l i).1.toList e1.toList||(nth aG l i).1.toList==e1.toList))=true from w3];rfl
  refine ⟨(i+1,out++[(e1,e2)]++[nth aG l i],true),[(1008,1037)],?_,?_,?_⟩
  rotate_right
  ·exact rq
  ·refine ⟨mo,by show (out++[(e1,e2)]++[nth aG l i]).length≤2 * (i+1);rw [List.length_append,List.length_append];show out.length+1+1≤_;omega,?_⟩
   rw [←hr,bP (ek:=aG) mo,YQ hb]
  ·show l.length - (i+1) < l.length - i;omega
 ·have mo:=bM w1
  have hb:EX (e1,e2) (nth aG l i) dn=false:=by unfold EX;rw [show (!(Op.bytesLess (nth aG l i).1.toList e1.toList||(nth aG l i).1.toList==e1.toList))=false from w4,Bool.and_false]
  refine ⟨(i+1,out++[nth aG l i],dn),[(1008,1037)],?_,?_,?_⟩
  rotate_right
  ·exact rq
  ·refine ⟨mo,by show (out++[nth aG l i]).length≤2 * (i+1);rw [List.length_append];show out.length+1≤_;omega,?_⟩
   rw [←hr,bP (ek:=aG) mo,P8 hb]
  ·show l.length - (i+1) < l.length - i;omega
 ·have mo:=bM w1
  have hb:EX (e1,e2) (nth aG l i) dn=false:=by unfold EX;rw [show (!dn)=false from w5];rfl
  refine ⟨(i+1,out++[nth aG l i],dn),[(1008,1037)],?_,?_,?_⟩
  rotate_right
  ·exact rq
  ·refine ⟨mo,by show (out++[nth aG l i]).length≤2 * (i+1);rw [List.length_append];show out.length+1≤_;omega,?_⟩
   rw [←hr,bP (ek:=aG) mo,P8 hb]
  ·show l.length - (i+1) < l.length - i;omega
 ·have FJ:¬i < l.length:=by have:=ca (p:=(i:Int) < (l.length:Int)) w6;omega
  have e:qH l (e1,e2)=out++[(e1,e2)]:=by unfold qH;rw [←hr,List.drop_eq_nil_of_le (by omega)];show wj (e1,e2) (out,dn)=_;unfold wj;rw [show (!dn)=true from w7];rfl
  refine ⟨[1043],[],_,_,_,rfl,rp,(),tv,?_,?_,rfl⟩
  ·(show _=pz l (e1,e2));unfold pz;first |(rw [e,List.length_append];rfl) |(rw [e];rfl) |rfl
  ·(show _=sc l (e1,e2));unfold sc;first |(rw [e,List.length_append];rfl) |(rw [e];rfl) |rfl
 ·have FJ:¬i < l.length:=by have:=ca (p:=(i:Int) < (l.length:Int)) w6;omega
  have e:qH l (e1,e2)=out:=by unfold qH;rw [←hr,List.drop_eq_nil_of_le (by omega)];show wj (e1,e2) (out,dn)=_;unfold wj;rw [show (!dn)=false from w8];rfl
  refine ⟨[1008],[],_,_,_,rfl,rp,(),tv,?_,?_,rfl⟩
  ·(show _=pz l (e1,e2));unfold pz;first |(rw [e];rfl) |rfl
  ·(show _=sc l (e1,e2));unfold sc;first |(rw [e];rfl) |rfl
def eh (l:List eU) (i:Nat):List eU:=l.take i++l.drop (i+1)
def qQ (l:List eU) (i:Int):Prop:=l.length≤1000∧0≤i∧i < l.length
def u3 (l:List eU) (i:Int):AV:=.s (.xs 0 2 0 (eh l i.toNat).length)
def yw (l:List eU) (i:Int):List AV:=[.rs aG (eh l i.toNat)]
def sG:Con where
 A:=[.s (.vz aG), .s .int]
 B:=[]
 pre:=fun x b=>qQ (x.1) (x.2)
 α:=fun _ _=>Unit
 φ:=fun _ _ _=>True
 r:=fun x b _=>u3 (x.1) (x.2)
 o:=fun x b _=>yw (x.1) (x.2)
 nf:=1
set_option maxRecDepth 100000 in
theorem ME:Has Tryz.prog 105 sG:=by
 refine Has.ofE (fun _=>true) (fun _=>false) (fun _=>false) (l:=[]) trivial (fn:=Tryz.f105) Tryz.func105 rfl (by decide) (cH rfl) ?_
 rintro ⟨(l:List eU),(i:Int)⟩ _ (hp:qQ l i)
 show vc _ _ _ _ (entry [.s (.vz aG l), .int i] []) _
 obtain ⟨h1,h2,h3⟩:=hp
 have e:eh l i.toNat=l.take (i.toNat - 0)++l.drop (i+1).toNat:=by unfold eh;rw [Nat.sub_zero,show (i+1).toNat=i.toNat+1 by omega]
 have hl1:(l.take (i.toNat - 0)).length≤1000:=by rw [List.length_take];omega
 have hl2:((l.drop (i+1).toNat).take (l.length - (i+1).toNat)).length≤1000:=by rw [List.length_take,List.length_drop];omega
 refine ⟨[.b 1005],[.s 5, .b 1005],rfl,tv,[.s 0],[.s 6],rfl,[.s 1],[.s 7],rfl,[.s 6, .s 7],[.s 8],rfl,⟨?_,?_,?_⟩,[.s 5, .s 8, .b 1005, .b 1009],[.s 9, .b 1009, .b 1005],rfl,⟨⟨?_,?_⟩,tv⟩,[.s 0],[.s 10],rfl,[.s 1],[.s 11],rfl,[.s 11],[.s 12],rfl,⟨?_,?_⟩,[.s 10, .s 12],[.s 13],rfl,⟨?_,?_,?_⟩,[.s 9, .s 13, .b 1009, .b 1014],[.s 14, .b 1014, .b 1009],rfl,⟨⟨?_,?_⟩,tv⟩,[.s 14],[.s 4],rfl,?_⟩
 all_goals first|refine au ?_|refine aw ?_|exact sa|exact sb|(show 0+(l.take (i.toNat - 0)).length≤1048576;omega)|(show ([]++l.take (i.toNat - 0)).length+((l.drop (i+1).toNat).take (l.length - (i+1).toNat)).length≤1048576;rw [List.nil_append];omega)|skip
 ·have e2:(eh l i.toNat).length=([]++l.take (i.toNat - 0)).length+((l.drop (i+1).toNat).take (l.length - (i+1).toNat)).length:=by rw [e,List.length_append,List.nil_append,List.take_of_length_le (l:=l.drop _) (by rw [List.length_drop];omega)]
  have e3:eh l i.toNat=([]++l.take (i.toNat - 0))++((l.drop (i+1).toNat).take (l.length - (i+1).toNat)):=by rw [e,List.nil_append,List.take_of_length_le (l:=l.drop _) (by rw [List.length_drop];omega)]
  refine ⟨[1014],[],_,_,_,rfl,rp,(),tv,?_,?_,rfl⟩
  ·(show _=u3 l i);unfold u3;first |(rw [e2];rfl) |(rw [e3];rfl) |rfl
  ·(show _=yw l i);unfold yw;first |(rw [e2];rfl) |(rw [e3];rfl) |rfl
end GL
end Go.Proofs.YtbfgjadbfjkcdaaGreatDoor
