/- FnTreeOk returns true for every code (its row lists package variables, tied by the card): part 29 of 39. -/
import Derived.Test.YtbfgjadbfjkcdaaGreatDoorPao
import Derived.Test.YtbfgjadbfjkcdaaGreatDoorPap
import Derived.Test.YtbfgjadbfjkcdaaGreatDoorPau
import Derived.Test.YtbfgjadbfjkcdaaGreatDoorPbb
set_option maxHeartbeats 20000000
set_option linter.all false
namespace Go.Proofs.YtbfgjadbfjkcdaaGreatDoor
namespace GL
def YF (c:UInt8):List (List UInt8)→List UInt8
 |[]=>[]
 |[x]=>x
 |x::y::l=>x++c::YF c (y::l)
theorem NK (c:UInt8):∀l:List UInt8,YF c (mj c l)=l
 |[]=>rfl
 |x::l=>by
  have ih:=NK c l
  rw [rU]
  split
  ·rename_i hx
   cases e:mj c l with
   |nil=>exact absurd e (zm c l)
   |cons w a=>rw [e] at ih;show []++c::YF c (w::a)=_;rw [ih,hx];rfl
  ·cases e:mj c l with
   |nil=>exact absurd e (zm c l)
   |cons w a=>
    rw [e] at ih
    cases a with
    |nil=>show x::w=_;rw [show w=l from ih]
    |cons v a=>show x::(w++c::YF c (v::a))=_;rw [show w++c::YF c (v::a)=l from ih]
theorem aaA (s:ByteArray) (c:UInt8) {l:List ByteArray} (h:bf s c.toNat=l):YF c (l.map lb)=lb s:=by
 rw [←h,JQ];exact NK c _
theorem B7:∀(l:List ByteArray) (acc:List Int) (j:Nat),j < l.length→(aA (nth aa l j)).2=false→lg l acc=none
 |t::l,acc,0,_,h=>by rw [lg,show (aA t).2=false from h];rfl
 |t::l,acc,j+1,hj,h=>by
  rw [lg]
  cases (aA t).2 with
  |false=>rfl
  |true=>exact B7 l _ j (by simpa using hj) h
theorem vr {t:ByteArray} (h:(aA t).2=true):aA t=((aA t).1,true):=by rw [←h]
def OE (l:List ByteArray):Pt:=((aA (nth aa l 0)).1,(aA (nth aa l 1)).1,(aA (nth aa l 2)).1,(aA (nth aa l 3)).1,(aA (nth aa l 4)).1)
theorem G5 {s:ByteArray} (h0:decide (s=⟨#[45]⟩)=false) (h5:(bf s 46).length=5) (hk:∀j,j < 5→(aA (nth aa (bf s 46) j)).2=true):bJ s=bif decide (aY (OE (bf s 46))≠s) then (bL,false) else (OE (bf s 46),true):=by
 rw [r3 h0 (by rw [h5];rfl)]
 have hs0:s≠⟨#[45]⟩:=ca h0
 have aey:=fun l h=>aaA s 46 (l:=l) h
 have fq:s≠⟨#[]⟩:=by
  rintro rfl
  exact absurd h5 (by decide)
 change (∀l,bf s 46=l→YF 46 (l.map lb)=lb s) at aey
 match hl:bf s 46,h5 with
 |[a,b,c,d,e],_=>
  rw [hl] at hk
  have ha:=vr (t:=a) (hk 0 (by omega))
  have hb:=vr (t:=b) (hk 1 (by omega))
  have hc:=vr (t:=c) (hk 2 (by omega))
  have hd:=vr (t:=d) (hk 3 (by omega))
  have he:=vr (t:=e) (hk 4 (by omega))
  have hn:lg [a,b,c,d,e] []=some [(aA a).1,(aA b).1,(aA c).1,(aA d).1,(aA e).1]:=by
   simp [lg,show (aA a).2=true from hk 0 (by omega),show (aA b).2=true from hk 1 (by omega),show (aA c).2=true from hk 2 (by omega),show (aA d).2=true from hk 3 (by omega),show (aA e).2=true from hk 4 (by omega)]
  rw [BT hn]
  show pK [(aA a).1,(aA b).1,(aA c).1,(aA d).1,(aA e).1]=bif decide (aY (lH [(aA a).1,(aA b).1,(aA c).1,(aA d).1,(aA e).1])≠s) then (bL,false) else (lH [(aA a).1,(aA b).1,(aA c).1,(aA d).1,(aA e).1],true)
  generalize hp:lH [(aA a).1,(aA b).1,(aA c).1,(aA d).1,(aA e).1]=p
  have hf:∀r,lH [(aA a).1,(aA b).1,(aA c).1,(aA d).1,(aA e).1]=r→r=p:=fun r h=>h ▸ hp
  cases hh:ar p with
  |true=>
   rw [RV (by rw [hp];exact hh),qL hh,decide_eq_true (p:=¬(⟨#[45]⟩:ByteArray)=s) (fun h=>hs0 h.symm)];rfl
  |false=>
   cases ho:aV p with
   |false=>
    rw [RW (by rw [hp,ho];rfl),show aY p=⟨#[]⟩ by unfold aY;rw [ho];rfl,decide_eq_true (p:=¬(⟨#[]⟩:ByteArray)=s) (fun h=>fq h.symm)];rfl
   |true=>
    rw [G7 (by rw [hp,ho];rfl) (by rw [hp];exact hh),hp]
    have e1:aY p=s:=by
     apply vy
     rw [wL ho hh,←aey _ hl]
     have q1:=(num_inv ha).1;have q2:=(num_inv hb).1;have q3:=(num_inv hc).1;have q4:=(num_inv hd).1;have q5:=(num_inv he).1
     rw [show p.1=(aA a).1 by rw [←hp];rfl,show p.2.1=(aA b).1 by rw [←hp];rfl,show p.2.2.1=(aA c).1 by rw [←hp];rfl,show p.2.2.2.1=(aA d).1 by rw [←hp];rfl,show p.2.2.2.2=(aA e).1 by rw [←hp];rfl,←q1,←q2,←q3,←q4,←q5]
     rfl
    rw [decide_eq_false (p:=¬aY p=s) (fun h=>h e1)];rfl
def aky (l:List ByteArray) (n:Nat):List SV:=[.int (bif Nat.blt 0 n then (aA (nth aa l 0)).1 else 0), .int (bif Nat.blt 1 n then (aA (nth aa l 1)).1 else 0), .int (bif Nat.blt 2 n then (aA (nth aa l 2)).1 else 0), .int (bif Nat.blt 3 n then (aA (nth aa l 3)).1 else 0), .int (bif Nat.blt 4 n then (aA (nth aa l 4)).1 else 0)]
def k9 (s:ByteArray):Prop:=s.size≤1000000
def cD (s:ByteArray):AV:=.t [ptA (bJ s).1, .s (.q (bJ s).2)]
def WN (s:ByteArray):List AV:=[]
def pc:Con where
 A:=[.s .str]
 B:=[]
 pre:=fun x b=>k9 x
 α:=fun _ _=>Unit
 φ:=fun _ _ _=>True
 r:=fun x b _=>cD x
 o:=fun x b _=>WN x
 nf:=0
set_option maxRecDepth 100000 in
theorem MG:Has Tryz.prog 91 pc:=by
 refine Has.ofEI (fun _=>true) (fun _=>false) (fun _=>false) (l:=[(90,iy),(123,ew),(124,iM),(125,eM)]) ⟨FF,zL,MH,wU,trivial⟩ (fn:=Tryz.f91) Tryz.func91 rfl (by decide) (cH rfl) ?_
 rintro (s:ByteArray) _ (hp:k9 s)
 show vc _ _ _ _ (entry [.str s] []) _
 unfold k9 at hp
 have hsp:gU s ⟨#[46]⟩=bf s 46:=QV s 46
 refine ⟨fun w1=>?_,fun w2=>⟨⟨⟨tv,tv,tv⟩,?_,?_⟩,fun x3 w4=>⟨⟨⟨⟨tv,tv⟩,tv⟩,fun x5 w6=>?_⟩,fun x7 w8=>⟨fun w9=>?_,fun df=>?_⟩⟩⟩⟩
 all_goals first|refine au ?_|refine aw ?_|exact sa|(dsimp only [iy,jI];omega)|(dsimp only [ew,dE];omega)|(dsimp only [iM,gj];omega)|(dsimp only [eM,eB];omega)|exact sb|(show 1≤(1:Nat);omega)|skip
 ·refine ⟨[],[],_,_,_,rfl,rp,(),tv,?_,?_,rfl⟩
  ·(show _=cD s);unfold cD;first |(rw [wE (by assumption)];rfl) |rfl
  ·rfl
 ·have e:=w9
  rw [hsp] at e
  refine ⟨[],[],_,_,_,rfl,rp,(),tv,?_,?_,rfl⟩
  ·(show _=cD s);unfold cD;first |(rw [BV w2 e];rfl) |rfl
  ·rfl
 ·have h0:=w2
  rw [hsp] at df
  have h5:(bf s 46).length=5:=by have:=ca (p:=((bf s 46).length:Int)≠5) df;omega
  refine lW (l:=[(90,iy),(123,ew),(124,iM),(125,eM)]) (ex:=fun _=>true) (wr:=fun _=>false) (pt:=fun _=>false) ⟨FF,zL,MH,wU,trivial⟩ [.s 0, .s 2, .b 1002, .s 4, .s 6, .b 170000, .s 23, .s 24] (fun n:Nat=>[(.s 25, .int n),(.b 1004, .a (aky (gU s ⟨#[46]⟩) n))]) (fun n=>n≤5∧∀j,j < n→(aA (nth aa (gU s ⟨#[46]⟩) j)).2=true) (fun n=>5 - n) 0 [] ⟨Nat.zero_le _,fun j hj=>absurd hj (by omega)⟩ ru ?_
  rintro n ⟨(hn:n≤5),hk⟩
  have db:∀n,n < 5→(nth aa (gU s ⟨#[46]⟩) n).size≤1000000:=fun n h=>by rw [hsp];exact Nat.le_trans (ra (s:=s) (c:=46) _ (bS (ek:=aa) (by omega))) hp
  have hL:((gU s ⟨#[46]⟩).length:Int)=5:=by rw [hsp,h5];rfl
  have iu:∀n,n < 5→(!(aA (nth aa (gU s ⟨#[46]⟩) n)).2)=true→bJ s=(bL,false):=fun n hn h=>by
   rw [hsp] at h
   rw [r3 h0 df,BU (B7 _ [] n (by rw [h5];exact hn) (xk h))]
  have cJ:∀n,(∀j,j < n→(aA (nth aa (gU s ⟨#[46]⟩) j)).2=true)→(!(aA (nth aa (gU s ⟨#[46]⟩) n)).2)=false→∀j,j < n+1→(aA (nth aa (gU s ⟨#[46]⟩) j)).2=true:=fun n h h2 j hj=>by
   by_cases hjn:j=n
   ·rw [hjn];exact cB h2
   ·exact h j (by omega)
  have agh:(∀j,j < 5→(aA (nth aa (gU s ⟨#[46]⟩) j)).2=true)→bJ s=bif decide (aY (OE (gU s ⟨#[46]⟩))≠s) then (bL,false) else (OE (gU s ⟨#[46]⟩),true):=by
   rw [hsp];exact G5 h0 h5
  have h6:n=0∨n=1∨n=2∨n=3∨n=4∨n=5:=by omega
  rcases h6 with rfl |rfl |rfl |rfl |rfl |rfl
  ·refine ⟨fun w1=>⟨⟨?_,?_⟩,⟨⟨tv,tv⟩,?_⟩,fun x2 w3=>⟨fun w4=>?_,fun w5=>⟨⟨?_,?_⟩,⟨?_,?_⟩,?_⟩⟩⟩,fun w6=>⟨⟨⟨⟨tv,tv,tv,tv,tv,tv⟩,tv⟩,tv⟩,fun x7 w8=>⟨fun w9=>?_,fun df=>?_⟩⟩⟩
   all_goals first|(exfalso;simp only [decide_eq_true_eq,decide_eq_false_iff_not] at *;omega)|refine au ?_|refine aw ?_|exact sa|(dsimp only [iy,jI];omega)|(dsimp only [ew,dE];omega)|(dsimp only [iM,gj];omega)|(dsimp only [eM,eB];omega)|exact sb|exact db 0 (by omega)|skip
   ·refine ⟨[],[],_,_,_,rfl,rp,(),tv,?_,?_,rfl⟩
    ·(show _=cD s);unfold cD;first |(rw [iu 0 (by omega) w4];rfl) |rfl
    ·rfl
   ·refine ⟨(1),[],?_,?_,?_⟩
    rotate_right
    ·exact rq
    ·exact ⟨by omega,cJ 0 hk w5⟩
    ·show 5 - 1 < 5 - 0;omega
  ·refine ⟨fun w1=>⟨⟨?_,?_⟩,⟨⟨tv,tv⟩,?_⟩,fun x2 w3=>⟨fun w4=>?_,fun w5=>⟨⟨?_,?_⟩,⟨?_,?_⟩,?_⟩⟩⟩,fun w6=>⟨⟨⟨⟨tv,tv,tv,tv,tv,tv⟩,tv⟩,tv⟩,fun x7 w8=>⟨fun w9=>?_,fun df=>?_⟩⟩⟩
   all_goals first|(exfalso;simp only [decide_eq_true_eq,decide_eq_false_iff_not] at *;omega)|refine au ?_|refine aw ?_|exact sa|(dsimp only [iy,jI];omega)|(dsimp only [ew,dE];omega)|(dsimp only [iM,gj];omega)|(dsimp only [eM,eB];omega)|exact sb|exact db 1 (by omega)|skip
   ·refine ⟨[],[],_,_,_,rfl,rp,(),tv,?_,?_,rfl⟩
    ·(show _=cD s);unfold cD;first |(rw [iu 1 (by omega) w4];rfl) |rfl
    ·rfl
   ·refine ⟨(2),[],?_,?_,?_⟩
    rotate_right
    ·exact rq
    ·exact ⟨by omega,cJ 1 hk w5⟩
    ·show 5 - 2 < 5 - 1;omega
  ·refine ⟨fun w1=>⟨⟨?_,?_⟩,⟨⟨tv,tv⟩,?_⟩,fun x2 w3=>⟨fun w4=>?_,fun w5=>⟨⟨?_,?_⟩,⟨?_,?_⟩,?_⟩⟩⟩,fun w6=>⟨⟨⟨⟨tv,tv,tv,tv,tv,tv⟩,tv⟩,tv⟩,fun x7 w8=>⟨fun w9=>?_,fun df=>?_⟩⟩⟩
   all_goals first|(exfalso;simp only [decide_eq_true_eq,decide_eq_false_iff_not] at *;omega)|refine au ?_|refine aw ?_|exact sa|(dsimp only [iy,jI];omega)|(dsimp only [ew,dE];omega)|(dsimp only [iM,gj];omega)|(dsimp only [eM,eB];omega)|exact sb|exact db 2 (by omega)|skip
   ·refine ⟨[],[],_,_,_,rfl,rp,(),tv,?_,?_,rfl⟩
    ·(show _=cD s);unfold cD;first |(rw [iu 2 (by omega) w4];rfl) |rfl
    ·rfl
   ·refine ⟨(3),[],?_,?_,?_⟩
    rotate_right
    ·exact rq
    ·exact ⟨by omega,cJ 2 hk w5⟩
    ·show 5 - 3 < 5 - 2;omega
  ·refine ⟨fun w1=>⟨⟨?_,?_⟩,⟨⟨tv,tv⟩,?_⟩,fun x2 w3=>⟨fun w4=>?_,fun w5=>⟨⟨?_,?_⟩,⟨?_,?_⟩,?_⟩⟩⟩,fun w6=>⟨⟨⟨⟨tv,tv,tv,tv,tv,tv⟩,tv⟩,tv⟩,fun x7 w8=>⟨fun w9=>?_,fun df=>?_⟩⟩⟩
   all_goals first|(exfalso;simp only [decide_eq_true_eq,decide_eq_false_iff_not] at *;omega)|refine au ?_|refine aw ?_|exact sa|(dsimp only [iy,jI];omega)|(dsimp only [ew,dE];omega)|(dsimp only [iM,gj];omega)|(dsimp only [eM,eB];omega)|exact sb|exact db 3 (by omega)|skip
   ·refine ⟨[],[],_,_,_,rfl,rp,(),tv,?_,?_,rfl⟩
    ·(show _=cD s);unfold cD;first |(rw [iu 3 (by omega) w4];rfl) |rfl
    ·rfl
   ·refine ⟨(4),[],?_,?_,?_⟩
    rotate_right
    ·exact rq
    ·exact ⟨by omega,cJ 3 hk w5⟩
    ·show 5 - 4 < 5 - 3;omega
  ·refine ⟨fun w1=>⟨⟨?_,?_⟩,⟨⟨tv,tv⟩,?_⟩,fun x2 w3=>⟨fun w4=>?_,fun w5=>⟨⟨?_,?_⟩,⟨?_,?_⟩,?_⟩⟩⟩,fun w6=>⟨⟨⟨⟨tv,tv,tv,tv,tv,tv⟩,tv⟩,tv⟩,fun x7 w8=>⟨fun w9=>?_,fun df=>?_⟩⟩⟩
   all_goals first|(exfalso;simp only [decide_eq_true_eq,decide_eq_false_iff_not] at *;omega)|refine au ?_|refine aw ?_|exact sa|(dsimp only [iy,jI];omega)|(dsimp only [ew,dE];omega)|(dsimp only [iM,gj];omega)|(dsimp only [eM,eB];omega)|exact sb|exact db 4 (by omega)|skip
   ·refine ⟨[],[],_,_,_,rfl,rp,(),tv,?_,?_,rfl⟩
    ·(show _=cD s);unfold cD;first |(rw [iu 4 (by omega) w4];rfl) |rfl
    ·rfl
   ·refine ⟨(5),[],?_,?_,?_⟩
    rotate_right
    ·exact rq
    ·exact ⟨by omega,cJ 4 hk w5⟩
    ·show 5 - 5 < 5 - 4;omega
  ·refine ⟨fun w1=>⟨⟨?_,?_⟩,⟨⟨tv,tv⟩,?_⟩,fun x2 w3=>⟨fun w4=>?_,fun w5=>⟨⟨?_,?_⟩,?_⟩⟩⟩,fun w6=>⟨⟨⟨⟨tv,tv,tv,tv,tv,tv⟩,tv⟩,tv⟩,fun x7 w8=>⟨fun w9=>?_,fun df=>?_⟩⟩⟩
   all_goals first|(exfalso;simp only [decide_eq_true_eq,decide_eq_false_iff_not] at *;omega)|refine au ?_|refine aw ?_|exact sa|(dsimp only [iy,jI];omega)|(dsimp only [ew,dE];omega)|(dsimp only [iM,gj];omega)|(dsimp only [eM,eB];omega)|exact sb|skip
   ·have e:bJ s=(bL,false):=by rw [agh hk,show decide (aY (OE (gU s ⟨#[46]⟩))≠s)=true from w9];rfl
    refine ⟨[],[],_,_,_,rfl,rp,(),tv,?_,?_,rfl⟩
    ·(show _=cD s);unfold cD;first |(rw [e];rfl) |rfl
    ·rfl
   ·have e:bJ s=(OE (gU s ⟨#[46]⟩),true):=by rw [agh hk,show decide (aY (OE (gU s ⟨#[46]⟩))≠s)=false from df];rfl
    refine ⟨[],[],_,_,_,rfl,rp,(),tv,?_,?_,rfl⟩
    ·(show _=cD s);unfold cD;first |(rw [e];rfl) |rfl
    ·rfl
end GL
namespace GL
def oM (p:Pt):Prop:=True
def s6 (p:Pt):AV:=.s (.q (!(ar p)))
def SF (p:Pt):List AV:=[]
def qp:Con where
 A:=[.a [.int, .int, .int, .int, .int]]
 B:=[]
 pre:=fun x b=>oM x
 α:=fun _ _=>Unit
 φ:=fun _ _ _=>True
 r:=fun x b _=>s6 x
 o:=fun x b _=>SF x
 nf:=0
set_option maxRecDepth 100000 in
theorem IK:Has Tryz.prog 126 qp:=by
 refine Has.ofEI (fun _=>true) (fun _=>false) (fun _=>false) (l:=[(35,bB)]) ⟨eJ,trivial⟩ (fn:=Tryz.f126) Tryz.func126 rfl (by decide) (cH rfl) ?_
 rintro ⟨(p1:Int),(p2:Int),(p3:Int),(p4:Int),(p5:Int)⟩ _ (hp:oM (p1,p2,p3,p4,p5))
 show vc _ _ _ _ (entry [.a [.int p1, .int p2, .int p3, .int p4, .int p5]] []) _
 refine ⟨⟨⟨⟨tv,tv,tv,tv,tv,tv⟩,tv⟩,tv⟩,fun x1 w2=>?_⟩
 all_goals first|refine au ?_|refine aw ?_|exact sa|(dsimp only [bB,bV];omega)|exact sb|skip
 refine ⟨[],[],_,_,_,rfl,rp,(),tv,?_,?_,rfl⟩
 ·(show _=s6 (p1,p2,p3,p4,p5));unfold s6;first |rfl
 ·rfl
def ox:List Pt→Nat→Int
 |[],_=> -1
 |p::l,i=>bif ar p then ox l (i+1) else i
theorem qV {b:Bool} (h:(!b)=true):b=false:=by cases b with
 |false=>rfl
 |true=>cases h
def oy (l:List Pt):Prop:=l.length≤1000000
def iE (l:List Pt):AV:=.s (.int (ox l 0))
def HK (l:List Pt):List AV:=[]
def rJ:Con where
 A:=[.s (.vz ab), .fn 126 []]
 B:=[]
 pre:=fun x b=>oy (x.1)
 α:=fun _ _=>Unit
 φ:=fun _ _ _=>True
 r:=fun x b _=>iE (x.1)
 o:=fun x b _=>HK (x.1)
 nf:=0
set_option maxRecDepth 100000 in
theorem K1:Has Tryz.prog 93 rJ:=by
 refine Has.ofEI (fun _=>true) (fun _=>false) (fun _=>false) (l:=[(126,qp)]) ⟨IK,trivial⟩ (fn:=Tryz.f93) Tryz.func93 rfl (by decide) (cH rfl) ?_
 rintro ⟨(l:List Pt),_⟩ _ (hp:oy l)
 show vc _ _ _ _ (entry [.s (.vz ab l), .fn 126 []] []) _
 have hp:l.length≤1000000:=hp
 refine ?_
 all_goals first|refine au ?_|refine aw ?_|exact sa|(dsimp only [qp,oM];omega)|exact sb|skip
 refine lW (l:=[(126,qp)]) (ex:=fun _=>true) (wr:=fun _=>false) (pt:=fun _=>false) ⟨IK,tv⟩ [.s 0, .s 1, .s 6, .s 7] (fun i:Nat=>[(.s 8, .int i)]) (fun i=>i≤l.length∧ox (l.drop i) i=ox l 0) (fun i=>l.length - i) 0 [] ⟨Nat.zero_le _,rfl⟩ ru ?_
 rintro i ⟨(hi:i≤l.length),(hr:ox (l.drop i) i=ox l 0)⟩
 have cJ:i < l.length→l.drop i=nth ab l i::l.drop (i+1):=fun h=>bP (ek:=ab) h
 have cg:decide ((i:Int) < (l.length:Int))=true→i < l.length:=fun h=>by have:=cw h;omega
 refine ⟨fun w1=>⟨⟨?_,?_⟩,⟨⟨⟨tv,tv,tv,tv,tv,tv⟩,tv⟩,tv⟩,fun x2 w3=>⟨fun w4=>?_,fun w5=>⟨⟨?_,?_⟩,?_⟩⟩⟩,fun w6=>?_⟩
 all_goals first|refine au ?_|refine aw ?_|exact sa|(dsimp only [qp,oM];omega)|exact sb|(show (i:Int)+1≤9223372036854775807;omega)|skip
 ·have e:ox l 0=(i:Int):=by rw [←hr,cJ (cg w1),ox,show ar (nth ab l i)=false from qV w4];rfl
  refine ⟨[],[],_,_,_,rfl,rp,(),tv,?_,?_,rfl⟩
  ·(show _=iE l);unfold iE;first |(rw [e];rfl) |rfl
  ·rfl
 ·refine ⟨(i+1),[],?_,?_,?_⟩
  rotate_right
  ·exact rq
  ·refine ⟨cg w1,?_⟩
   rw [←hr,cJ (cg w1),ox,show ar (nth ab l i)=true from cB w5];rfl
  ·show l.length - (i+1) < l.length - i;have:=cg w1;omega
 ·have e:ox l 0= -1:=by rw [←hr,List.drop_eq_nil_of_le (by have:=ca w6;omega)];rfl
  refine ⟨[],[],_,_,_,rfl,rp,(),tv,?_,?_,rfl⟩
  ·(show _=iE l);unfold iE;first |(rw [e];rfl) |rfl
  ·rfl
theorem GH:∀(l:List Pt) (i:Nat),decide (ox l i≥0)=l.any (fun p=> !(ar p))
 |[],_=>rfl
 |p::l,i=>by
  rw [ox,List.any_cons]
  cases ar p with
  |true=>exact GH l (i+1)
  |false=>show decide ((i:Int)≥0)=true;exact decide_eq_true (Int.natCast_nonneg i)
def kh (l:List Pt):Prop:=l.length≤1000000
def rA (l:List Pt):AV:=.s (.q (l.any (fun p=> !(ar p))))
def OQ (l:List Pt):List AV:=[]
def lr:Con where
 A:=[.s (.vz ab), .fn 126 []]
 B:=[]
 pre:=fun x b=>kh (x.1)
 α:=fun _ _=>Unit
 φ:=fun _ _ _=>True
 r:=fun x b _=>rA (x.1)
 o:=fun x b _=>OQ (x.1)
 nf:=0
set_option maxRecDepth 100000 in
theorem DZ:Has Tryz.prog 60 lr:=by
 refine Has.ofEI (fun _=>true) (fun _=>false) (fun _=>false) (l:=[(93,rJ)]) ⟨K1,trivial⟩ (fn:=Tryz.f60) Tryz.func60 rfl (by decide) (cH rfl) ?_
 rintro ⟨(l:List Pt),_⟩ _ (hp:kh l)
 show vc _ _ _ _ (entry [.s (.vz ab l), .fn 126 []] []) _
 have hp:l.length≤1000000:=hp
 refine ⟨⟨⟨tv,tv,tv⟩,?_⟩,fun x1 w2=>?_⟩
 all_goals first|refine au ?_|refine aw ?_|exact sa|(dsimp only [rJ,oy];omega)|exact sb|exact hp|skip
 refine ⟨[],[],_,_,_,rfl,rp,(),tv,?_,?_,rfl⟩
 ·(show _=rA l);unfold rA;first |(rw [←GH l 0];rfl) |rfl
 ·rfl
theorem JD {l:List Pt} (h:(bz l).2=false):bz l=(⟨#[]⟩,false):=by
 cases h0:decide ((l.length:Int)≠4) with
 |true=>exact wZ h0
 |false=>
  rw [wY h0] at h ⊢
  match e:gR l 0 ⟨#[]⟩ false with
  |none=>exact o8 e
  |some (o,sm)=>
   rw [sB e] at h ⊢
   cases hs: !sm with
   |true=>exact C1 hs
   |false=>rw [w0 hs] at h;cases h
theorem PU {l:List Pt} (h0:decide ((l.length:Int)≠4)=false) (h:l.any (fun p=> !(ar p))=false):bz l=(⟨#[]⟩,false):=by
 cases h2:(bz l).2 with
 |true=>
  obtain ⟨a,b,c,d,rfl,ha,hb,hc,hd,hs,_⟩:=l8 h2
  simp only [List.any_cons,List.any_nil,Bool.or_false] at h
  simp_all
 |false=>exact JD h2
def ow (l:List Pt) (n:Nat):List ByteArray:=(l.take n).map aY
theorem DL {l:List Pt} {n:Nat} (h:n < l.length):ow l (n+1)=ow l n++[aY (nth ab l n)]:=by
 unfold ow
 rw [List.take_succ,oB (ek:=ab) h,List.map_append];rfl
theorem XV {l:List Pt} (h4:l.length=4) (n:Nat) (hn:n < 4) (h:aV (nth ab l n)=false):bz l=(⟨#[]⟩,false):=by
 cases h2:(bz l).2 with
 |true=>
  obtain ⟨a,b,c,d,rfl,ha,hb,hc,hd,_⟩:=l8 h2
  have h6:n=0∨n=1∨n=2∨n=3:=by omega
  rcases h6 with rfl |rfl |rfl |rfl
  ·exact absurd (ha.symm.trans h) (by decide)
  ·exact absurd (hb.symm.trans h) (by decide)
  ·exact absurd (hc.symm.trans h) (by decide)
  ·exact absurd (hd.symm.trans h) (by decide)
 |false=>exact JD h2
theorem aaP {l:List Pt} (h4:l.length=4):(Lib.join ((ow l 4).map (·.data.toList)) (⟨#[44]⟩:ByteArray).data.toList).length≤1000000:=by
 match l,h4 with
 |[a,b,c,d],_=>
  have h:=congrArg List.length (agZ (aY a) (aY b) (aY c) (aY d))
  have e1:=gh a;have e2:=gh b;have e3:=gh c;have e4:=gh d
  rw [ff] at e1 e2 e3 e4
  rw [FC] at h
  have h':(Lib.join ((ow [a,b,c,d] 4).map (·.data.toList)) (⟨#[44]⟩:ByteArray).data.toList).length=_:=h
  rw [h']
  simp only [List.length_append,List.length_cons]
  omega
theorem UC {l:List Pt} (h4:l.length=4) (hs:l.any (fun p=> !(ar p))=true) (hk:∀j,j < 4→aV (nth ab l j)=true):bz l=(zO ⟨#[44]⟩ (ow l 4),true):=by
 have h2:(bz l).2=true:=vL h4 (fun p hp=>by
  obtain ⟨j,hj,rfl⟩:=List.getElem_of_mem hp
  have:=hk j (by omega)
  unfold nth at this;rw [List.getElem?_eq_getElem hj] at this;exact this) (by rw [hs];rfl)
 obtain ⟨a,b,c,d,rfl,ha,hb,hc,hd,_,hl⟩:=l8 h2
 have e:(bz [a,b,c,d]).1=zO ⟨#[44]⟩ (ow [a,b,c,d] 4):=vy (by rw [hl];exact (agZ _ _ _ _).symm)
 rw [←e,←h2]
def nN (l:List Pt):Prop:=True
def eV (l:List Pt):AV:=.t [.s (.str (bz l).1), .s (.q (bz l).2)]
def WR (l:List Pt):List AV:=[]
def pd:Con where
 A:=[.s (.vz ab)]
 B:=[]
 pre:=fun x b=>nN x
 α:=fun _ _=>Unit
 φ:=fun _ _ _=>True
 r:=fun x b _=>eV x
 o:=fun x b _=>WR x
 nf:=0
set_option maxRecDepth 100000 in
theorem MI:Has Tryz.prog 92 pd:=by
 refine Has.ofEI (fun _=>true) (fun _=>false) (fun _=>false) (l:=[(60,lr),(34,cx),(125,eM),(127,kT)]) ⟨DZ,jl,wU,PM,trivial⟩ (fn:=Tryz.f92) Tryz.func92 rfl (by decide) (cH rfl) ?_
 rintro (l:List Pt) _ (hp:nN l)
 show vc _ _ _ _ (entry [.s (.vz ab l)] []) _
 have h4:decide ((l.length:Int)≠4)=false→l.length=4:=fun h=>by have:=ca h;omega
 refine ⟨tv,fun w1=>?_,fun w2=>⟨⟨⟨tv,tv,tv⟩,?_⟩,fun x3 w4=>⟨fun w5=>?_,fun w6=>?_⟩⟩⟩
 all_goals first|refine au ?_|refine aw ?_|exact sa|(dsimp only [lr,kh];omega)|(dsimp only [cx,cM];omega)|(dsimp only [eM,eB];omega)|(dsimp only [kT,lQ];omega)|exact sb|(show l.length≤1000000;have:=h4 (by assumption);omega)|skip
 ·refine ⟨[],[],_,_,_,rfl,rp,(),tv,?_,?_,rfl⟩
  ·(show _=eV l);unfold eV;first |(rw [wZ w1];rfl) |rfl
  ·rfl
 ·have e:bz l=(⟨#[]⟩,false):=PU w2 (qV w5)
  refine ⟨[],[],_,_,_,rfl,rp,(),tv,?_,?_,rfl⟩
  ·(show _=eV l);unfold eV;first |(rw [e];rfl) |rfl
  ·rfl
 ·have hl:=h4 w2
  have hs:l.any (fun p=> !(ar p))=true:=cB w6
  refine lW (l:=[(60,lr),(34,cx),(125,eM),(127,kT)]) (ex:=fun _=>true) (wr:=fun _=>false) (pt:=fun _=>false) ⟨DZ,jl,wU,PM,trivial⟩ [.s 0, .s 15, .s 16] (fun y:Nat×List ByteArray=>match y.1 with |0=>[(.s 4, .s (.v (.slice none 0 0))),(.s 17, .int 0)] |n+1=>[(.s 4, .s (.xs 1019 1 0 y.2.length)),(.s 17, .int ((n+1:Nat):Int)),(.b 1019, .rs aa y.2)]) (fun y=>y.1≤4∧y.2=ow l y.1∧∀j,j < y.1→aV (nth ab l j)=true) (fun y=>4 - y.1) (0,[]) [] ⟨Nat.zero_le _,rfl,fun j hj=>absurd hj (by omega)⟩ ru ?_
  rintro ⟨n,T⟩ ⟨(hn:n≤4),(hT:T=ow l n),hk⟩
  have hlen:T.length≤4:=by rw [hT];unfold ow;rw [List.length_map,List.length_take];omega
  have iu:∀n,n < 4→(!(aV (nth ab l n)))=true→bz l=(⟨#[]⟩,false):=fun n hn h=>XV hl n hn (qV h)
  have cJ:∀n,(∀j,j < n→aV (nth ab l j)=true)→(!(aV (nth ab l n)))=false→∀j,j < n+1→aV (nth ab l j)=true:=fun n h h2 j hj=>by
   by_cases hjn:j=n
   ·rw [hjn];exact cB h2
   ·exact h j (by omega)
  cases n with
  |zero=>
   refine ⟨fun w1=>⟨⟨?_,?_⟩,⟨⟨⟨tv,tv,tv,tv,tv,tv⟩,tv⟩,tv⟩,fun x2 w3=>⟨fun w4=>?_,fun w5=>⟨⟨⟨⟨tv,tv,tv,tv,tv,tv⟩,tv⟩,tv⟩,fun x6 w7=>⟨tv,⟨⟨?_,?_⟩,?_,?_⟩,⟨?_,?_⟩,?_⟩⟩⟩⟩,fun w8=>⟨⟨⟨tv,tv,tv⟩,?_,?_⟩,fun x9 df=>?_⟩⟩
   all_goals first|(exfalso;simp only [decide_eq_true_eq,decide_eq_false_iff_not] at *;omega)|refine au ?_|refine aw ?_|exact sa|(dsimp only [lr,kh];omega)|(dsimp only [cx,cM];omega)|(dsimp only [eM,eB];omega)|(dsimp only [kT,lQ];omega)|exact sb|skip
   ·refine ⟨[],[],_,_,_,rfl,rp,(),tv,?_,?_,rfl⟩
    ·(show _=eV l);unfold eV;first |(rw [iu 0 (by omega) w4];rfl) |rfl
    ·rfl
   ·refine ⟨(1,[aY (nth ab l 0)]),[(1019,1028)],?_,?_,?_⟩
    rotate_right
    ·exact rq
    ·exact ⟨by show 1≤4;omega,(by show _=ow l (0+1);rw [DL (by omega)];rfl),cJ 0 hk w5⟩
    ·show 4 - 1 < 4 - 0;omega
  |succ n=>
   have cg:decide (((n+1:Nat):Int) < (l.length:Int))=true→n+1 < 4:=fun h=>by have:=cw h;omega
   have hj:n+1=4→(Lib.join (T.map (·.data.toList)) (⟨#[44]⟩:ByteArray).data.toList).length≤1000000:=fun h=>by rw [hT,h];exact aaP hl
   have ob:decide (((n+1:Nat):Int) < (l.length:Int))=false→n+1=4:=fun h=>by have:=ca h;omega
   refine ⟨fun w1=>⟨⟨?_,?_⟩,⟨⟨⟨tv,tv,tv,tv,tv,tv⟩,tv⟩,tv⟩,fun x2 w3=>⟨fun w4=>?_,fun w5=>⟨⟨⟨⟨tv,tv,tv,tv,tv,tv⟩,tv⟩,tv⟩,fun x6 w7=>⟨tv,⟨⟨?_,?_⟩,?_,?_⟩,⟨?_,?_⟩,?_⟩⟩⟩⟩,fun w8=>⟨⟨⟨⟨?_,?_⟩,tv,tv⟩,?_,?_⟩,fun x9 df=>?_⟩⟩
   all_goals first|(exfalso;simp only [decide_eq_true_eq,decide_eq_false_iff_not] at *;omega)|refine au ?_|refine aw ?_|exact sa|(dsimp only [lr,kh];omega)|(dsimp only [cx,cM];omega)|(dsimp only [eM,eB];omega)|(dsimp only [kT,lQ];omega)|exact sb|(show T.length+1≤1048576;omega)|exact hj (ob w8)|(show T.length≤1000000;omega)|skip
   ·refine ⟨[],[],_,_,_,rfl,rp,(),tv,?_,?_,rfl⟩
    ·(show _=eV l);unfold eV;first |(rw [iu (n+1) (cg w1) w4];rfl) |rfl
    ·rfl
   ·have bM:=cg w1
    refine ⟨(n+2,T++[aY (nth ab l (n+1))]),[(1019,1028)],?_,?_,?_⟩
    rotate_right
    ·exact rq
    ·exact ⟨by show n+2≤4;omega,by show _=ow l (n+1+1);rw [DL (by omega),hT],cJ (n+1) hk w5⟩
    ·show 4 - (n+2) < 4 - (n+1);omega
   ·have e:bz l=(zO ⟨#[44]⟩ T,true):=by rw [hT,ob w8];exact UC hl hs (by rw [←ob w8];exact hk)
    refine ⟨[],[],_,_,_,rfl,rp,(),tv,?_,?_,rfl⟩
    ·(show _=eV l);unfold eV;first |(rw [e];rfl) |rfl
    ·rfl
end GL
namespace GL
theorem VX {s:ByteArray} (h:(bJ s).2=true):aY (bJ s).1=s:=by
 cases h0:decide (s=⟨#[45]⟩) with
 |true=>rw [wE h0,cw h0];rfl
 |false=>
  cases h5:decide (((bf s 46).length:Int)≠5) with
  |true=>rw [BV h0 h5] at h;cases h
  |false=>
   have hl:(bf s 46).length=5:=by have:=ca (p:=((bf s 46).length:Int)≠5) h5;omega
   have hk:∀j,j < 5→(aA (nth aa (bf s 46) j)).2=true:=fun j hj=>by
    cases hb:(aA (nth aa (bf s 46) j)).2 with
    |true=>rfl
    |false=>rw [r3 h0 h5,BU (B7 _ [] j (by rw [hl];exact hj) hb)] at h;cases h
   have e:=G5 h0 hl hk
   cases hd:decide (aY (OE (bf s 46))≠s) with
   |true=>rw [e,hd] at h;cases h
   |false=>
    rw [e,hd]
    exact Decidable.not_not.1 (ca (p:=¬aY (OE (bf s 46))=s) hd)
def qG (t:ByteArray):Pt:=(bJ t).1
theorem UF:∀ {l:List ByteArray} {out o:List Pt} {sm sm':Bool},oh l out sm=some (o,sm')→o=out++l.map qG∧(∀t∈l,(bJ t).2=true)∧sm'=(sm||(l.map qG).any (fun p=> !(ar p)))
 |[],out,o,sm,sm',h=>by
  unfold oh at h;cases h;simp
 |t::l,out,o,sm,sm',h=>by
  unfold oh at h
  cases ht:(bJ t).2 with
  |false=>rw [ht] at h;cases h
  |true=>
   rw [ht] at h
   obtain ⟨h1,h2,h3⟩:=UF (l:=l) h
   refine ⟨by rw [h1];simp [qG],?_,by rw [h3];simp [qG,Bool.or_assoc]⟩
   intro t' ht'
   rcases List.mem_cons.1 ht' with rfl |h'
   ·exact ht
   ·exact h2 t' h'
theorem X0 {s:ByteArray} (h:(bd s).2=false):bd s=([],false):=by
 match e:oh (bf s 44) [] false with
 |none=>exact xa e
 |some (o,sm)=>
  rw [jP e] at h ⊢
  cases h4:decide ((o.length:Int)≠4) with
  |true=>exact zY h4
  |false=>
   cases hs: !sm with
   |true=>exact zX hs
   |false=>rw [vN h4 hs] at h;cases h
theorem y0 {s:ByteArray} (h:(bd s).2=true):(bf s 44).length=4∧(bd s).1=(bf s 44).map qG∧(∀t∈bf s 44,(bJ t).2=true)∧bz ((bf s 44).map qG)=(s,true):=by
 match e:oh (bf s 44) [] false with
 |none=>rw [xa e] at h;cases h
 |some (o,sm)=>
  rw [jP e] at h ⊢
  obtain ⟨h1,h2,h3⟩:=UF e
  rw [List.nil_append] at h1
  cases h4:decide ((o.length:Int)≠4) with
  |true=>rw [zY h4] at h;cases h
  |false=>
   cases hs: !sm with
   |true=>rw [zX hs] at h;cases h
   |false=>
    rw [vN h4 hs]
    have hol:o.length=4:=by have:=ca (p:=(o.length:Int)≠4) h4;omega
    have hl:(bf s 44).length=4:=by rw [h1,List.length_map] at hol;exact hol
    refine ⟨hl,h1,h2,?_⟩
    have alf:((bf s 44).map qG).any (fun p=> !(ar p))=true:=by rw [Bool.false_or] at h3;rw [←h3];exact cB hs
    have hy:(bz ((bf s 44).map qG)).2=true:=vL (by rw [List.length_map];exact hl) (fun p hp=>by
     obtain ⟨t,_,rfl⟩:=List.mem_map.1 hp
     exact G6 t) (by rw [alf];rfl)
    obtain ⟨a,b,c,d,he,_,_,_,_,_,hlb⟩:=l8 hy
    have aey:=aaA s 44 (l:=bf s 44) rfl
    match TZ:bf s 44,hl with
    |[w,x,y,z],_=>
     rw [TZ] at he hlb h2 hy aey
     have hi:∀t∈[w,x,y,z],aY (qG t)=t:=fun t ht=>VX (h2 t ht)
     injection he with ea he;injection he with eb he;injection he with ec he;injection he with ed he
     rw [←ea,←eb,←ec,←ed,hi w (by simp),hi x (by simp),hi y (by simp),hi z (by simp)] at hlb
     have e1:(bz (List.map qG [w,x,y,z])).1=s:=vy (by rw [hlb,←aey];rfl)
     rw [←e1,←hy]
theorem XY {s:ByteArray} {n:Nat} (hn:n < (bf s 44).length) (h:(!(bJ (nth aa (bf s 44) n)).2)=true):(bd s).2=false:=by
 cases h2:(bd s).2 with
 |false=>rfl
 |true=>
  obtain ⟨_,_,h3,_⟩:=y0 h2
  have:=h3 _ (bS (ek:=aa) hn)
  rw [this] at h;cases h
theorem UE {s:ByteArray} (h:(bf s 44).length≠4):(bd s).2=false:=by
 cases h2:(bd s).2 with
 |false=>rfl
 |true=>exact absurd (y0 h2).1 h
theorem XX {s:ByteArray} {l:List Pt} (hl:l=(bf s 44).map qG) (h:(bz l).2=false∨(bz l).1≠s):(bd s).2=false:=by
 cases h2:(bd s).2 with
 |false=>rfl
 |true=>
  have e:=(y0 h2).2.2.2
  rw [←hl] at e
  rcases h with h |h
  ·rw [e] at h;cases h
  ·rw [e] at h;exact absurd rfl h
theorem MR {l:List ByteArray} {n:Nat} (h:n < l.length):(l.take (n+1)).map qG=(l.take n).map qG++[qG (nth aa l n)]:=by
 rw [List.take_succ,oB (ek:=aa) h,List.map_append];rfl
def qS (s:ByteArray):Prop:=s.size≤1000000
def R1 (s:ByteArray) (z:Bool):Prop:=z=(bd s).2
def cP (s:ByteArray) (z:Bool):AV:=.t [match z with |true=>.s (.xs 0 5 0 (bd s).1.length) |false=>.s (.v (.slice none 0 0)), .s (.q z)]
def dk (s:ByteArray) (z:Bool):List AV:=match z with |true=>[.rs ab (bd s).1] |false=>[.zz]
def DE:Con where
 A:=[.s .str]
 B:=[]
 pre:=fun x b=>qS x
 α:=fun _ _=>Bool
 φ:=fun x b z=>R1 x z
 r:=fun x b z=>cP x z
 o:=fun x b z=>dk x z
 nf:=1
set_option maxRecDepth 100000 in
theorem abZ:Has Tryz.prog 59 DE:=by
 refine Has.ofZI (fun _=>true) (fun _=>false) (fun _=>false) (l:=[(90,iy),(91,pc),(92,pd)]) ⟨FF,MG,MI,trivial⟩ (fn:=Tryz.f59) Tryz.func59 rfl (by decide) (cH rfl) ?_
 rintro (s:ByteArray) _ (hp:qS s)
 show vc _ _ _ _ (entry [.str s] []) _
 unfold qS at hp
 have hsp:gU s ⟨#[44]⟩=bf s 44:=QV s 44
 have hL:(gU s ⟨#[44]⟩).length≤s.size+1:=by rw [hsp];exact (tU s 44).2
 refine ⟨⟨⟨tv,tv,tv⟩,?_,?_⟩,fun x1 w2=>?_⟩
 all_goals first|refine au ?_|refine aw ?_|exact sa|(dsimp only [iy,jI];omega)|(dsimp only [pc,k9];omega)|(dsimp only [pd,nN];omega)|exact sb|(show 1≤(1:Nat);omega)|skip
 have db:∀n,n < (gU s ⟨#[44]⟩).length→(nth aa (gU s ⟨#[44]⟩) n).size≤1000000:=fun n h=>by rw [hsp] at *;exact Nat.le_trans (ra (s:=s) (c:=44) _ (bS (ek:=aa) h)) hp
 have iu:∀n,n < (gU s ⟨#[44]⟩).length→(!(bJ (nth aa (gU s ⟨#[44]⟩) n)).2)=true→false=(bd s).2:=fun n hn h=>by rw [hsp] at *;exact (XY hn h).symm
 have ajm:(gU s ⟨#[44]⟩).length≠4→false=(bd s).2:=fun h=>by rw [hsp] at h;exact (UE h).symm
 have I0:∀l,l=(gU s ⟨#[44]⟩).map qG→((bz l).2=false∨(bz l).1≠s)→false=(bd s).2:=fun l hl h=>by rw [hsp] at hl;exact (XX hl h).symm
 refine lW (l:=[(90,iy),(91,pc),(92,pd)]) (ex:=fun _=>true) (wr:=fun _=>false) (pt:=fun _=>false) ⟨FF,MG,MI,tv⟩ [.s 0, .s 12, .s 13] (fun y:Nat×List Pt=>match y.1 with |0=>[(.s 4, .s (.v (.slice none 0 0))),(.s 14, .int 0)] |n+1=>[(.s 4, .s (.xs 1019 5 0 y.2.length)),(.s 14, .int ((n+1:Nat):Int)),(.b 1019, .rs ab y.2)]) (fun y=>y.1≤(gU s ⟨#[44]⟩).length∧y.1≤4∧y.2=((gU s ⟨#[44]⟩).take y.1).map qG) (fun y=>4 - y.1) (0,[]) [] ⟨Nat.zero_le _,Nat.zero_le _,rfl⟩ ru ?_
 rintro ⟨n,T⟩ ⟨(hn:n≤(gU s ⟨#[44]⟩).length),(hn4:n≤4),(hT:T=((gU s ⟨#[44]⟩).take n).map qG)⟩
 have hlen:T.length=n:=by rw [hT,List.length_map,List.length_take];omega
 have cg:∀m:Nat,decide ((m:Int) < ((gU s ⟨#[44]⟩).length:Int))=true→m < (gU s ⟨#[44]⟩).length:=fun m h=>by have:=cw h;omega
 have ob:decide ((n:Int) < ((gU s ⟨#[44]⟩).length:Int))=false→T=(gU s ⟨#[44]⟩).map qG:=fun h=>by
  have:=ca h
  rw [hT,List.take_of_length_le (by omega)]
 have ajs:(!(bz T).2)=false→decide ((bz T).1≠s)=false→bd s=(T,true):=fun h h2=>by
  have e:(bz T).1=s:=Decidable.not_not.1 (ca (p:=¬(bz T).1=s) h2)
  rw [←e];exact D9 (cB h)
 cases n with
 |zero=>
  have hT0:T=[]:=hT
  subst hT0
  refine ⟨fun w1=>⟨⟨?_,?_⟩,⟨⟨tv,tv⟩,?_⟩,fun x2 w3=>⟨tv,fun w4=>?_,fun w5=>⟨fun w6=>?_,fun w7=>⟨tv,⟨⟨?_,?_⟩,?_,?_⟩,⟨?_,?_⟩,?_⟩⟩⟩⟩,fun w8=>⟨⟨⟨tv,tv⟩,tv⟩,fun x9 df=>⟨tv,fun ka=>?_,fun dC=>⟨fun iA=>?_,fun gx=>?_⟩⟩⟩⟩
  all_goals first|(exfalso;simp only [decide_eq_true_eq,decide_eq_false_iff_not] at *;omega)|refine au ?_|refine aw ?_|exact sa|(dsimp only [iy,jI];omega)|(dsimp only [pc,k9];omega)|(dsimp only [pd,nN];omega)|exact sb|exact db 0 (cg 0 w1)|skip
  ·refine ⟨[],[],_,_,_,rfl,rp,false,1,(iu 0 (cg 0 w1) w4),?_,?_,rfl⟩
   ·(show _=cP s false);unfold cP;first |(rw [rfl];rfl) |rfl
   ·(show _=dk s false);unfold dk;first |(rw [rfl];rfl) |rfl
  ·refine ⟨(1,[qG (nth aa (gU s ⟨#[44]⟩) 0)]),[(1019,1033)],?_,?_,?_⟩
   rotate_right
   ·exact rq
   ·exact ⟨cg 0 w1,by show 1≤4;omega,by show _=((gU s ⟨#[44]⟩).take (0+1)).map qG;rw [MR (cg 0 w1)];rfl⟩
   ·show 4 - 1 < 4 - 0;omega
  ·refine ⟨[],[],_,_,_,rfl,rp,false,1,(I0 [] (ob w8) (.inl (qV ka))),?_,?_,rfl⟩
   ·(show _=cP s false);unfold cP;first |(rw [rfl];rfl) |rfl
   ·(show _=dk s false);unfold dk;first |(rw [rfl];rfl) |rfl
  ·refine ⟨[],[],_,_,_,rfl,rp,false,1,(I0 [] (ob w8) (.inr (cw iA))),?_,?_,rfl⟩
   ·(show _=cP s false);unfold cP;first |(rw [rfl];rfl) |rfl
   ·(show _=dk s false);unfold dk;first |(rw [rfl];rfl) |rfl
  ·exact absurd dC (by decide)
 |succ n=>
  refine ⟨fun w1=>⟨⟨?_,?_⟩,⟨⟨tv,tv⟩,?_⟩,fun x2 w3=>⟨tv,fun w4=>?_,fun w5=>⟨fun w6=>?_,fun w7=>⟨tv,⟨⟨?_,?_⟩,?_,?_⟩,⟨?_,?_⟩,?_⟩⟩⟩⟩,fun w8=>⟨⟨⟨⟨?_,?_⟩,tv⟩,tv⟩,fun x9 df=>⟨tv,fun ka=>?_,fun dC=>⟨fun iA=>?_,fun gx=>?_⟩⟩⟩⟩
  all_goals first|(exfalso;simp only [decide_eq_true_eq,decide_eq_false_iff_not] at *;omega)|refine au ?_|refine aw ?_|exact sa|(dsimp only [iy,jI];omega)|(dsimp only [pc,k9];omega)|(dsimp only [pd,nN];omega)|exact sb|exact db (n+1) (cg (n+1) w1)|skip
  ·refine ⟨[],[],_,_,_,rfl,rp,false,1,(iu (n+1) (cg (n+1) w1) w4),?_,?_,rfl⟩
   ·(show _=cP s false);unfold cP;first |(rw [rfl];rfl) |rfl
   ·(show _=dk s false);unfold dk;first |(rw [rfl];rfl) |rfl
  ·have h4:T.length=4:=by have:=cw (p:=(T.length:Int)=4) w6;omega
   refine ⟨[],[],_,_,_,rfl,rp,false,1,(ajm (by have:=cg (n+1) w1;omega)),?_,?_,rfl⟩
   ·(show _=cP s false);unfold cP;first |(rw [rfl];rfl) |rfl
   ·(show _=dk s false);unfold dk;first |(rw [rfl];rfl) |rfl
  ·have h4:T.length≠4:=by have:=ca (p:=(T.length:Int)=4) w7;omega
   refine ⟨(n+2,T++[qG (nth aa (gU s ⟨#[44]⟩) (n+1))]),[(1019,1033)],?_,?_,?_⟩
   rotate_right
   ·exact rq
   ·exact ⟨cg (n+1) w1,by show n+2≤4;omega,by show _=((gU s ⟨#[44]⟩).take (n+1+1)).map qG;rw [MR (cg (n+1) w1),hT]⟩
   ·show 4 - (n+2) < 4 - (n+1);omega
  ·refine ⟨[],[],_,_,_,rfl,rp,false,1,(I0 T (ob w8) (.inl (qV ka))),?_,?_,rfl⟩
   ·(show _=cP s false);unfold cP;first |(rw [rfl];rfl) |rfl
   ·(show _=dk s false);unfold dk;first |(rw [rfl];rfl) |rfl
  ·refine ⟨[],[],_,_,_,rfl,rp,false,1,(I0 T (ob w8) (.inr (cw iA))),?_,?_,rfl⟩
   ·(show _=cP s false);unfold cP;first |(rw [rfl];rfl) |rfl
   ·(show _=dk s false);unfold dk;first |(rw [rfl];rfl) |rfl
  ·have e:=ajs dC gx
   refine ⟨[1019],[],_,_,_,rfl,rp,true,0,(show true=(bd s).2 by rw [e]),?_,?_,rfl⟩
   ·(show _=cP s true);unfold cP;first |(rw [e];rfl) |rfl
   ·(show _=dk s true);unfold dk;first |(rw [e];rfl) |rfl
end GL
namespace GL
def ie (n:Int):Prop:=True
def s3 (n:Int):AV:=.int (bb n)
def SA (n:Int):List AV:=[]
def gF:Con where
 A:=[.s .int]
 B:=[]
 pre:=fun x b=>ie x
 α:=fun _ _=>Unit
 φ:=fun _ _ _=>True
 r:=fun x b _=>s3 x
 o:=fun x b _=>SA x
 nf:=0
set_option maxRecDepth 100000 in
theorem tI:Has Tryz.prog 36 gF:=by
 refine Has.ofEI (fun _=>true) (fun _=>false) (fun _=>false) (l:=[]) trivial (fn:=Tryz.f36) Tryz.func36 rfl (by decide) (cH rfl) ?_
 rintro (n:Int) _ (hp:ie n)
 show vc _ _ _ _ (entry [.int n] []) _
 refine ⟨fun w1=>?_,fun w2=>⟨fun w3=>?_,fun w4=>?_⟩⟩
 all_goals first|refine au ?_|refine aw ?_|exact sa|exact sb|skip
 all_goals
  refine ⟨[],[],_,_,_,rfl,rp,(),tv,?_,?_,rfl⟩
  ·(show _=s3 n);unfold s3;first |((simp only [bb, *];rfl)) |rfl
  ·rfl
def k8 (S:ax) (p:Pt):Prop:=S.szs∧S.rows.length=64∧aV p=true
def mG (S:ax) (p:Pt):AV:=.t [.s (.str (bA S p).1), .s (.q (bA S p).2)]
def adl (S:ax) (p:Pt):List AV:=[]
def kD:Con where
 A:=[.vs xw, .a [.int, .int, .int, .int, .int]]
 B:=[]
 pre:=fun x b=>k8 (x.1) (x.2)
 α:=fun _ _=>Unit
 φ:=fun _ _ _=>True
 r:=fun x b _=>mG (x.1) (x.2)
 o:=fun x b _=>adl (x.1) (x.2)
 nf:=0
set_option maxRecDepth 100000 in
theorem zK:Has Tryz.prog 38 kD:=by
 refine Has.ofEI (fun _=>true) (fun _=>false) (fun _=>false) (l:=[(35,bB),(62,y6)]) ⟨eJ,XG,trivial⟩ (fn:=Tryz.f38) Tryz.func38 rfl (by decide) (cH rfl) ?_
 rintro ⟨⟨(ai:List ByteArray),(aj:List Int),(ak:List Int),(an:Int),(ag:List Pt),(ao:Int),(ah:List Pt),(aq:Bool)⟩,⟨(p1:Int),(p2:Int),(p3:Int),(p4:Int),(p5:Int)⟩⟩ _ (hp:k8 (ai,aj,ak,an,ag,ao,ah,aq) (p1,p2,p3,p4,p5))
 show vc _ _ _ _ (entry [.s (.vs [.vz aa ai, .vz ae aj, .vz ae ak, .v (.int .i64 an), .vz ab ag, .v (.int .i64 ao), .vz ab ah, .q aq] 0), .a [.int p1, .int p2, .int p3, .int p4, .int p5]] []) _
 obtain ⟨h1,(hlen:ai.length=64),cq⟩:=hp
 have cq:aV (p1,p2,p3,p4,p5)=true:=cq
 have xE:ar (p1,p2,p3,p4,p5)=false→0≤p1∧p1 < 64:=fun h=>by
  have:=pJ cq;dsimp only at this;omega
 have db:ar (p1,p2,p3,p4,p5)=false→(nth aa ai p1.toNat).size≤1000000000:=fun h=>Nat.le_trans (h1 _ (bS (ek:=aa) (show p1.toNat < ai.length by have:=xE h;omega))) (by omega)
 refine ⟨⟨⟨⟨tv,tv,tv,tv,tv,tv⟩,tv⟩,tv⟩,fun x1 w2=>⟨fun w3=>?_,fun w4=>⟨[.s 3, .b 1003],[.s 10],rfl,[.s 0],[.s 11],rfl,[.s 11],[.s 12],rfl,[.s 12],[.s 13],rfl,[.s 13],[.s 14],rfl,[.s 3],[.s 15],rfl,[.s 15, .b 1003],[.s 16],rfl,[.s 14, .s 16],[.s 17],rfl,⟨?_,?_⟩,[.s 17],[.s 18],rfl,[.s 10, .s 18],[.s 19],rfl,⟨⟨⟨tv,tv,tv,tv,tv,tv⟩,tv,tv⟩,?_⟩,?_,fun x5 w6=>⟨[.s 19],[.s 20],rfl,[.s 20],[.s 9],rfl,fun w7=>?_,fun w8=>⟨[.s 0],[.s 21],rfl,[.s 21],[.s 22],rfl,[.s 22],[.s 23],rfl,[.s 23],[.s 24],rfl,[.s 3],[.s 25],rfl,[.s 25, .b 1003],[.s 26],rfl,[.s 24, .s 26],[.s 27],rfl,⟨?_,?_⟩,[.s 27],[.s 28],rfl,[.s 28],[.s 4],rfl,[],[.s 5],rfl,?_⟩⟩⟩⟩⟩
 all_goals first|refine au ?_|refine aw ?_|exact sa|(dsimp only [bB,bV];omega)|(dsimp only [y6,tk];omega)|exact sb|exact db w4|exact (xE w4).1|(have:=(xE w4).2;show p1 < (ai.length:Int);omega)|skip
 ·refine ⟨[],[],_,_,_,rfl,rp,(),tv,?_,?_,rfl⟩
  ·(show _=mG (ai,aj,ak,an,ag,ao,ah,aq) (p1,p2,p3,p4,p5));unfold mG;first |(rw [fL w3];rfl) |rfl
  ·rfl
 ·refine ⟨[],[],_,_,_,rfl,rp,(),tv,?_,?_,rfl⟩
  ·(show _=mG (ai,aj,ak,an,ag,ao,ah,aq) (p1,p2,p3,p4,p5));unfold mG;first |(rw [LQ w4 (KA w7)];rfl) |rfl
  ·rfl
 ·refine ⟨[],[],_,_,_,rfl,rp,(),tv,?_,?_,rfl⟩
  ·(show _=mG (ai,aj,ak,an,ag,ao,ah,aq) (p1,p2,p3,p4,p5));unfold mG;first |(rw [yg w4 (oD w8)];rfl) |rfl
  ·rfl
def wG (k:Pt) (p:Pt):Prop:=True
def BD (k:Pt) (p:Pt):AV:=.s (.q (late p k))
def HJ (k:Pt) (p:Pt):List AV:=[.a [.int p.1, .int p.2.1, .int p.2.2.1, .int p.2.2.2.1, .int p.2.2.2.2]]
def AB:Con where
 A:=[.a [.int, .int, .int, .int, .int], .b 0]
 B:=[.a [.int, .int, .int, .int, .int]]
 pre:=fun x b=>wG (x.1) b
 α:=fun _ _=>Unit
 φ:=fun _ _ _=>True
 r:=fun x b _=>BD (x.1) b
 o:=fun x b _=>HJ (x.1) b
 nf:=0
 ro:=true
set_option maxRecDepth 100000 in
theorem Z4:Has Tryz.prog 61 AB:=by
 refine Has.ofEI (fun _=>true) (fun _=>false) (fun _=>false) (l:=[]) trivial (fn:=Tryz.f61) Tryz.func61 rfl (by decide) (cH rfl) ?_
 rintro ⟨⟨(k1:Int),(k2:Int),(k3:Int),(k4:Int),(k5:Int)⟩,_⟩ ⟨(p1:Int),(p2:Int),(p3:Int),(p4:Int),(p5:Int)⟩ (hp:wG (k1,k2,k3,k4,k5) (p1,p2,p3,p4,p5))
 show vc _ _ _ _ (entry [.a [.int k1, .int k2, .int k3, .int k4, .int k5], .s (.bp 0 0)] [.a [.int p1, .int p2, .int p3, .int p4, .int p5]]) _
 refine ?_
 all_goals first|refine au ?_|refine aw ?_|exact sa|exact sb|skip
 refine ⟨[],[],_,_,_,rfl,rp,(),tv,?_,?_,rfl⟩
 ·(show _=BD (k1,k2,k3,k4,k5) (p1,p2,p3,p4,p5));unfold BD;first |rfl
 ·(show _=HJ (k1,k2,k3,k4,k5) (p1,p2,p3,p4,p5));unfold HJ;first |rfl
def ux (p:Pt):List Pt→Nat→Int
 |[],_=> -1
 |q::l,i=>bif late p q then i else ux p l (i+1)
def pV (l:List Pt) (f:Pt):Prop:=l.length≤1000000
def jc (l:List Pt) (f:Pt):AV:=.s (.int (ux f l 0))
def kj (l:List Pt) (f:Pt):List AV:=[.a [.int f.1, .int f.2.1, .int f.2.2.1, .int f.2.2.2.1, .int f.2.2.2.2]]
def ue:Con where
 A:=[.s (.vz ab), .fn 61 [0]]
 B:=[.a [.int, .int, .int, .int, .int]]
 pre:=fun x b=>pV (x.1) b
 α:=fun _ _=>Unit
 φ:=fun _ _ _=>True
 r:=fun x b _=>jc (x.1) b
 o:=fun x b _=>kj (x.1) b
 nf:=0
 ro:=true
set_option maxRecDepth 100000 in
theorem PK:Has Tryz.prog 93 ue:=by
 refine Has.ofEI (fun _=>true) (fun _=>false) (fun _=>false) (l:=[(61,AB)]) ⟨Z4,trivial⟩ (fn:=Tryz.f93) Tryz.func93 rfl (by decide) (cH rfl) ?_
 rintro ⟨(l:List Pt),_⟩ ⟨(f1:Int),(f2:Int),(f3:Int),(f4:Int),(f5:Int)⟩ (hp:pV l (f1,f2,f3,f4,f5))
 show vc _ _ _ _ (entry [.s (.vz ab l), .fn 61 [(0,0)]] [.a [.int f1, .int f2, .int f3, .int f4, .int f5]]) _
 have hp:l.length≤1000000:=hp
 refine ?_
 all_goals first|refine au ?_|refine aw ?_|exact sa|(dsimp only [AB,wG];omega)|exact sb|skip
 refine lW (l:=[(61,AB)]) (ex:=fun _=>true) (wr:=fun _=>false) (pt:=fun _=>false) ⟨Z4,tv⟩ [.s 0, .s 1, .s 6, .s 7, .b 0] (fun i:Nat=>[(.s 8, .int i)]) (fun i=>i≤l.length∧ux (f1,f2,f3,f4,f5) (l.drop i) i=ux (f1,f2,f3,f4,f5) l 0) (fun i=>l.length - i) 0 [] ⟨Nat.zero_le _,rfl⟩ ru ?_
 rintro i ⟨(hi:i≤l.length),(hr:ux (f1,f2,f3,f4,f5) (l.drop i) i=ux (f1,f2,f3,f4,f5) l 0)⟩
 have cJ:i < l.length→l.drop i=nth ab l i::l.drop (i+1):=fun h=>bP (ek:=ab) h
 have cg:decide ((i:Int) < (l.length:Int))=true→i < l.length:=fun h=>by have:=cw h;omega
 refine ⟨fun w1=>⟨⟨?_,?_⟩,⟨⟨⟨⟨tv,tv,tv,tv,tv,tv⟩,tv,tv⟩,tv⟩,fun x2 w3=>?_⟩,fun x4 w5=>⟨fun w6=>?_,fun w7=>⟨⟨?_,?_⟩,?_⟩⟩⟩,fun w8=>?_⟩
 all_goals first|refine au ?_|refine aw ?_|exact sa|(dsimp only [AB,wG];omega)|exact sb|(show (i:Int)+1≤9223372036854775807;omega)|skip
 ·have e:ux (f1,f2,f3,f4,f5) l 0=(i:Int):=by rw [←hr,cJ (cg w1),ux,show late (f1,f2,f3,f4,f5) (nth ab l i)=true from w6];rfl
  refine ⟨[],[],_,_,_,rfl,rp,(),tv,?_,?_,rfl⟩
  ·(show _=jc l (f1,f2,f3,f4,f5));unfold jc;first |(rw [e];rfl) |rfl
  ·(show _=kj l (f1,f2,f3,f4,f5));unfold kj;first |(rw [e];rfl) |rfl
 ·refine ⟨(i+1),[],?_,?_,?_⟩
  rotate_right
  ·exact rq
  ·refine ⟨cg w1,?_⟩
   rw [←hr,cJ (cg w1),ux,show late (f1,f2,f3,f4,f5) (nth ab l i)=false from w7];rfl
  ·show l.length - (i+1) < l.length - i;have:=cg w1;omega
 ·have e:ux (f1,f2,f3,f4,f5) l 0= -1:=by rw [←hr,List.drop_eq_nil_of_le (by have:=ca w8;omega)];rfl
  refine ⟨[],[],_,_,_,rfl,rp,(),tv,?_,?_,rfl⟩
  ·(show _=jc l (f1,f2,f3,f4,f5));unfold jc;first |(rw [e];rfl) |rfl
  ·(show _=kj l (f1,f2,f3,f4,f5));unfold kj;first |(rw [e];rfl) |rfl
theorem CH (p:Pt):∀(l:List Pt) (i:Nat),decide (ux p l i≥0)=l.any (late p)
 |[],_=>rfl
 |q::l,i=>by
  rw [ux,List.any_cons]
  cases late p q with
  |false=>exact CH p l (i+1)
  |true=>show decide ((i:Int)≥0)=true;exact decide_eq_true (Int.natCast_nonneg i)
def tl (l:List Pt) (f:Pt):Prop:=l.length≤1000000
def s7 (l:List Pt) (f:Pt):AV:=.s (.q (l.any (late f)))
def vm (l:List Pt) (f:Pt):List AV:=[.a [.int f.1, .int f.2.1, .int f.2.2.1, .int f.2.2.2.1, .int f.2.2.2.2]]
def y8:Con where
 A:=[.s (.vz ab), .fn 61 [0]]
 B:=[.a [.int, .int, .int, .int, .int]]
 pre:=fun x b=>tl (x.1) b
 α:=fun _ _=>Unit
 φ:=fun _ _ _=>True
 r:=fun x b _=>s7 (x.1) b
 o:=fun x b _=>vm (x.1) b
 nf:=0
 ro:=true
set_option maxRecDepth 100000 in
theorem XI:Has Tryz.prog 60 y8:=by
 refine Has.ofEI (fun _=>true) (fun _=>false) (fun _=>false) (l:=[(93,ue)]) ⟨PK,trivial⟩ (fn:=Tryz.f60) Tryz.func60 rfl (by decide) (cH rfl) ?_
 rintro ⟨(l:List Pt),_⟩ ⟨(f1:Int),(f2:Int),(f3:Int),(f4:Int),(f5:Int)⟩ (hp:tl l (f1,f2,f3,f4,f5))
 show vc _ _ _ _ (entry [.s (.vz ab l), .fn 61 [(0,0)]] [.a [.int f1, .int f2, .int f3, .int f4, .int f5]]) _
 have hp:l.length≤1000000:=hp
 refine ⟨⟨⟨⟨tv,tv,tv⟩,?_⟩,fun x1 w2=>?_⟩,fun x3 w4=>?_⟩
 all_goals first|refine au ?_|refine aw ?_|exact sa|(dsimp only [ue,pV];omega)|exact sb|exact hp|skip
 refine ⟨[],[],_,_,_,rfl,rp,(),tv,?_,?_,rfl⟩
 ·(show _=s7 l (f1,f2,f3,f4,f5));unfold s7;first |(rw [←CH (f1,f2,f3,f4,f5) l 0];rfl) |rfl
 ·(show _=vm l (f1,f2,f3,f4,f5));unfold vm;first |(rw [←CH (f1,f2,f3,f4,f5) l 0];rfl) |rfl
end GL
end Go.Proofs.YtbfgjadbfjkcdaaGreatDoor
