/- FnTreeOk returns true for every code (its row lists package variables, tied by the card): part 15. -/
import Derived.Test.YtbfgjadbfjkcdaaGreatDoorPan
set_option maxHeartbeats 20000000
set_option linter.all false
namespace Go.Proofs.YtbfgjadbfjkcdaaGreatDoor
namespace GL
def bl (n:Int):Int:=bif decide (n≤1) then 0 else bif decide (n≤4) then 1 else 2
def ku (k:Int):Int:=bif decide (k=1) then 12 else bif decide (k=2) then 128 else 0
def bj (size each:Int):Int:=(size+each-1) / each
def bJ (k s:Int):Int:=bif decide (ku k=0)|| !(iC s 0 (16*ku k)) then -1 else bj s (ku k)
theorem vW (k:Int):ku k=12∨ku k=128∨ku k=0:=by
 unfold ku
 cases decide (k=1)<;>cases decide (k=2)<;>simp
def fg (n:Int):Prop:=True
def u5 (n:Int):AV:=.int (bl n)
def WI (n:Int):List AV:=[]
def dD:Con where
 A:=[.s .int]
 B:=[]
 pre:=fun x b=>fg x
 α:=fun _ _=>Unit
 φ:=fun _ _ _=>True
 r:=fun x b _=>u5 x
 o:=fun x b _=>WI x
 nf:=0
set_option maxRecDepth 100000 in
theorem jV:Has Tryz.prog 27 dD:=by
 refine Has.ofE (fun _=>true) (fun _=>false) (fun _=>false) (l:=[]) trivial (fn:=Tryz.f27) Tryz.func27 rfl (by decide) (aZ rfl) ?_
 rintro (n:Int) _ (hp:fg n)
 show vc _ _ _ _ (entry [.int n] []) _
 refine⟨fun w1=>?_,fun w2=>⟨fun w3=>?_,fun w4=>?_⟩⟩
 all_goals first|refine aw ?_|refine ax ?_|exact ba|exact a8|skip
 all_goals
  refine⟨[],[],_,_,_,rfl,az,(),aa,?_,?_,rfl⟩
  ·(show _=u5 n);unfold u5;first|((simp only [bl, *];rfl))|rfl
  ·rfl
def vm (k:Int):Prop:=True
def vd (k:Int):AV:=.int (ku k)
def WS (k:Int):List AV:=[]
def DM:Con where
 A:=[.s .int]
 B:=[]
 pre:=fun x b=>vm x
 α:=fun _ _=>Unit
 φ:=fun _ _ _=>True
 r:=fun x b _=>vd x
 o:=fun x b _=>WS x
 nf:=0
set_option maxRecDepth 100000 in
theorem ab5:Has Tryz.prog 142 DM:=by
 refine Has.ofE (fun _=>true) (fun _=>false) (fun _=>false) (l:=[]) trivial (fn:=Tryz.f142) Tryz.func142 rfl (by decide) (aZ rfl) ?_
 rintro (k:Int) _ (hp:vm k)
 show vc _ _ _ _ (entry [.int k] []) _
 refine⟨fun w1=>?_,fun w2=>⟨fun w3=>?_,fun w4=>?_⟩⟩
 all_goals first|refine aw ?_|refine ax ?_|exact ba|exact a8|skip
 all_goals
  refine⟨[],[],_,_,_,rfl,az,(),aa,?_,?_,rfl⟩
  ·(show _=vd k);unfold vd;first|((simp only [ku, *];rfl))|rfl
  ·rfl
def kn (a:Int) (b:Int):Prop:=0≤a∧a≤1000000∧0<b∧b≤1000000
def rL (a:Int) (b:Int):AV:=.int (bj a b)
def OY (a:Int) (b:Int):List AV:=[]
def lC:Con where
 A:=[.s .int,.s .int]
 B:=[]
 pre:=fun x b=>kn (x.1) (x.2)
 α:=fun _ _=>Unit
 φ:=fun _ _ _=>True
 r:=fun x b _=>rL (x.1) (x.2)
 o:=fun x b _=>OY (x.1) (x.2)
 nf:=0
set_option maxRecDepth 100000 in
theorem EC:Has Tryz.prog 141 lC:=by
 refine Has.ofE (fun _=>true) (fun _=>false) (fun _=>false) (l:=[]) trivial (fn:=Tryz.f141) Tryz.func141 rfl (by decide) (aZ rfl) ?_
 rintro⟨(a:Int),(b:Int)⟩ _ (hp:kn a b)
 show vc _ _ _ _ (entry [.int a,.int b] []) _
 obtain⟨h1,h2,h3,h4⟩:=hp
 refine⟨⟨?_,?_⟩,⟨⟨?_,?_⟩,⟨⟨?_,⟨?_,?_⟩⟩,?_⟩⟩⟩
 all_goals first|refine aw ?_|refine ax ?_|exact ba|exact a8|skip
 refine⟨[],[],_,_,_,rfl,az,(),aa,?_,?_,rfl⟩
 ·(show _=rL a b);unfold rL;first|rfl
 ·rfl
def qi (k:Int) (s:Int):Prop:=True
def pT (k:Int) (s:Int):AV:=.int (bJ k s)
def K7 (k:Int) (s:Int):List AV:=[]
def um:Con where
 A:=[.s .int,.s .int]
 B:=[]
 pre:=fun x b=>qi (x.1) (x.2)
 α:=fun _ _=>Unit
 φ:=fun _ _ _=>True
 r:=fun x b _=>pT (x.1) (x.2)
 o:=fun x b _=>K7 (x.1) (x.2)
 nf:=0
set_option maxRecDepth 100000 in
theorem PV:Has Tryz.prog 116 um:=by
 refine Has.ofE (fun _=>true) (fun _=>false) (fun _=>false) (l:=[(142,DM),(24,dE),(141,lC)]) ⟨ab5,iA,EC,trivial⟩ (fn:=Tryz.f116) Tryz.func116 rfl (by decide) (aZ rfl) ?_
 rintro⟨(k:Int),(s:Int)⟩ _ (hp:qi k s)
 show vc _ _ _ _ (entry [.int k,.int s] []) _
 have hE:=vW k
 have hI:(!(iC s 0 (16*ku k)))=false→0≤s∧s≤2048:=fun h=>by
  have:=cz.1 (cI h)
  omega
 refine⟨⟨⟨aa,aa⟩,aa⟩,fun x1 w2=>⟨aa,fun w3=>?_,fun w4=>⟨⟨?_,?_⟩,⟨⟨aa,aa,aa,aa⟩,aa⟩,fun x5 w6=>⟨fun w7=>?_,fun w8=>⟨⟨⟨aa,aa,aa⟩,?_,?_,?_,?_⟩,fun x9 dq=>?_⟩⟩⟩⟩⟩
 all_goals first|refine aw ?_|refine ax ?_|exact ba|(dsimp only [DM,vm];omega)|(dsimp only [dE,gX];omega)|(dsimp only [lC,kn];omega)|exact a8|(have:=hI (by assumption);have:=aA (p:=ku k=0) (by assumption);dsimp only [lC,kn];omega)|skip
 all_goals
  refine⟨[],[],_,_,_,rfl,az,(),aa,?_,?_,rfl⟩
  ·(show _=pT k s);unfold pT;first|((simp only [bJ, *];rfl))|rfl
  ·rfl
theorem xI (k s:Int): -1≤bJ k s∧bJ k s≤16:=by
 unfold bJ
 cases h:decide (ku k=0)|| !(iC s 0 (16*ku k)) with
 |true=>simp
 |false=>
  simp only [ZD7,decide_eq_false_iff_not] at h
  have h2:=cz.1 (cI h.2)
  simp only [cond_false,bj]
  rcases vW k with e |e |e
  ·rw [e] at h2 ⊢;omega
  ·rw [e] at h2 ⊢;omega
  ·exact absurd e h.1
abbrev fu.root (n:fu):Pt:=(n.2.2.2.1,n.2.2.2.2.1,n.2.2.2.2.2.1,n.2.2.2.2.2.2.1,n.2.2.2.2.2.2.2.1)
abbrev fu.tree (n:fu):bf:=n.2.2.2
def cy (n:fu):Bool:=
 bif decide (bJ n.1 n.2.2.1<0)||(decide (n.2.2.2.2.2.2.2.2.2≠bJ n.1 n.2.2.1)||(decide (n.2.2.2.2.2.2.2.2.1≠bl (bJ n.1 n.2.2.1))|| !(a6 n.root))) then false
 else iC n.2.1 1 (bif decide (n.1=2) then 1 else 9)&&(au n.root||decide (n.2.2.2.2.2.2.2.1=n.2.2.2.2.2.2.2.2.1))
def qj (n:fu):Prop:=True
def yj (n:fu):AV:=.q (cy n)
def abK (n:fu):List AV:=[]
def qK:Con where
 A:=[.a [.int,.int,.int,.int,.int,.int,.int,.int,.int,.int]]
 B:=[]
 pre:=fun x b=>qj x
 α:=fun _ _=>Unit
 φ:=fun _ _ _=>True
 r:=fun x b _=>yj x
 o:=fun x b _=>abK x
 nf:=0
set_option maxRecDepth 100000 in
theorem I1:Has Tryz.prog 76 qK:=by
 refine Has.ofE (fun _=>true) (fun _=>false) (fun _=>false) (l:=[(116,um),(27,dD),(25,cY),(26,bm),(24,dE)]) ⟨PV,jV,iB,cB,iA,trivial⟩ (fn:=Tryz.f76) Tryz.func76 rfl (by decide) (aZ rfl) ?_
 rintro⟨(n1:Int),(n2:Int),(n3:Int),(n4:Int),(n5:Int),(n6:Int),(n7:Int),(n8:Int),(n9:Int),(cx:Int)⟩ _ (hp:qj (n1,n2,n3,n4,n5,n6,n7,n8,n9,cx))
 show vc _ _ _ _ (entry [.a [.int n1,.int n2,.int n3,.int n4,.int n5,.int n6,.int n7,.int n8,.int n9,.int cx]] []) _
 have hbd:=xI n1 n3
 refine⟨⟨⟨aa,aa,aa⟩,aa⟩,fun x1 w2=>⟨[.s 3],[.s 10],rfl,[.s 10],[.s 11],rfl,[.s 11],[.s 12],rfl,aa,fun w3=>⟨[.s 12],[.s 13],rfl,[.s 12],[.s 14],rfl,[.s 12],[.s 15],rfl,[.s 12],[.s 16],rfl,[.s 12],[.s 17],rfl,[.s 12,.s 17],[.s 18],rfl,[.s 18],[.s 19],rfl,[.s 19],[.s 20],rfl,[.s 19],[.s 21],rfl,[.s 19],[.s 22],rfl,[.s 19],[.s 23],rfl,[.s 19],[.s 24],rfl,[.s 19],[.s 25],rfl,[.s 19,.s 25],[.s 26],rfl,[.s 26],[.s 27],rfl,[.s 27],[.s 28],rfl,[.s 27],[.s 29],rfl,[.s 27],[.s 30],rfl,[.s 27],[.s 31],rfl,[.s 27],[.s 32],rfl,[.s 27,.s 32],[.s 33],rfl,?_⟩,fun w4=>⟨[.s 12,.s 1],[.s 13],rfl,[.s 12,.s 13],[.s 14],rfl,[.s 12,.s 14,.b 1001],[.s 15],rfl,[.s 12,.s 3],[.s 16],rfl,[.s 12,.s 15,.s 16],[.s 17],rfl,[.s 12,.s 17],[.s 18],rfl,[.s 18],[.s 19],rfl,aa,fun w5=>⟨[.s 19],[.s 20],rfl,[.s 19],[.s 21],rfl,[.s 19],[.s 22],rfl,[.s 19],[.s 23],rfl,[.s 19],[.s 24],rfl,[.s 19],[.s 25],rfl,[.s 19,.s 25],[.s 26],rfl,[.s 26],[.s 27],rfl,[.s 27],[.s 28],rfl,[.s 27],[.s 29],rfl,[.s 27],[.s 30],rfl,[.s 27],[.s 31],rfl,[.s 27],[.s 32],rfl,[.s 27,.s 32],[.s 33],rfl,?_⟩,fun w6=>⟨[.s 19,.s 1],[.s 20],rfl,[.s 19,.s 20],[.s 21],rfl,[.s 19,.s 21,.b 1001],[.s 22],rfl,[.s 19,.s 3],[.s 23],rfl,[.s 19,.s 23],[.s 24],rfl,⟨⟨aa,aa⟩,aa⟩,?_,fun x7 w8=>⟨[.s 19,.s 22,.s 24],[.s 25],rfl,[.s 19,.s 25],[.s 26],rfl,[.s 26],[.s 27],rfl,aa,fun w9=>⟨[.s 27],[.s 28],rfl,[.s 27],[.s 29],rfl,[.s 27],[.s 30],rfl,[.s 27],[.s 31],rfl,[.s 27],[.s 32],rfl,[.s 27,.s 32],[.s 33],rfl,?_⟩,fun dq=>⟨[.s 27,.s 1],[.s 28],rfl,[.s 27,.s 28],[.s 29],rfl,[.s 27,.s 29,.b 1001],[.s 30],rfl,[.s 27,.s 30],[.s 31],rfl,⟨⟨⟨aa,aa,aa,aa,aa,aa⟩,aa⟩,aa⟩,?_,fun kE dI=>⟨[.s 27,.s 31],[.s 32],rfl,[.s 27,.s 32],[.s 33],rfl,fun iJ=>?_,fun gI=>⟨fun pe=>⟨⟨⟨aa,aa,aa,aa⟩,aa⟩,fun x16 wC=>⟨aa,fun qX=>⟨⟨⟨⟨aa,aa,aa,aa,aa,aa⟩,aa⟩,aa⟩,fun x19 uw=>⟨aa,fun zm=>?_,fun zl=>?_⟩⟩,fun xD=>?_⟩⟩,fun rG=>⟨⟨⟨aa,aa,aa,aa⟩,aa⟩,fun x25 E1=>⟨aa,fun w27=>⟨⟨⟨⟨aa,aa,aa,aa,aa,aa⟩,aa⟩,aa⟩,fun x28 w29=>⟨aa,fun w30=>?_,fun w31=>?_⟩⟩,fun w32=>?_⟩⟩⟩⟩⟩⟩⟩⟩⟩⟩
 all_goals first|refine aw ?_|refine ax ?_|exact ba|(dsimp only [um,qi];omega)|(dsimp only [dD,fg];omega)|(dsimp only [cY,ee];omega)|(dsimp only [bm,cj];omega)|(dsimp only [dE,gX];omega)|exact a8|skip
 all_goals
  refine⟨[],[],_,_,_,rfl,az,(),aa,?_,?_,rfl⟩
  ·(show _=yj (n1,n2,n3,n4,n5,n6,n7,n8,n9,cx));unfold yj;first|((simp only [cy, *];rfl))|((simp [cy, *]<;>rfl))|rfl
  ·rfl
theorem py (n:Int):0≤bl n∧bl n≤2:=by
 unfold bl
 cases decide (n≤1)<;>cases decide (n≤4)<;>simp
theorem ly {n:fu}(h:cy n=true):(1≤n.1∧n.1≤2)∧(1≤n.2.1∧n.2.1≤9)∧(0≤n.2.2.1∧n.2.2.1≤2048)∧(0≤n.2.2.2.2.2.2.2.2.1∧n.2.2.2.2.2.2.2.2.1≤2)∧(0≤n.2.2.2.2.2.2.2.2.2∧n.2.2.2.2.2.2.2.2.2≤16)∧a6 n.root=true∧
  n.2.2.2.2.2.2.2.2.2=bJ n.1 n.2.2.1∧n.2.2.2.2.2.2.2.2.1=bl n.2.2.2.2.2.2.2.2.2∧(au n.root=true∨n.2.2.2.2.2.2.2.1=n.2.2.2.2.2.2.2.2.1):=by
 unfold cy at h
 cases hb:decide (bJ n.1 n.2.2.1<0)||(decide (n.2.2.2.2.2.2.2.2.2≠bJ n.1 n.2.2.1)||(decide (n.2.2.2.2.2.2.2.2.1≠bl (bJ n.1 n.2.2.1))|| !(a6 n.root))) with
 |true=>rw [hb] at h;cases h
 |false=>
  rw [hb,cond_false] at h
  simp only [ZD7,decide_eq_false_iff_not,ZF0,Bool.not_eq_false] at hb
  obtain⟨h1,h2,h3,h4⟩:=hb
  have h4:=cI h4
  simp only [ZB0,Bool.or_eq_true,decide_eq_true_eq] at h
  have h5:=cz.1 h.1
  have h6:=xI n.1 n.2.2.1
  have h7:=py (bJ n.1 n.2.2.1)
  have hk:(1≤n.1∧n.1≤2)∧(0≤n.2.2.1∧n.2.2.1≤2048):=by
   unfold bJ at h1
   cases hc:decide (ku n.1=0)|| !(iC n.2.2.1 0 (16*ku n.1)) with
   |true=>rw [hc] at h1;exact absurd (show (-1:Int)<0 by decide) h1
   |false=>
    simp only [ZD7,decide_eq_false_iff_not] at hc
    have h8:=cz.1 (cI hc.2)
    have h9:=vW n.1
    refine⟨?_,by omega⟩
    by_cases e1:n.1=1
    ·omega
    ·by_cases e2:n.1=2
     ·omega
     ·exact absurd (by unfold ku;rw [decide_eq_false e1,decide_eq_false e2];rfl) hc.1
  have h10:(bif decide (n.1=2) then (1:Int) else 9)≤9:=by cases decide (n.1=2)<;>simp
  refine⟨hk.1,⟨h5.1,by omega⟩,hk.2,by omega,by omega,h4,by omega,?_,h.2⟩
  rw [show n.2.2.2.2.2.2.2.2.2=bJ n.1 n.2.2.1 by omega];omega
def aC (n:fu):ByteArray:=bif cy n then (cG [ca n.1,ca n.2.1,ca n.2.2.1,bd n.root,ca n.2.2.2.2.2.2.2.2.1,ca n.2.2.2.2.2.2.2.2.2,⟨#[101,110,100]⟩]).1 else ⟨#[]⟩
def rl (n:fu):Prop:=True
def nP (n:fu):AV:=.str (aC n)
def W4 (n:fu):List AV:=[]
def sT:Con where
 A:=[.a [.int,.int,.int,.int,.int,.int,.int,.int,.int,.int]]
 B:=[]
 pre:=fun x b=>rl x
 α:=fun _ _=>Unit
 φ:=fun _ _ _=>True
 r:=fun x b _=>nP x
 o:=fun x b _=>W4 x
 nf:=0
set_option maxRecDepth 100000 in
theorem MV:Has Tryz.prog 77 sT:=by
 refine Has.ofE (fun _=>true) (fun _=>false) (fun _=>false) (l:=[(76,qK),(117,j6),(118,qH),(114,jI)]) ⟨I1,wZ,IY,vI,trivial⟩ (fn:=Tryz.f77) Tryz.func77 rfl (by decide) (aZ rfl) ?_
 rintro⟨(n1:Int),(n2:Int),(n3:Int),(n4:Int),(n5:Int),(n6:Int),(n7:Int),(n8:Int),(n9:Int),(cx:Int)⟩ _ (hp:rl (n1,n2,n3,n4,n5,n6,n7,n8,n9,cx))
 show vc _ _ _ _ (entry [.a [.int n1,.int n2,.int n3,.int n4,.int n5,.int n6,.int n7,.int n8,.int n9,.int cx]] []) _
 by_cases cA:cy (n1,n2,n3,n4,n5,n6,n7,n8,n9,cx)=true
 ·obtain⟨b1,b2,b3,b4,b5,b6,_,_,_⟩:=ly cA
  dsimp only at b1 b2 b3 b4 b5 b6
  refine⟨⟨⟨⟨aa,aa,aa,aa,aa,aa,aa,aa,aa,aa,aa⟩,aa⟩,aa⟩,fun x1 w2=>⟨fun w3=>?_,fun w4=>⟨[.s 1],[.s 9],rfl,[.s 9,.b 1001],[.s 10],rfl,[.s 10],[.s 11],rfl,⟨⟨aa,aa⟩,?_,?_⟩,?_,fun x5 w6=>⟨[.s 1],[.s 12],rfl,[.s 12,.b 1001],[.s 13],rfl,[.s 13],[.s 14],rfl,⟨⟨aa,aa⟩,?_,?_⟩,?_,fun x7 w8=>⟨[.s 1],[.s 15],rfl,[.s 15,.b 1001],[.s 16],rfl,[.s 16],[.s 17],rfl,⟨⟨aa,aa⟩,?_,?_⟩,?_,fun x9 dq=>⟨[.s 1],[.s 18],rfl,[.s 18],[.s 19],rfl,[.s 19,.b 1001],[.s 20],rfl,[.s 20],[.s 21],rfl,⟨⟨⟨aa,aa,aa,aa,aa,aa⟩,aa⟩,aa⟩,?_,fun kE dI=>⟨[.s 1],[.s 22],rfl,[.s 22],[.s 23],rfl,[.s 23,.b 1001],[.s 24],rfl,[.s 24],[.s 25],rfl,⟨⟨aa,aa⟩,?_,?_⟩,?_,fun r4 gI=>⟨[.s 1],[.s 26],rfl,[.s 26],[.s 27],rfl,[.s 27,.b 1001],[.s 28],rfl,[.s 28],[.s 29],rfl,⟨⟨aa,aa⟩,?_,?_⟩,?_,fun kD kj=>⟨[.s 11,.s 14,.s 17,.s 21,.s 25,.s 29,.b 1030],[.s 30,.b 1030],rfl,aa,[.s 30,.b 1030],[.s 31],rfl,⟨⟨⟨?_,?_⟩,aa⟩,aa⟩,?_,fun x17 qX=>⟨[.s 31],[.s 8],rfl,[.s 8],[.s 32],rfl,[.s 8],[.s 33],rfl,[.s 32],[.s 3],rfl,[.s 33],[.s 4],rfl,?_⟩⟩⟩⟩⟩⟩⟩⟩⟩⟩
  all_goals first|refine aw ?_|refine ax ?_|exact ba|(dsimp only [qK,qj];omega)|(dsimp only [j6,mQ];omega)|(dsimp only [qH,qh];omega)|(dsimp only [jI,kq];omega)|exact a8|skip
  ·rw [cA] at *;contradiction
  ·have e:aC (n1,n2,n3,n4,n5,n6,n7,n8,n9,cx)=(cG [ca n1,ca n2,ca n3,bd (n4,n5,n6,n7,n8),ca n9,ca cx,⟨#[101,110,100]⟩]).1:=by unfold aC;rw [cA];rfl
   refine⟨[],[],_,_,_,rfl,az,(),aa,?_,?_,rfl⟩
   ·(show _=nP (n1,n2,n3,n4,n5,n6,n7,n8,n9,cx));unfold nP;first|(rw [e];rfl)|rfl
   ·rfl
 ·have uD:cy (n1,n2,n3,n4,n5,n6,n7,n8,n9,cx)=false:=by simpa using cA
  refine⟨⟨⟨⟨aa,aa,aa,aa,aa,aa,aa,aa,aa,aa,aa⟩,aa⟩,aa⟩,fun x1 w2=>⟨fun w3=>?_,fun w4=>⟨[.s 1],[.s 9],rfl,[.s 9,.b 1001],[.s 10],rfl,[.s 10],[.s 11],rfl,⟨⟨aa,aa⟩,?_,?_⟩,?_,fun x5 w6=>⟨[.s 1],[.s 12],rfl,[.s 12,.b 1001],[.s 13],rfl,[.s 13],[.s 14],rfl,⟨⟨aa,aa⟩,?_,?_⟩,?_,fun x7 w8=>⟨[.s 1],[.s 15],rfl,[.s 15,.b 1001],[.s 16],rfl,[.s 16],[.s 17],rfl,⟨⟨aa,aa⟩,?_,?_⟩,?_,fun x9 dq=>⟨[.s 1],[.s 18],rfl,[.s 18],[.s 19],rfl,[.s 19,.b 1001],[.s 20],rfl,[.s 20],[.s 21],rfl,⟨⟨⟨aa,aa,aa,aa,aa,aa⟩,aa⟩,aa⟩,?_,fun kE dI=>⟨[.s 1],[.s 22],rfl,[.s 22],[.s 23],rfl,[.s 23,.b 1001],[.s 24],rfl,[.s 24],[.s 25],rfl,⟨⟨aa,aa⟩,?_,?_⟩,?_,fun r4 gI=>⟨[.s 1],[.s 26],rfl,[.s 26],[.s 27],rfl,[.s 27,.b 1001],[.s 28],rfl,[.s 28],[.s 29],rfl,⟨⟨aa,aa⟩,?_,?_⟩,?_,fun kD kj=>⟨[.s 11,.s 14,.s 17,.s 21,.s 25,.s 29,.b 1030],[.s 30,.b 1030],rfl,aa,[.s 30,.b 1030],[.s 31],rfl,⟨⟨⟨?_,?_⟩,aa⟩,aa⟩,?_,fun x17 qX=>⟨[.s 31],[.s 8],rfl,[.s 8],[.s 32],rfl,[.s 8],[.s 33],rfl,[.s 32],[.s 3],rfl,[.s 33],[.s 4],rfl,?_⟩⟩⟩⟩⟩⟩⟩⟩⟩⟩
  all_goals first|exact absurd (cI (by assumption)) cA|skip
  ·have e:aC (n1,n2,n3,n4,n5,n6,n7,n8,n9,cx)=⟨#[]⟩:=by unfold aC;rw [uD];rfl
   refine⟨[],[],_,_,_,rfl,az,(),aa,?_,?_,rfl⟩
   ·(show _=nP (n1,n2,n3,n4,n5,n6,n7,n8,n9,cx));unfold nP;first|(rw [e];rfl)|rfl
   ·rfl
end GL
namespace GL
theorem MG {s:ByteArray}:∀(f k:Nat),(∀j,j<k→DG s j=true)→(∀j,j<sF f s k→DG s j=true)∧sF f s k≤k+f
 |0,k,h=>⟨h,ZB6 _⟩
 |f+1,k,h=>by
  unfold sF
  cases hd:DG s k with
  |true=>
   have:=MG (s:=s) f (k+1) (fun j hj=>by
    by_cases e:j=k
    ·rw [e];exact hd
    ·exact h j (by omega))
   exact⟨this.1,ZB1 this.2 (by omega)⟩
  |false=>exact⟨h,ZD3 _ _⟩
theorem afe {s:ByteArray}{k:Nat}(h:DG s k=true):k<s.size∧48≤bN s k∧bN s k≤57:=by
 unfold DG at h
 simp only [ZB0,decide_eq_true_eq] at h
 omega
theorem SZ {s:ByteArray}:∀(k:Nat),(∀j,j<k→DG s j=true)→0≤iP s k∧iP s k<(10:Int) ^ k
 |0,_=>⟨ZC1 _,by show (0:Int)<1;omega⟩
 |k+1,h=>by
  have h1:=SZ k (fun j hj=>h j (by omega))
  have h2:=afe (h k (by omega))
  rw [Int.pow_succ]
  show 0≤10*iP s k+(bN s k-48)∧10*iP s k+(bN s k-48)<_
  omega
theorem abR (s:ByteArray):cX s≤9∧cX s≤s.size∧(0≤iP s (cX s)∧iP s (cX s)≤999999999):=by
 have h:=MG (s:=s) 9 0 (fun j hj=>absurd hj (by omega))
 have hn:sF 9 s 0=cX s:=rfl
 rw [hn] at h
 have h1:cX s≤9:=by omega
 have h2:=SZ _ h.1
 have h3:(10:Int) ^ cX s≤10 ^ 9:=by exact_mod_cast Nat.pow_le_pow_right (by omega) h1
 refine⟨h1,?_,h2.1,by omega⟩
 by_cases e:cX s=0
 ·omega
 ·have:=afe (h.1 (cX s-1) (by omega));omega
theorem ahX (s:ByteArray):(0≤(CT s).1∧(CT s).1≤999999999)∧(0≤(CT s).2∧(CT s).2≤9)∧(CT s).2≤s.size:=by
 have h:=abR s
 unfold CT
 cases hc:decide ((cX s:Int)>1)&&decide (bN s 0=48) with
 |true=>
  simp only [ZB0,decide_eq_true_eq] at hc
  show (0≤(0:Int)∧(0:Int)≤999999999)∧(0≤(1:Int)∧(1:Int)≤9)∧(1:Int)≤s.size
  omega
 |false=>
  show (0≤iP s (cX s)∧iP s (cX s)≤999999999)∧(0≤(cX s:Int)∧(cX s:Int)≤9)∧(cX s:Int)≤s.size
  omega
def qy (s:ByteArray) (i:Int) (r:Int×Int):Bool:=
 decide (r.2=0)||(decide (i+r.2≥s.size)||(decide (bN s (i+r.2).toNat≠58)||decide (r.1>s.size-i-r.2-1)))
abbrev tU (s:ByteArray) (i:Int):Int×Int:=CT (s.extract i.toNat s.size)
def JL:Nat→ByteArray→Int→List ByteArray→Option (List ByteArray)
 |0,_,_,_=>none
 |f+1,s,i,out=>bif decide (i<s.size) then
   (bif qy s i (tU s i) then none else
    JL f s (i+(tU s i).2+1+(tU s i).1) (out++[s.extract (i+(tU s i).2+1).toNat (i+(tU s i).2+1+(tU s i).1).toNat]))
  else some out
theorem EM {f:Nat}{s:ByteArray}{i:Int}{out:List ByteArray}(h:decide (i<s.size)=true) (hb:qy s i (tU s i)=true):JL (f+1) s i out=none:=by rw [JL,h,hb];rfl
theorem ahk {f:Nat}{s:ByteArray}{i:Int}{out:List ByteArray}(h:decide (i<s.size)=true) (hb:qy s i (tU s i)=false):JL (f+1) s i out=JL f s (i+(tU s i).2+1+(tU s i).1) (out++[s.extract (i+(tU s i).2+1).toNat (i+(tU s i).2+1+(tU s i).1).toNat]):=by rw [JL,h,hb];rfl
theorem aeV {f:Nat}{s:ByteArray}{i:Int}{out:List ByteArray}(h:decide (i<s.size)=false):JL (f+1) s i out=some out:=by rw [JL,h];rfl
theorem aat {s:ByteArray}{i:Int}{r:Int×Int}(h:decide (r.2=0)=true):qy s i r=true:=by unfold qy;rw [h];rfl
theorem aas {s:ByteArray}{i:Int}{r:Int×Int}(h:decide (i+r.2≥s.size)=true):qy s i r=true:=by unfold qy;rw [h,Bool.true_or,ZC4]
theorem aar {s:ByteArray}{i:Int}{r:Int×Int}(h:decide (bN s (i+r.2).toNat≠58)=true):qy s i r=true:=by unfold qy;rw [h,Bool.true_or,ZC4,ZC4]
theorem aaq {s:ByteArray}{i:Int}{r:Int×Int}(h:decide (r.1>s.size-i-r.2-1)=true):qy s i r=true:=by unfold qy;rw [h,ZC4,ZC4,ZC4]
theorem aau {s:ByteArray}{i:Int}{r:Int×Int}(h1:decide (r.2=0)=false) (h2:decide (i+r.2≥s.size)=false) (h3:decide (bN s (i+r.2).toNat≠58)=false) (h4:decide (r.1>s.size-i-r.2-1)=false):qy s i r=false:=by unfold qy;rw [h1,h2,h3,h4];rfl
def vQ (s:ByteArray) (out:List ByteArray):List ByteArray×Bool:=bif !(cG out).2||decide ((cG out).1≠s) then ([],false) else (out,true)
def bz (s:ByteArray):List ByteArray×Bool:=
 bif decide ((s.size:Int)≤2048) then (match JL (s.size+1) s 0 [] with
  |none=>([],false)
  |some out=>vQ s out) else ([],false)
theorem gH {s:ByteArray}(h:decide ((s.size:Int)≤2048)=true) (h2:JL (s.size+1) s 0 []=none):bz s=([],false):=by unfold bz;rw [h,h2];rfl
theorem jX {s:ByteArray}{out:List ByteArray}(h:decide ((s.size:Int)≤2048)=true) (h2:JL (s.size+1) s 0 []=some out):bz s=vQ s out:=by unfold bz;rw [h,h2];rfl
theorem o0 {s:ByteArray}(h:decide ((s.size:Int)≤2048)=false):bz s=([],false):=by unfold bz;rw [h];rfl
theorem aao {s:ByteArray}{out:List ByteArray}(h:(!(cG out).2)=true):vQ s out=([],false):=by unfold vQ;rw [h];rfl
theorem aan {s:ByteArray}{out:List ByteArray}(h:decide ((cG out).1≠s)=true):vQ s out=([],false):=by unfold vQ;rw [h,ZC4];rfl
theorem aam {s:ByteArray}{out:List ByteArray}(h:(!(cG out).2)=false) (h2:decide ((cG out).1≠s)=false):vQ s out=(out,true):=by unfold vQ;rw [h,h2];rfl
def nA (s:ByteArray):Prop:=s.size≤1000000
def cc (s:ByteArray):AV:=.t [.s (.xs 0 1 0 (bz s).1.length),.s (.q (bz s).2)]
def cu (s:ByteArray):List AV:=[.rs ab (bz s).1]
def wc:Con where
 A:=[.s .str]
 B:=[]
 pre:=fun x b=>nA x
 α:=fun _ _=>Unit
 φ:=fun _ _ _=>True
 r:=fun x b _=>cc x
 o:=fun x b _=>cu x
 nf:=1
set_option maxRecDepth 100000 in
theorem TY:Has Tryz.prog 73 wc:=by
 refine Has.ofE (fun _=>true) (fun _=>false) (fun _=>false) (l:=[(113,ud),(114,jI)]) ⟨PM,vI,trivial⟩ (fn:=Tryz.f73) Tryz.func73 rfl (by decide) (aZ rfl) ?_
 rintro (s:ByteArray) _ (hp:nA s)
 show vc _ _ _ _ (entry [.str s] []) _
 unfold nA at hp
 refine⟨aa,?_⟩
 all_goals first|refine aw ?_|refine ax ?_|exact ba|(dsimp only [ud,lj];omega)|(dsimp only [jI,kq];omega)|exact a8|skip
 refine cO (l:=[(113,ud),(114,jI)]) (ex:=fun _=>true) (wr:=fun _=>false) (pt:=fun _=>false) ⟨PM,vI,trivial⟩ [.s 0] (fun y:Int×List ByteArray×Nat=>[(.s 4,.s (.xs 1010 1 0 y.2.1.length)),(.s 5,.int y.1),(.b 1010,.rs ab y.2.1)]) (fun y=>(0≤y.1∧y.1≤s.size)∧(y.2.1.length:Int)≤y.1∧(s.size:Int)<y.1+y.2.2∧(s.size≤2048→JL y.2.2 s y.1 y.2.1=JL (s.size+1) s 0 [])∧(2048<s.size→y.1=0∧y.2.1=[])) (fun y=>(s.size-y.1).toNat) (0,[],s.size+1) [] ⟨⟨ZC1 _,by show (0:Int)≤s.size;omega⟩,ZC1 _,by show (s.size:Int)<0+(s.size+1:Nat);omega,fun _=>rfl,fun _=>⟨rfl,rfl⟩⟩ dN ?_
 rintro⟨i,out,f⟩ ⟨⟨(hi0:0≤i),(hi:i≤s.size)⟩,(hl:(out.length:Int)≤i),(hf:(s.size:Int)<i+f),(hr:s.size≤2048→JL f s i out=JL (s.size+1) s 0 []),(h0:2048<s.size→i=0∧out=[])⟩
 have hb:=ahX (s.extract i.toNat s.size)
 rw [ZC5] at hb
 have h48:decide ((s.size:Int)≤2048)=true→s.size≤2048:=fun h=>by have:=aE h;omega
 obtain⟨g,rfl⟩:∃g,f=g+1:=⟨f-1,by omega⟩
 refine⟨aa,fun w1=>⟨fun w2=>⟨⟨?_,?_,?_⟩,⟨⟨aa,aa⟩,?_⟩,fun x3 w4=>⟨aa,fun w5=>⟨aa,?_⟩,fun w6=>⟨⟨?_,?_⟩,aa,fun w7=>⟨aa,?_⟩,fun w8=>⟨⟨?_,?_⟩,⟨?_,?_⟩,aa,fun w9=>⟨aa,?_⟩,fun dq=>⟨⟨?_,?_⟩,⟨?_,?_⟩,⟨?_,?_⟩,fun kk=>⟨aa,?_⟩,fun dI=>⟨⟨?_,?_⟩,⟨?_,?_⟩,⟨?_,?_⟩,⟨?_,?_⟩,⟨?_,?_⟩,⟨?_,?_,?_⟩,aa,⟨⟨?_,?_⟩,?_,?_⟩,⟨?_,?_⟩,⟨?_,?_⟩,⟨?_,?_⟩,?_⟩⟩⟩⟩⟩⟩,fun iJ=>⟨⟨⟨⟨?_,?_⟩,aa⟩,aa⟩,fun x14 pe=>⟨aa,fun kj=>⟨aa,?_⟩,fun wC=>⟨fun qX=>⟨aa,?_⟩,fun oB=>?_⟩⟩⟩⟩,fun uw=>⟨⟨⟨⟨?_,?_⟩,aa⟩,aa⟩,fun x21 zl=>⟨aa,fun xD=>⟨aa,?_⟩,fun rG=>⟨fun w25=>⟨aa,?_⟩,fun E1=>?_⟩⟩⟩⟩
 all_goals first|refine aw ?_|refine ax ?_|exact ba|(dsimp only [ud,lj];omega)|(dsimp only [jI,kq];omega)|exact a8|(show lj (s.extract i.toNat s.size);unfold lj;rw [ZC5];omega)|skip
 ·refine⟨[1056],[],_,_,_,rfl,az,(),aa,?_,?_,rfl⟩
  ·(show _=cc s);unfold cc;first|(rw [gH w2 (by rw [←hr (h48 w2),EM w1 (aat w5)])];rfl)|rfl
  ·(show _=cu s);unfold cu;first|(rw [gH w2 (by rw [←hr (h48 w2),EM w1 (aat w5)])];rfl)|rfl
 ·refine⟨[1056],[],_,_,_,rfl,az,(),aa,?_,?_,rfl⟩
  ·(show _=cc s);unfold cc;first|(rw [gH w2 (by rw [←hr (h48 w2),EM w1 (aas w7)])];rfl)|rfl
  ·(show _=cu s);unfold cu;first|(rw [gH w2 (by rw [←hr (h48 w2),EM w1 (aas w7)])];rfl)|rfl
 ·refine⟨[1056],[],_,_,_,rfl,az,(),aa,?_,?_,rfl⟩
  ·(show _=cc s);unfold cc;first|(rw [gH w2 (by rw [←hr (h48 w2),EM w1 (aar w9)])];rfl)|rfl
  ·(show _=cu s);unfold cu;first|(rw [gH w2 (by rw [←hr (h48 w2),EM w1 (aar w9)])];rfl)|rfl
 ·refine⟨[1056],[],_,_,_,rfl,az,(),aa,?_,?_,rfl⟩
  ·(show _=cc s);unfold cc;first|(rw [gH w2 (by rw [←hr (h48 w2),EM w1 (aaq kk)])];rfl)|rfl
  ·(show _=cu s);unfold cu;first|(rw [gH w2 (by rw [←hr (h48 w2),EM w1 (aaq kk)])];rfl)|rfl
 ·have h5:¬((tU s i).2=0):=aA w6
  have h6:¬(i+(tU s i).2≥s.size):=aA w8
  have h7:¬((tU s i).1>s.size-i-(tU s i).2-1):=aA dI
  have h8:s.size≤2048:=h48 w2
  have hb:(0≤(tU s i).1∧(tU s i).1≤999999999)∧(0≤(tU s i).2∧(tU s i).2≤9)∧_:=hb
  refine⟨(i+(tU s i).2+1+(tU s i).1,out++[s.extract (i+(tU s i).2+1).toNat (i+(tU s i).2+1+(tU s i).1).toNat],g),[(1010,1071)],?_,?_,?_⟩
  rotate_right
  ·exact bX
  ·refine⟨⟨?_,?_⟩,?_,?_,fun h=>?_,fun h=>absurd h8 (by omega)⟩
   ·show 0≤i+(tU s i).2+1+(tU s i).1;omega
   ·show i+(tU s i).2+1+(tU s i).1≤_;omega
   ·show ((List.length (_++_):Nat):Int)≤i+(tU s i).2+1+(tU s i).1;rw [ZA0];show ((out.length+1:Nat):Int)≤_;omega
   ·show (s.size:Int)<i+(tU s i).2+1+(tU s i).1+(g:Int);omega
   ·rw [←hr h,ahk w1 (aau w6 w8 dq dI)]
  ·show (s.size-(i+(tU s i).2+1+(tU s i).1)).toNat<(s.size-i).toNat;omega
 ·obtain⟨rfl,rfl⟩:=h0 (by have:=aA iJ;omega)
  refine⟨[1090],[],_,_,_,rfl,az,(),aa,?_,?_,rfl⟩
  ·(show _=cc s);unfold cc;first|(rw [o0 iJ];rfl)|rfl
  ·(show _=cu s);unfold cu;first|(rw [o0 iJ];rfl)|rfl
 ·obtain⟨rfl,rfl⟩:=h0 (by have:=aA iJ;omega)
  refine⟨[1090],[],_,_,_,rfl,az,(),aa,?_,?_,rfl⟩
  ·(show _=cc s);unfold cc;first|(rw [o0 iJ];rfl)|rfl
  ·(show _=cu s);unfold cu;first|(rw [o0 iJ];rfl)|rfl
 ·obtain⟨rfl,rfl⟩:=h0 (by have:=aA iJ;omega)
  have h9:¬((⟨#[]⟩:ByteArray)≠s):=aA oB
  have h10:(⟨#[]⟩:ByteArray)=s:=ZF0.1 h9
  have h11:¬((s.size:Int)≤2048):=aA iJ
  exact absurd (show ((s.size:Nat):Int)≤2048 by rw [←h10];show (0:Int)≤2048;omega) h11
 all_goals
  have h13:¬(i<(s.size:Int)):=aA uw
  have h14:JL (g+1) s i out=some out:=aeV uw
  have xN:decide ((s.size:Int)≤2048)=true:=by
   cases hh:decide ((s.size:Int)≤2048) with
   |true=>rfl
   |false=>
    have h16:=aA hh
    obtain⟨rfl,_⟩:=h0 (by omega)
    omega
  have e:JL (s.size+1) s 0 []=some out:=by rw [←hr (h48 xN),h14]
 ·refine⟨[1090],[],_,_,_,rfl,az,(),aa,?_,?_,rfl⟩
  ·(show _=cc s);unfold cc;first|(rw [jX xN e,aao (out:=out) xD];rfl)|rfl
  ·(show _=cu s);unfold cu;first|(rw [jX xN e,aao (out:=out) xD];rfl)|rfl
 ·refine⟨[1090],[],_,_,_,rfl,az,(),aa,?_,?_,rfl⟩
  ·(show _=cc s);unfold cc;first|(rw [jX xN e,aan (out:=out) w25];rfl)|rfl
  ·(show _=cu s);unfold cu;first|(rw [jX xN e,aan (out:=out) w25];rfl)|rfl
 ·refine⟨[1010],[],_,_,_,rfl,az,(),aa,?_,?_,rfl⟩
  ·(show _=cc s);unfold cc;first|(rw [jX xN e,aam (out:=out) rG E1];rfl)|rfl
  ·(show _=cu s);unfold cu;first|(rw [jX xN e,aam (out:=out) rG E1];rfl)|rfl
def mY (w:List ByteArray):fu:=
 ((aD (nth ab w 0)).1,(aD (nth ab w 1)).1,(aD (nth ab w 2)).1,
   (bR (nth ab w 3)).1.1,(bR (nth ab w 3)).1.2.1,(bR (nth ab w 3)).1.2.2.1,(bR (nth ab w 3)).1.2.2.2.1,(bR (nth ab w 3)).1.2.2.2.2,
   (aD (nth ab w 4)).1,(aD (nth ab w 5)).1)
def nG:fu:=(0,0,0,0,0,0,0,0,0,0)
def bB (s:ByteArray):fu×Bool:=
 bif !(bz s).2||(decide (((bz s).1.length:Int)≠7)||(!(cy (mY (bz s).1))||decide (aC (mY (bz s).1)≠s))) then (nG,false) else (mY (bz s).1,true)
theorem yE {s:ByteArray}(h:(!(bz s).2)=true):bB s=(nG,false):=by unfold bB;rw [h];rfl
theorem tG {s:ByteArray}(h:decide (((bz s).1.length:Int)≠7)=true):bB s=(nG,false):=by unfold bB;rw [h,Bool.true_or,ZC4];rfl
theorem yD {s:ByteArray}(h:(!(cy (mY (bz s).1)))=true):bB s=(nG,false):=by unfold bB;rw [h,Bool.true_or,ZC4,ZC4];rfl
theorem yC {s:ByteArray}(h:decide (aC (mY (bz s).1)≠s)=true):bB s=(nG,false):=by unfold bB;rw [h,ZC4,ZC4,ZC4];rfl
theorem yF {s:ByteArray}(h1:(!(bz s).2)=false) (h2:decide (((bz s).1.length:Int)≠7)=false) (h3:(!(cy (mY (bz s).1)))=false) (h4:decide (aC (mY (bz s).1)≠s)=false):bB s=(mY (bz s).1,true):=by unfold bB;rw [h1,h2,h3,h4];rfl
def ndA (n:fu):A0:=.a (EK.A5 pc n)
theorem aeU {s:ByteArray}:∀{f:Nat}{i:Int}{out r:List ByteArray},JL f s i out=some r→(∀x∈out,x.size≤s.size)→∀x∈r,x.size≤s.size
 |0,_,_,_,h,_=>by cases h
 |f+1,i,out,r,h,ho=>by
  unfold JL at h
  cases hc:decide (i<(s.size:Int)) with
  |true=>
   rw [hc,cond_true] at h
   cases hb:qy s i (tU s i) with
   |true=>rw [hb] at h;cases h
   |false=>
    rw [hb,cond_false] at h
    refine aeU h fun x hx=>?_
    rcases ZB5.1 hx with hx |hx
    ·exact ho x hx
    ·simp only [ZB9,ZF3,or_false] at hx
     subst hx
     rw [ZC5];omega
  |false=>rw [hc] at h;cases h;exact ho
theorem LG {s:ByteArray}:∀x∈(bz s).1,x.size≤s.size:=by
 intro x hx
 unfold bz at hx
 cases hc:decide ((s.size:Int)≤2048) with
 |true=>
  rw [hc,cond_true] at hx
  cases hr:JL (s.size+1) s 0 [] with
  |none=>rw [hr] at hx;cases hx
  |some out=>
   rw [hr] at hx
   have ho:=aeU hr (fun _ h=>by cases h)
   unfold vQ at hx
   cases hd: !(cG out).2||decide ((cG out).1≠s) with
   |true=>simp only [hd,cond_true] at hx;cases hx
   |false=>simp only [hd,cond_false] at hx;exact ho x hx
 |false=>rw [hc] at hx;cases hx
def lr (s:ByteArray):Prop:=s.size≤1000000
def ff (s:ByteArray):AV:=.t [ndA (bB s).1,.s (.q (bB s).2)]
def W5 (s:ByteArray):List AV:=[]
def ns:Con where
 A:=[.s .str]
 B:=[]
 pre:=fun x b=>lr x
 α:=fun _ _=>Unit
 φ:=fun _ _ _=>True
 r:=fun x b _=>ff x
 o:=fun x b _=>W5 x
 nf:=0
set_option maxRecDepth 100000 in
theorem CZ:Has Tryz.prog 46 ns:=by
 refine Has.ofE (fun _=>true) (fun _=>false) (fun _=>false) (l:=[(73,wc),(74,jH),(75,qI),(76,qK),(77,sT)]) ⟨TY,vH,IZ,I1,MV,trivial⟩ (fn:=Tryz.f46) Tryz.func46 rfl (by decide) (aZ rfl) ?_
 rintro (s:ByteArray) _ (hp:lr s)
 show vc _ _ _ _ (entry [.str s] []) _
 unfold lr at hp
 have dk:∀k,(nth ab (bz s).1 k).size≤1000000:=fun k=>by
  by_cases h:k<(bz s).1.length
  ·exact ZB1 (LG _ (bT (ek:=ab) h)) hp
  ·unfold nth;rw [ZD9 (by omega)];exact ZA8 _
 have agm:∀k,gM (nth ab (bz s).1 k):=fun k=>by unfold gM;have:=dk k;omega
 refine⟨⟨⟨aa,aa⟩,?_⟩,fun x1 w2=>⟨aa,fun w3=>?_,fun w4=>⟨fun w5=>?_,fun w6=>⟨⟨?_,?_⟩,?_,⟨⟨aa,aa⟩,?_⟩,fun x7 w8=>⟨⟨?_,?_⟩,?_,⟨⟨aa,aa⟩,?_⟩,fun x9 dq=>⟨⟨?_,?_⟩,?_,⟨⟨aa,aa⟩,?_⟩,fun kE dI=>⟨⟨?_,?_⟩,?_,⟨⟨aa,aa⟩,?_⟩,fun r4 gI=>⟨⟨?_,?_⟩,?_,⟨⟨aa,aa⟩,?_⟩,fun kD kj=>⟨⟨?_,?_⟩,?_,⟨⟨aa,aa⟩,?_⟩,fun x17 qX=>⟨⟨⟨⟨aa,aa,aa,aa,aa,aa,aa,aa,aa,aa,aa⟩,aa⟩,aa⟩,fun x19 uw=>⟨aa,fun zm=>?_,fun zl=>⟨⟨⟨⟨aa,aa,aa,aa,aa,aa,aa,aa,aa,aa,aa⟩,aa⟩,aa⟩,fun x23 rG=>⟨fun w25=>?_,fun E1=>?_⟩⟩⟩⟩⟩⟩⟩⟩⟩⟩⟩⟩⟩
 all_goals first|refine aw ?_|refine ax ?_|exact ba|(dsimp only [wc,nA];omega)|(dsimp only [jH,gM];omega)|(dsimp only [qI,mT];omega)|(dsimp only [qK,qj];omega)|(dsimp only [sT,rl];omega)|exact a8|exact dk _|exact agm _|skip
 ·refine⟨[],[],_,_,_,rfl,az,(),aa,?_,?_,rfl⟩
  ·(show _=ff s);unfold ff;first|(rw [yE w3];rfl)|rfl
  ·rfl
 ·refine⟨[],[],_,_,_,rfl,az,(),aa,?_,?_,rfl⟩
  ·(show _=ff s);unfold ff;first|(rw [tG w5];rfl)|rfl
  ·rfl
 ·refine⟨[],[],_,_,_,rfl,az,(),aa,?_,?_,rfl⟩
  ·(show _=ff s);unfold ff;first|(rw [yD zm];rfl)|rfl
  ·rfl
 ·refine⟨[],[],_,_,_,rfl,az,(),aa,?_,?_,rfl⟩
  ·(show _=ff s);unfold ff;first|(rw [yC w25];rfl)|rfl
  ·rfl
 ·refine⟨[],[],_,_,_,rfl,az,(),aa,?_,?_,rfl⟩
  ·(show _=ff s);unfold ff;first|(rw [yF w4 w6 zl E1];rfl)|rfl
  ·rfl
end GL
namespace GL
def cw (n:Nat):List Pt:=List.replicate n bO
def lg (n:Int):Prop:=0≤n∧n≤1000
def u4 (n:Int):AV:=.s (.xs 0 5 0 (cw n.toNat).length)
def yz (n:Int):List AV:=[.rs ae (cw n.toNat)]
def j4:Con where
 A:=[.s .int]
 B:=[]
 pre:=fun x b=>lg x
 α:=fun _ _=>Unit
 φ:=fun _ _ _=>True
 r:=fun x b _=>u4 x
 o:=fun x b _=>yz x
 nf:=1
set_option maxRecDepth 100000 in
theorem wX:Has Tryz.prog 78 j4:=by
 refine Has.ofE (fun _=>true) (fun _=>false) (fun _=>false) (l:=[]) trivial (fn:=Tryz.f78) Tryz.func78 rfl (by decide) (aZ rfl) ?_
 rintro (n:Int) _ (hp:lg n)
 show vc _ _ _ _ (entry [.int n] []) _
 obtain⟨h1,h2⟩:=hp
 refine⟨⟨?_,⟨?_,?_⟩⟩,?_⟩
 all_goals first|refine aw ?_|refine ax ?_|exact ba|exact a8|skip
 refine⟨[1004],[],_,_,_,rfl,az,(),aa,?_,?_,rfl⟩
 ·(show _=u4 n);unfold u4;first|(rw [show (cw n.toNat).length=n.toNat from ZG1];rfl)|rfl
 ·(show _=yz n);unfold yz;first|(rw [show (cw n.toNat).length=n.toNat from ZG1];rfl)|rfl
structure ay.rd (s:ay):Prop where
 len:s.rows.length=64
 sz:∀x∈s.rows,x.size≤1000000
theorem zD {s:ay}{p:Pt}(h:s.rd):(bH s p).1.size≤1000000:=by
 unfold bH
 cases au p with
 |true=>exact ZA8 _
 |false=>
  cases iY p (nth ab s.rows p.1.toNat) with
  |true=>
   show (nth ab s.rows p.1.toNat).size≤1000000
   by_cases hk:p.1.toNat<s.rows.length
   ·exact h.2 _ (bT (ek:=ab) hk)
   ·unfold nth;rw [ZD9 (by omega)];exact ZA8 _
  |false=>exact ZA8 _
def oO (p:Pt) (r:List Pt×Bool):List Pt×Bool:=bif r.1.any (fun q=>decide (q.2.1>p.2.1)) then ([],false) else r
def bh (s:ay) (p:Pt) (lv:Int):List Pt×Bool:=
 bif au p then (cw 4,true) else
 bif !(a6 p)||(decide (p.2.2.2.2≠lv)||decide (p.2.1>s.ck)) then ([],false) else
 bif !(bH s p).2 then ([],false) else oO p (bn (bH s p).1)
theorem kA {s:ay}{p:Pt}{lv:Int}(h:au p=true):bh s p lv=(cw 4,true):=by unfold bh;rw [h];rfl
theorem KN {s:ay}{p:Pt}{lv:Int}(h:au p=false) (h1:(!(a6 p))=true):bh s p lv=([],false):=by unfold bh;rw [h,h1];rfl
theorem wj {s:ay}{p:Pt}{lv:Int}(h:au p=false) (h1:decide (p.2.2.2.2≠lv)=true):bh s p lv=([],false):=by unfold bh;rw [h,h1,Bool.true_or,ZC4];rfl
theorem AN {s:ay}{p:Pt}{lv:Int}(h:au p=false) (h1:decide (p.2.1>s.ck)=true):bh s p lv=([],false):=by unfold bh;rw [h,h1,ZC4,ZC4];rfl
theorem wi {s:ay}{p:Pt}{lv:Int}(h:au p=false) (h1:(!(a6 p))=false) (h2:decide (p.2.2.2.2≠lv)=false) (h3:decide (p.2.1>s.ck)=false) (h4:(!(bH s p).2)=true):bh s p lv=([],false):=by unfold bh;rw [h,h1,h2,h3,h4];rfl
theorem wh {s:ay}{p:Pt}{lv:Int}(h:au p=false) (h1:(!(a6 p))=false) (h2:decide (p.2.2.2.2≠lv)=false) (h3:decide (p.2.1>s.ck)=false) (h4:(!(bH s p).2)=false):bh s p lv=oO p (bn (bH s p).1):=by unfold bh;rw [h,h1,h2,h3,h4];rfl
theorem vS (s:ByteArray):(bn s).1.length≤4∧((bn s).2=true→(bn s).1.length=4):=by
 unfold bn
 cases ov (bo s 44) [] false with
 |none=>exact⟨ZA8 _,fun h=>by cases h⟩
 |some r=>
  obtain⟨o,sm⟩:=r
  show (mh o sm).1.length≤4∧((mh o sm).2=true→(mh o sm).1.length=4)
  unfold mh
  cases hc:decide ((o.length:Int)≠4)|| !sm with
  |true=>exact⟨ZA8 _,fun h=>by cases h⟩
  |false=>
   simp only [ZD7,decide_eq_false_iff_not,ZF0] at hc
   have:o.length=4:=by omega
   exact⟨by show o.length≤4;omega,fun _=>this⟩
abbrev late (p:Pt):Pt→Bool:=fun q=>decide (q.2.1>p.2.1)
theorem wk {p:Pt}{r:List Pt×Bool}(h:r.1.any (late p)=true):oO p r=([],false):=by unfold oO;rw [h];rfl
theorem sV {p:Pt}{r:List Pt×Bool}(h:r.1.any (late p)=false):oO p r=r:=by unfold oO;rw [h];rfl
theorem YV {l:List Pt}{f:Pt→Bool}{i:Nat}(hi:i<l.length) (hr:(l.drop i).any f=l.any f) (h:f (nth ae l i)=true):l.any f=true:=by
 rw [←hr,bZ (ek:=ae) hi,List.any_cons,h];rfl
theorem afL {l:List Pt}{f:Pt→Bool}{i:Nat}(hi:i<l.length) (hr:(l.drop i).any f=l.any f) (h:f (nth ae l i)=false):(l.drop (i+1)).any f=l.any f:=by
 rw [←hr,bZ (ek:=ae) hi,List.any_cons,h];rfl
theorem YW {l:List Pt}{f:Pt→Bool}{i:Nat}(hi:¬i<l.length) (hr:(l.drop i).any f=l.any f):l.any f=false:=by
 rw [←hr,ZB4 (by omega)];rfl
def fG (S:ay) (p:Pt) (lv:Int):Prop:=S.rd
def du (S:ay) (p:Pt) (lv:Int):AV:=.t [.s (.xs 0 5 0 (bh S p lv).1.length),.s (.q (bh S p lv).2)]
def dX (S:ay) (p:Pt) (lv:Int):List AV:=[.rs ae (bh S p lv).1]
def eg:Con where
 A:=[.a xE,.a [.int,.int,.int,.int,.int],.s .int]
 B:=[]
 pre:=fun x b=>fG (x.1) (x.2.1) (x.2.2)
 α:=fun _ _=>Unit
 φ:=fun _ _ _=>True
 r:=fun x b _=>du (x.1) (x.2.1) (x.2.2)
 o:=fun x b _=>dX (x.1) (x.2.1) (x.2.2)
 nf:=1
set_option maxRecDepth 100000 in
theorem lA:Has Tryz.prog 56 eg:=by
 refine Has.ofE (fun _=>true) (fun _=>false) (fun _=>false) (l:=[(26,bm),(78,j4),(25,cY),(29,eC),(89,we)]) ⟨cB,wX,iB,mc,TZ,trivial⟩ (fn:=Tryz.f56) Tryz.func56 rfl (by decide) (aZ rfl) ?_
 rintro⟨⟨(aj:List ByteArray),(ak:List Int),(an:List Int),(ao:Int),(ah:List Pt),(aq:Int),(ai:List Pt),(ar:Bool)⟩,⟨(p1:Int),(p2:Int),(p3:Int),(p4:Int),(p5:Int)⟩,(lv:Int)⟩ _ (hp:fG (aj,ak,an,ao,ah,aq,ai,ar) (p1,p2,p3,p4,p5) lv)
 show vc _ _ _ _ (entry [.a [.vz ab aj,.vz ag ak,.vz ag an,.int ao,.vz ae ah,.int aq,.vz ae ai,.q ar],.a [.int p1,.int p2,.int p3,.int p4,.int p5],.int lv] []) _
 have dG:ay.rd (aj,ak,an,ao,ah,aq,ai,ar):=hp
 have hlen:aj.length=64:=dG.1
 have dk:∀q,(bH (aj,ak,an,ao,ah,aq,ai,ar) q).1.size≤1000000:=fun q=>zD dG
 have xM:au (p1,p2,p3,p4,p5)=false→(!(a6 (p1,p2,p3,p4,p5)))=false→0≤p1∧p1<64:=fun h h1=>by
  have:=pX (cI h1);dsimp only at this;omega
 refine⟨⟨⟨⟨aa,aa,aa,aa,aa,aa⟩,aa⟩,aa⟩,fun x1 w2=>⟨fun w3=>⟨⟨⟨aa,aa⟩,?_,?_⟩,fun x4 w5=>?_⟩,fun w6=>⟨⟨⟨⟨aa,aa,aa,aa,aa,aa⟩,aa⟩,aa⟩,fun x7 w8=>⟨aa,fun w9=>⟨aa,?_⟩,fun dq=>⟨aa,fun kk=>⟨aa,?_⟩,fun dI=>⟨fun iJ=>⟨aa,?_⟩,fun gI=>⟨⟨⟨⟨aa,aa,aa,aa,aa,aa,aa,aa,aa⟩,⟨aa,aa,aa,aa,aa,aa⟩,aa⟩,fun kD kj=>?_,?_,?_⟩,fun x17 qX=>⟨fun oB=>⟨aa,?_⟩,fun uw=>⟨⟨⟨aa,aa⟩,?_⟩,fun x21 zl=>?_⟩⟩⟩⟩⟩⟩⟩⟩⟩
 all_goals first|refine aw ?_|refine ax ?_|exact ba|(dsimp only [bm,cj];omega)|(dsimp only [j4,lg];omega)|(dsimp only [cY,ee];omega)|(dsimp only [eC,fV];omega)|(dsimp only [we,qk];omega)|exact a8|exact dG.2 _ (by assumption)|exact (xM w6 dq).1|(have:=(xM w6 dq).2;show p1<(aj.length:Int);omega)|skip
 ·refine⟨[160000],[],_,_,_,rfl,az,(),aa,?_,?_,rfl⟩
  ·(show _=du (aj,ak,an,ao,ah,aq,ai,ar) (p1,p2,p3,p4,p5) lv);unfold du;first|(rw [kA w3];rfl)|rfl
  ·(show _=dX (aj,ak,an,ao,ah,aq,ai,ar) (p1,p2,p3,p4,p5) lv);unfold dX;first|(rw [kA w3];rfl)|rfl
 ·refine⟨[1032],[],_,_,_,rfl,az,(),aa,?_,?_,rfl⟩
  ·(show _=du (aj,ak,an,ao,ah,aq,ai,ar) (p1,p2,p3,p4,p5) lv);unfold du;first|(rw [KN w6 w9];rfl)|rfl
  ·(show _=dX (aj,ak,an,ao,ah,aq,ai,ar) (p1,p2,p3,p4,p5) lv);unfold dX;first|(rw [KN w6 w9];rfl)|rfl
 ·refine⟨[1032],[],_,_,_,rfl,az,(),aa,?_,?_,rfl⟩
  ·(show _=du (aj,ak,an,ao,ah,aq,ai,ar) (p1,p2,p3,p4,p5) lv);unfold du;first|(rw [wj w6 kk];rfl)|rfl
  ·(show _=dX (aj,ak,an,ao,ah,aq,ai,ar) (p1,p2,p3,p4,p5) lv);unfold dX;first|(rw [wj w6 kk];rfl)|rfl
 ·refine⟨[1032],[],_,_,_,rfl,az,(),aa,?_,?_,rfl⟩
  ·(show _=du (aj,ak,an,ao,ah,aq,ai,ar) (p1,p2,p3,p4,p5) lv);unfold du;first|(rw [AN w6 iJ];rfl)|rfl
  ·(show _=dX (aj,ak,an,ao,ah,aq,ai,ar) (p1,p2,p3,p4,p5) lv);unfold dX;first|(rw [AN w6 iJ];rfl)|rfl
 ·refine⟨[1041],[],_,_,_,rfl,az,(),aa,?_,?_,rfl⟩
  ·(show _=du (aj,ak,an,ao,ah,aq,ai,ar) (p1,p2,p3,p4,p5) lv);unfold du;first|(rw [wi (s:=(aj,ak,an,ao,ah,aq,ai,ar)) (p:=(p1,p2,p3,p4,p5)) w6 dq dI gI oB];rfl)|rfl
  ·(show _=dX (aj,ak,an,ao,ah,aq,ai,ar) (p1,p2,p3,p4,p5) lv);unfold dX;first|(rw [wi (s:=(aj,ak,an,ao,ah,aq,ai,ar)) (p:=(p1,p2,p3,p4,p5)) w6 dq dI gI oB];rfl)|rfl
 ·exact dk _
 ·have hB:=wh (s:=(aj,ak,an,ao,ah,aq,ai,ar)) (p:=(p1,p2,p3,p4,p5)) (lv:=lv) w6 dq dI gI uw
  have hF:=(vS (bH (aj,ak,an,ao,ah,aq,ai,ar) (p1,p2,p3,p4,p5)).1).1
  refine cO (l:=[(26,bm),(78,j4),(25,cY),(29,eC),(89,we)]) (ex:=fun _=>true) (wr:=fun _=>false) (pt:=fun _=>false) ⟨cB,wX,iB,mc,TZ,aa⟩ [.s 4,.b 1004,.s 10,.s 11,.b 450000] (fun i:Nat=>[(.s 12,.int i)]) (fun i=>i≤(bn (bH (aj,ak,an,ao,ah,aq,ai,ar) (p1,p2,p3,p4,p5)).1).1.length∧((bn (bH (aj,ak,an,ao,ah,aq,ai,ar) (p1,p2,p3,p4,p5)).1).1.drop i).any (late (p1,p2,p3,p4,p5))=(bn (bH (aj,ak,an,ao,ah,aq,ai,ar) (p1,p2,p3,p4,p5)).1).1.any (late (p1,p2,p3,p4,p5))) (fun i=>(bn (bH (aj,ak,an,ao,ah,aq,ai,ar) (p1,p2,p3,p4,p5)).1).1.length-i) 0 [] ⟨ZA8 _,rfl⟩ dN ?_
  rintro i ⟨hi,hr⟩
  have cr:decide ((i:Int)<((bn (bH (aj,ak,an,ao,ah,aq,ai,ar) (p1,p2,p3,p4,p5)).1).1.length:Int))=true→i<(bn (bH (aj,ak,an,ao,ah,aq,ai,ar) (p1,p2,p3,p4,p5)).1).1.length:=fun h=>by have:=aE h;omega
  have oo:decide ((i:Int)<((bn (bH (aj,ak,an,ao,ah,aq,ai,ar) (p1,p2,p3,p4,p5)).1).1.length:Int))=false→¬i<(bn (bH (aj,ak,an,ao,ah,aq,ai,ar) (p1,p2,p3,p4,p5)).1).1.length:=fun h=>by have:=aA h;omega
  refine⟨fun w1=>⟨[.s 10],[.s 53],rfl,[.s 12],[.s 54],rfl,[.s 53,.s 54],[.s 55],rfl,⟨?_,?_⟩,[.s 55],[.s 56],rfl,[.s 56,.b 450000],[.s 57],rfl,?_,[.s 4],[.s 58],rfl,[.s 58,.b 1004],[.s 59],rfl,[.s 57,.s 59],[.s 60],rfl,fun w2=>⟨aa,?_⟩,fun w3=>⟨⟨?_,?_⟩,?_⟩⟩,fun w4=>?_⟩
  all_goals first|refine aw ?_|refine ax ?_|exact ba|(dsimp only [bm,cj];omega)|(dsimp only [j4,lg];omega)|(dsimp only [cY,ee];omega)|(dsimp only [eC,fV];omega)|(dsimp only [we,qk];omega)|exact a8|exact cr w1|exact aE w1|skip
  ·refine⟨[1061],[],_,_,_,rfl,az,(),aa,?_,?_,rfl⟩
   ·(show _=du (aj,ak,an,ao,ah,aq,ai,ar) (p1,p2,p3,p4,p5) lv);unfold du;first|(rw [hB,wk (YV (cr w1) hr w2)];rfl)|rfl
   ·(show _=dX (aj,ak,an,ao,ah,aq,ai,ar) (p1,p2,p3,p4,p5) lv);unfold dX;first|(rw [hB,wk (YV (cr w1) hr w2)];rfl)|rfl
  ·refine⟨(i+1),[],?_,?_,?_⟩
   rotate_right
   ·exact bX
   ·exact⟨cr w1,afL (cr w1) hr w3⟩
   ·show (bn (bH (aj,ak,an,ao,ah,aq,ai,ar) (p1,p2,p3,p4,p5)).1).1.length-(i+1)<(bn (bH (aj,ak,an,ao,ah,aq,ai,ar) (p1,p2,p3,p4,p5)).1).1.length-i;have:=cr w1;omega
  ·refine⟨[450000],[],_,_,_,rfl,az,(),aa,?_,?_,rfl⟩
   ·(show _=du (aj,ak,an,ao,ah,aq,ai,ar) (p1,p2,p3,p4,p5) lv);unfold du;first|(rw [hB,sV (YW (oo w4) hr)];rfl)|rfl
   ·(show _=dX (aj,ak,an,ao,ah,aq,ai,ar) (p1,p2,p3,p4,p5) lv);unfold dX;first|(rw [hB,sV (YW (oo w4) hr)];rfl)|rfl
end GL
end Go.Proofs.YtbfgjadbfjkcdaaGreatDoor
