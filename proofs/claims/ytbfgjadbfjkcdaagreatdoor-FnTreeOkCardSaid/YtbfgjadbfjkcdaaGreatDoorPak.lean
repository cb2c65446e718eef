/- FnTreeOk returns true for every code (its row lists package variables, tied by the card): part 11 of 39. -/
import Derived.Test.YtbfgjadbfjkcdaaGreatDoorPaj
set_option maxHeartbeats 20000000
set_option linter.all false
namespace Go.Proofs.YtbfgjadbfjkcdaaGreatDoor
namespace GL
abbrev aZ:=Int×Int×Int×Int×Int×Int×Int
abbrev fl:=Int×Int×Int×Int×Int×Int×Int×Int×Int×Int
abbrev Opr:=Int×ByteArray×ByteArray×Int×ByteArray
abbrev eU:=ByteArray×Int
abbrev ax:=List ByteArray×List Int×List Int×Int×List Pt×Int×List Pt×Bool
abbrev ax.rows (s:ax):List ByteArray:=s.1
abbrev ax.refs (s:ax):List Int:=s.2.1
abbrev ax.last (s:ax):List Int:=s.2.2.1
abbrev ax.bY (s:ax):Int:=s.2.2.2.1
abbrev ax.gone (s:ax):List Pt:=s.2.2.2.2.1
abbrev ax.bT (s:ax):Int:=s.2.2.2.2.2.1
abbrev ax.dead (s:ax):List Pt:=s.2.2.2.2.2.2.1
abbrev ax.same (s:ax):Bool:=s.2.2.2.2.2.2.2
abbrev stB (b0 b1 b2 b3 b4:Nat):List SP:=[.xb b0 aa, .xb b1 ae, .xb b2 ae, .int, .xb b3 ab, .int, .xb b4 ab, .bool]
abbrev xw:List SP:=[.vz aa, .vz ae, .vz ae, .int, .vz ab, .int, .vz ab, .bool]
def lA (b0 b1 b2 b3 b4:Nat) (s:ax):List SV:=[.xs b0 1 0 s.rows.length, .xs b1 1 0 s.refs.length, .xs b2 1 0 s.last.length, .int s.bY, .xs b3 5 0 s.gone.length, .int s.bT, .xs b4 5 0 s.dead.length, .q s.same]
def GD (s:ax):List AV:=[.rs aa s.rows, .rs ae s.refs, .rs ae s.last, .rs ab s.gone, .rs ab s.dead]
theorem uT {b0 b1 b2 b3 b4 m1 m2 m3 m4 m5:Nat} {tx kp:Int} {sm:Bool} {s:ax} (h1:m1=s.rows.length) (h2:m2=s.refs.length) (h3:m3=s.last.length) (h4:tx=s.bY) (h5:m4=s.gone.length) (h6:kp=s.bT) (h7:m5=s.dead.length) (h8:sm=s.same):
  [SV.xs b0 1 0 m1, .xs b1 1 0 m2, .xs b2 1 0 m3, .int tx, .xs b3 5 0 m4, .int kp, .xs b4 5 0 m5, .q sm]=lA b0 b1 b2 b3 b4 s:=by
 subst h1 h2 h3 h4 h5 h6 h7 h8;rfl
theorem ahl {ro:List ByteArray} {rf la:List Int} {go de:List Pt} {s:ax} (h1:ro=s.rows) (h2:rf=s.refs) (h3:la=s.last) (h4:go=s.gone) (h5:de=s.dead):[AV.rs aa ro, .rs ae rf, .rs ae la, .rs ab go, .rs ab de]=GD s:=by
 subst h1 h2 h3 h4 h5;rfl
def whole (m1 m2 m3 m4 m5:Nat) (ro:List ByteArray) (rf la:List Int) (go de:List Pt):Prop:=m1=ro.length∧m2=rf.length∧m3=la.length∧m4=go.length∧m5=de.length
def U0 {α:Type} (m:Nat) (l:List α):Prop:=m=l.length
abbrev xu (n:Int):Int:=IntKind.i64.wrap n
theorem nu {ek:EK} {l:List (EK.Ty ek)} {k:Nat} {x:EK.Ty ek} (h:k < l.length):nth ek (l.set k x) k=x:=by
 unfold nth
 rw [List.getElem?_set_self h]
theorem j0 (k:Nat):agF 0 k=k:=rfl
theorem sb {P:Prop} (h:P:=by first |exact ⟨(),trivial⟩ |(dsimp only [da,j0];omega) |(simp only [Option.getD_some,Option.getD_none,da,j0,List.length_append,List.length_cons,List.length_nil];omega) |(simp only [decide_eq_true_eq,decide_eq_false_iff_not,da,j0,gD,imax,Int.toNat_natCast,Option.getD_some,Option.getD_none,List.length_append,List.length_cons,List.length_nil] at *;omega)):P:=h
theorem rr {P:Prop} (h:P:=by repeat' (first |exact trivial |apply And.intro |exact Nat.le_of_eq (Nat.zero_add _) |(simp only [Option.getD_some,Option.getD_none,da,j0,List.length_append,List.length_cons,List.length_nil];omega))):P:=h
def zU (rf la:List Int) (k:Nat):List Int×List Int:=
 (rf.set k (xu (nth ae rf k - 1)),if xu (nth ae rf k - 1)=0 then la.set k 0 else la)
def yl (sp:List Int×List Int) (k:Int):Prop:=0≤k∧k < sp.1.length∧k < sp.2.length
def VQ (sp:List Int×List Int) (k:Int):AV:=.a [.xs 0 1 0 sp.1.length, .xs 1 1 0 sp.2.length]
def abn (sp:List Int×List Int) (k:Int):List AV:=[.rs ae (zU sp.1 sp.2 k.toNat).1, .rs ae (zU sp.1 sp.2 k.toNat).2]
def JZ:Con where
 A:=[.a [.xb 0 ae, .xb 1 ae], .s .int]
 B:=[.r ae, .r ae]
 pre:=fun x b=>U0 x.1.1 (b.1)∧U0 x.1.2 (b.2)∧yl ((b.1,b.2)) (x.2)
 α:=fun _ _=>Unit
 φ:=fun _ _ _=>True
 r:=fun x b _=>VQ ((b.1,b.2)) (x.2)
 o:=fun x b _=>abn ((b.1,b.2)) (x.2)
 nf:=0
set_option maxRecDepth 100000 in
theorem ad5:Has Tryz.prog 84 JZ:=by
 refine Has.ofE (fun _=>true) (fun d=>Nat.beq d 13) (fun _=>false) (l:=[]) trivial (fn:=Tryz.f84) Tryz.func84 rfl (by decide) (cH rfl) ?_
 rintro ⟨⟨(akq:Nat),(akp:Nat)⟩,(k:Int)⟩ ⟨(dv:List Int),(eD:List Int)⟩ ⟨(ahQ:akq=List.length dv),(ahP:akp=List.length eD),(hp:yl (dv,eD) k)⟩
 subst ahQ ahP
 show vc _ _ _ _ (entry [.a [.xs 0 1 0 dv.length, .xs 1 1 0 eD.length], .int k] [.rs ae dv, .rs ae eD]) _
 obtain ⟨h3,h4,h5⟩:=hp
 dsimp only at h4 h5
 have hk:k.toNat < dv.length:=by omega
 refine ⟨[.s 2],[.s 5],rfl,[.s 5, .b 1002],[.s 6],rfl,[.s 1],[.s 7],rfl,[.s 2],[.s 8],rfl,[.s 8, .b 1002],[.s 9],rfl,[.s 1],[.s 10],rfl,[.s 9, .s 10],[.s 11],rfl,⟨?_,?_⟩,[.s 11, .b 0],[.s 12],rfl,?_,[.s 12],[.s 13],rfl,[.s 6, .s 7],[.s 14],rfl,⟨?_,?_⟩,[.s 14, .s 13, .b 0],[.b 0],rfl,?_,⟨?_,?_⟩,?_,fun w1=>⟨⟨?_,?_⟩,?_,?_⟩,fun w2=>?_⟩
 all_goals first|refine au ?_|refine aw ?_|exact sa|exact sb|(simp only [j0,List.length_set];omega)|skip
 ·have h:nth ae (dv.set k.toNat _) k.toNat=0:=cw w1
  rw [nu hk] at h
  refine ⟨[],[],_,_,_,rfl,rp,(),tv,?_,?_,rfl⟩
  ·rfl
  ·show [AV.rs ae (dv.set _ _),AV.rs ae (eD.set _ _)]=[AV.rs ae (dv.set _ _),AV.rs ae (if _ then _ else _)]
   simp only [j0] at h ⊢
   rw [if_pos h]
 ·have h:¬nth ae (dv.set k.toNat _) k.toNat=0:=ca w2
  rw [nu hk] at h
  refine ⟨[],[],_,_,_,rfl,rp,(),tv,?_,?_,rfl⟩
  ·rfl
  ·show [AV.rs ae (dv.set _ _),AV.rs ae eD]=[AV.rs ae (dv.set _ _),AV.rs ae (if _ then _ else _)]
   simp only [j0] at h ⊢
   rw [if_neg h]
def ax.n64 (s:ax):Prop:=s.rows.length=64∧s.refs.length=64∧s.last.length=64
def uD (s:ax) (k:Nat):Bool:=decide (nth ae (zU s.refs s.last k).1 k=0)
def fU (s:ax) (k:Nat):ax:=
 (bif uD s k then s.rows.set k ByteArray.empty else s.rows,(zU s.refs s.last k).1,(zU s.refs s.last k).2,s.bY,s.gone,s.bT,s.dead,s.same)
theorem CU (rf la:List Int) (k:Nat):(zU rf la k).1.length=rf.length∧(zU rf la k).2.length=la.length:=by
 unfold zU
 refine ⟨List.length_set,?_⟩
 show List.length (if _ then _ else _)=_
 split<;>simp
theorem xe (s:ax) (k:Nat):(fU s k).rows.length=s.rows.length∧(fU s k).refs.length=s.refs.length∧(fU s k).last.length=s.last.length:=by
 refine ⟨?_,(CU s.refs s.last k).1,(CU s.refs s.last k).2⟩
 show List.length (bif _ then _ else _)=_
 cases uD s k<;>simp
def pM (S:ax) (k:Int):Prop:=S.n64∧0≤k∧k < 64
def VM (S:ax) (k:Int):AV:=.a (lA 0 1 2 3 4 (fU S k.toNat))
def abj (S:ax) (k:Int):List AV:=GD (fU S k.toNat)
def ql:Con where
 A:=[.a (stB 0 1 2 3 4), .s .int]
 B:=[.r aa, .r ae, .r ae, .r ab, .r ab]
 pre:=fun x b=>whole x.1.1 x.1.2.1 x.1.2.2.1 x.1.2.2.2.2.1 x.1.2.2.2.2.2.2.1 (b.1) (b.2.1) (b.2.2.1) (b.2.2.2.1) (b.2.2.2.2)∧pM ((b.1,b.2.1,b.2.2.1,x.1.2.2.2.1,b.2.2.2.1,x.1.2.2.2.2.2.1,b.2.2.2.2,x.1.2.2.2.2.2.2.2)) (x.2)
 α:=fun _ _=>Unit
 φ:=fun _ _ _=>True
 r:=fun x b _=>VM ((b.1,b.2.1,b.2.2.1,x.1.2.2.2.1,b.2.2.2.1,x.1.2.2.2.2.2.1,b.2.2.2.2,x.1.2.2.2.2.2.2.2)) (x.2)
 o:=fun x b _=>abj ((b.1,b.2.1,b.2.2.1,x.1.2.2.2.1,b.2.2.2.1,x.1.2.2.2.2.2.1,b.2.2.2.2,x.1.2.2.2.2.2.2.2)) (x.2)
 nf:=0
set_option maxRecDepth 100000 in
theorem IF:Has Tryz.prog 51 ql:=by
 refine Has.ofE (fun _=>true) (fun _=>false) (fun _=>false) (l:=[(84,JZ)]) ⟨ad5,trivial⟩ (fn:=Tryz.f51) Tryz.func51 rfl (by decide) (cH rfl) ?_
 rintro ⟨⟨(AS:Nat),(AR:Nat),(AQ:Nat),(an:Int),(AO:Nat),(ao:Int),(AN:Nat),(aq:Bool)⟩,(k:Int)⟩ ⟨(ai:List ByteArray),(aj:List Int),(ak:List Int),(ag:List Pt),(ah:List Pt)⟩ ⟨⟨(gr:AS=List.length ai),(gq:AR=List.length aj),(gp:AQ=List.length ak),(gn:AO=List.length ag),(gm:AN=List.length ah)⟩,(hp:pM (ai,aj,ak,an,ag,ao,ah,aq) k)⟩
 subst gr gq gp gn gm
 show vc _ _ _ _ (entry [.a [.xs 0 1 0 ai.length, .xs 1 1 0 aj.length, .xs 2 1 0 ak.length, .int an, .xs 3 5 0 ag.length, .int ao, .xs 4 5 0 ah.length, .q aq], .int k] [.rs aa ai, .rs ae aj, .rs ae ak, .rs ab ag, .rs ab ah]) _
 obtain ⟨⟨l1,l2,l3⟩,h6,h7⟩:=hp
 dsimp only [ax.rows,ax.refs,ax.last] at l1 l2 l3
 have hk:k.toNat < aj.length:=by omega
 have hk2:k.toNat < (zU aj ak k.toNat).1.length:=by rw [(CU _ _ _).1];exact hk
 have hD:=xe (ai,aj,ak,an,ag,ao,ah,aq) k.toNat
 refine ⟨⟨⟨⟨tv,tv,tv⟩,tv,tv⟩,?_,?_,?_,?_,?_⟩,fun x1 w2=>⟨⟨?_,?_⟩,?_,fun w3=>⟨⟨?_,?_⟩,?_,?_⟩,fun w4=>?_⟩⟩
 all_goals first|refine au ?_|refine aw ?_|exact sa|(dsimp only [JZ,yl];omega)|exact sb|exact hk2|skip
 all_goals
  refine ⟨[],[],_,_,_,rfl,rp,(),tv,?_,?_,rfl⟩
  ·exact congrArg AV.a (uT (s:=fU (ai,aj,ak,an,ag,ao,ah,aq) k.toNat) hD.1.symm hD.2.1.symm hD.2.2.symm rfl rfl rfl rfl rfl)
  ·refine ahl (s:=fU (ai,aj,ak,an,ag,ao,ah,aq) k.toNat) ?_ rfl rfl rfl rfl
   show _=bif _ then _ else _
   first
    |rw [show uD (ai,aj,ak,an,ag,ao,ah,aq) k.toNat=true from w3];rfl
    |rw [show uD (ai,aj,ak,an,ag,ao,ah,aq) k.toNat=false from w4];rfl
def cG (s:ax) (p:Pt):ax:=
 bif ar p then s else
 bif decide (p.2.1≤s.bT) then (s.rows,s.refs,s.last,s.bY,s.gone,s.bT,s.dead++[p],s.same) else
 bif decide (p.2.1 < s.bY) then (s.rows,s.refs,s.last,s.bY,s.gone++[p],s.bT,s.dead,s.same) else fU s p.1.toNat
theorem yV {s:ax} {p:Pt} (h:ar p=true):cG s p=s:=by unfold cG;rw [h];rfl
theorem yY {s:ax} {p:Pt} (h:ar p=false) (h1:decide (p.2.1≤s.bT)=true):cG s p=(s.rows,s.refs,s.last,s.bY,s.gone,s.bT,s.dead++[p],s.same):=by unfold cG;rw [h,h1];rfl
theorem yW {s:ax} {p:Pt} (h:ar p=false) (h1:decide (p.2.1≤s.bT)=false) (h2:decide (p.2.1 < s.bY)=true):cG s p=(s.rows,s.refs,s.last,s.bY,s.gone++[p],s.bT,s.dead,s.same):=by unfold cG;rw [h,h1,h2];rfl
theorem yX {s:ax} {p:Pt} (h:ar p=false) (h1:decide (p.2.1≤s.bT)=false) (h2:decide (p.2.1 < s.bY)=false):cG s p=fU s p.1.toNat:=by unfold cG;rw [h,h1,h2];rfl
def dD (S:ax) (p:Pt):Prop:=S.n64∧0≤p.1∧p.1 < 64∧S.gone.length≤1048000∧S.dead.length≤1048000
def VL (S:ax) (p:Pt):AV:=.a (lA 0 1 2 5 6 (cG S p))
def jJ (S:ax) (p:Pt):List AV:=[.rs aa (cG S p).rows, .rs ae (cG S p).refs, .rs ae (cG S p).last, .zz, .zz, .rs ab (cG S p).gone, .rs ab (cG S p).dead]
def cE:Con where
 A:=[.a (stB 0 1 2 3 4), .a [.int, .int, .int, .int, .int]]
 B:=[.r aa, .r ae, .r ae, .r ab, .r ab]
 pre:=fun x b=>whole x.1.1 x.1.2.1 x.1.2.2.1 x.1.2.2.2.2.1 x.1.2.2.2.2.2.2.1 (b.1) (b.2.1) (b.2.2.1) (b.2.2.2.1) (b.2.2.2.2)∧dD ((b.1,b.2.1,b.2.2.1,x.1.2.2.2.1,b.2.2.2.1,x.1.2.2.2.2.2.1,b.2.2.2.2,x.1.2.2.2.2.2.2.2)) (x.2)
 α:=fun _ _=>Unit
 φ:=fun _ _ _=>True
 r:=fun x b _=>VL ((b.1,b.2.1,b.2.2.1,x.1.2.2.2.1,b.2.2.2.1,x.1.2.2.2.2.2.1,b.2.2.2.2,x.1.2.2.2.2.2.2.2)) (x.2)
 o:=fun x b _=>jJ ((b.1,b.2.1,b.2.2.1,x.1.2.2.2.1,b.2.2.2.1,x.1.2.2.2.2.2.1,b.2.2.2.2,x.1.2.2.2.2.2.2.2)) (x.2)
 nf:=2
 mv:=true
set_option maxRecDepth 100000 in
theorem gl:Has Tryz.prog 50 cE:=by
 refine Has.ofE (fun _=>true) (fun _=>false) (fun _=>false) (l:=[(26,bc),(51,ql)]) ⟨cr,IF,trivial⟩ (fn:=Tryz.f50) Tryz.func50 rfl (by decide) (cH rfl) ?_
 rintro ⟨⟨(AS:Nat),(AR:Nat),(AQ:Nat),(an:Int),(AO:Nat),(ao:Int),(AN:Nat),(aq:Bool)⟩,⟨(p1:Int),(p2:Int),(p3:Int),(p4:Int),(p5:Int)⟩⟩ ⟨(ai:List ByteArray),(aj:List Int),(ak:List Int),(ag:List Pt),(ah:List Pt)⟩ ⟨⟨(gr:AS=List.length ai),(gq:AR=List.length aj),(gp:AQ=List.length ak),(gn:AO=List.length ag),(gm:AN=List.length ah)⟩,(hp:dD (ai,aj,ak,an,ag,ao,ah,aq) (p1,p2,p3,p4,p5))⟩
 subst gr gq gp gn gm
 show vc _ _ _ _ (entry [.a [.xs 0 1 0 ai.length, .xs 1 1 0 aj.length, .xs 2 1 0 ak.length, .int an, .xs 3 5 0 ag.length, .int ao, .xs 4 5 0 ah.length, .q aq], .a [.int p1, .int p2, .int p3, .int p4, .int p5]] [.rs aa ai, .rs ae aj, .rs ae ak, .rs ab ag, .rs ab ah]) _
 obtain ⟨⟨l1,l2,l3⟩,(h6:0≤p1),(h7:p1 < 64),h8,h9⟩:=hp
 dsimp only [ax.rows,ax.refs,ax.last,ax.gone,ax.dead] at l1 l2 l3 h8 h9
 refine ⟨⟨⟨⟨tv,tv,tv,tv,tv,tv⟩,tv⟩,tv⟩,fun x1 w2=>⟨fun w3=>?_,fun w4=>⟨fun w5=>⟨tv,⟨⟨?_,?_⟩,?_,?_⟩,?_⟩,fun w6=>⟨fun w7=>⟨tv,⟨⟨?_,?_⟩,?_,?_⟩,?_⟩,fun w8=>⟨⟨⟨⟨tv,tv,tv,tv,tv,tv,tv,tv,tv⟩,tv,tv⟩,⟨?_,?_,?_,?_,?_⟩,⟨?_,?_,?_⟩,?_,?_⟩,fun x9 df=>?_⟩⟩⟩⟩⟩
 all_goals first|refine au ?_|refine aw ?_|exact sa|(dsimp only [bc,bW];omega)|(dsimp only [ql,pM];omega)|exact sb|(simp only [da,List.length_cons,List.length_nil];omega)|exact l1|exact l2|exact l3|skip
 ·refine ⟨[3,4],[],_,_,_,rfl,rp,(),tv,?_,?_,rfl⟩
  ·show _=AV.a (lA 0 1 2 5 6 (cG (ai,aj,ak,an,ag,ao,ah,aq) (p1,p2,p3,p4,p5)));rw [yV w3];rfl
  ·show _=jJ (ai,aj,ak,an,ag,ao,ah,aq) (p1,p2,p3,p4,p5);unfold jJ;rw [yV w3];rfl
 ·refine ⟨[3,1000000023],[],_,_,_,rfl,rp,(),tv,?_,?_,rfl⟩
  ·show _=AV.a (lA 0 1 2 5 6 (cG (ai,aj,ak,an,ag,ao,ah,aq) (p1,p2,p3,p4,p5)));rw [yY w4 w5]
   exact congrArg AV.a (uT rfl rfl rfl rfl rfl rfl List.length_append.symm rfl)
  ·show _=jJ (ai,aj,ak,an,ag,ao,ah,aq) (p1,p2,p3,p4,p5);unfold jJ;rw [yY w4 w5];rfl
 ·refine ⟨[1000000035,4],[],_,_,_,rfl,rp,(),tv,?_,?_,rfl⟩
  ·show _=AV.a (lA 0 1 2 5 6 (cG (ai,aj,ak,an,ag,ao,ah,aq) (p1,p2,p3,p4,p5)));rw [yW w4 w6 w7]
   exact congrArg AV.a (uT rfl rfl rfl rfl List.length_append.symm rfl rfl rfl)
  ·show _=jJ (ai,aj,ak,an,ag,ao,ah,aq) (p1,p2,p3,p4,p5);unfold jJ;rw [yW w4 w6 w7];rfl
 ·refine ⟨[3,4],[],_,_,_,rfl,rp,(),tv,?_,?_,rfl⟩
  ·show _=AV.a (lA 0 1 2 5 6 (cG (ai,aj,ak,an,ag,ao,ah,aq) (p1,p2,p3,p4,p5)));rw [yX w4 w6 w8];rfl
  ·show _=jJ (ai,aj,ak,an,ag,ao,ah,aq) (p1,p2,p3,p4,p5);unfold jJ;rw [yX w4 w6 w8];rfl
end GL
namespace GL
def r6 (n:Int):Prop:=True
def aaW (n:Int):AV:=.q (ir n 8 63)
def adg (n:Int):List AV:=[]
def oP:Con where
 A:=[.s .int]
 B:=[]
 pre:=fun x b=>r6 x
 α:=fun _ _=>Unit
 φ:=fun _ _ _=>True
 r:=fun x b _=>aaW x
 o:=fun x b _=>adg x
 nf:=0
set_option maxRecDepth 100000 in
theorem zJ:Has Tryz.prog 55 oP:=by
 refine Has.ofE (fun _=>true) (fun _=>false) (fun _=>false) (l:=[(24,dy)]) ⟨im,trivial⟩ (fn:=Tryz.f55) Tryz.func55 rfl (by decide) (cH rfl) ?_
 rintro (n:Int) _ (hp:r6 n)
 show vc _ _ _ _ (entry [.int n] []) _
 refine ⟨⟨⟨tv,tv,tv,tv⟩,tv⟩,fun x1 w2=>?_⟩
 refine ⟨[],[],_,_,_,rfl,rp,(),tv,?_,?_,rfl⟩
 ·rfl
 ·rfl
def vd (s:ByteArray):Prop:=True
def Q9 (s:ByteArray):AV:=.q (ir s.size 1 128)
def WB (s:ByteArray):List AV:=[]
def C8:Con where
 A:=[.s .str]
 B:=[]
 pre:=fun x b=>vd x
 α:=fun _ _=>Unit
 φ:=fun _ _ _=>True
 r:=fun x b _=>Q9 x
 o:=fun x b _=>WB x
 nf:=0
set_option maxRecDepth 100000 in
theorem abT:Has Tryz.prog 86 C8:=by
 refine Has.ofE (fun _=>true) (fun _=>false) (fun _=>false) (l:=[(24,dy)]) ⟨im,trivial⟩ (fn:=Tryz.f86) Tryz.func86 rfl (by decide) (cH rfl) ?_
 rintro (s:ByteArray) _ (hp:vd s)
 show vc _ _ _ _ (entry [.str s] []) _
 refine ⟨⟨⟨tv,tv,tv,tv⟩,tv⟩,fun x1 w2=>?_⟩
 refine ⟨[],[],_,_,_,rfl,rp,(),tv,?_,?_,rfl⟩
 ·rfl
 ·rfl
def aV (p:Pt):Bool:=ar p||(ir p.1 8 63&&ir p.2.1 1 900&&ir p.2.2.1 1 128&&ir p.2.2.2.1 0 99460728&&ir p.2.2.2.2 0 2)
def dS (p:Pt):Prop:=True
def aaZ (p:Pt):AV:=.q (aV p)
def adn (p:Pt):List AV:=[]
def cS:Con where
 A:=[.a [.int, .int, .int, .int, .int]]
 B:=[]
 pre:=fun x b=>dS x
 α:=fun _ _=>Unit
 φ:=fun _ _ _=>True
 r:=fun x b _=>aaZ x
 o:=fun x b _=>adn x
 nf:=0
set_option maxRecDepth 100000 in
theorem iq:Has Tryz.prog 25 cS:=by
 refine Has.ofE (fun _=>true) (fun _=>false) (fun _=>false) (l:=[(26,bc),(55,oP),(24,dy)]) ⟨cr,zJ,im,trivial⟩ (fn:=Tryz.f25) Tryz.func25 rfl (by decide) (cH rfl) ?_
 rintro ⟨(p1:Int),(p2:Int),(p3:Int),(p4:Int),(p5:Int)⟩ _ (hp:dS (p1,p2,p3,p4,p5))
 show vc _ _ _ _ (entry [.a [.int p1, .int p2, .int p3, .int p4, .int p5]] []) _
 refine ⟨⟨⟨⟨tv,tv,tv,tv,tv,tv⟩,tv⟩,tv⟩,fun x1 w2=>⟨fun w3=>?_,fun w4=>⟨⟨⟨tv,tv⟩,tv⟩,fun x5 w6=>⟨tv,fun w7=>⟨⟨⟨tv,tv,tv,tv⟩,tv⟩,fun x8 w9=>⟨tv,fun df=>⟨⟨⟨tv,tv,tv,tv⟩,tv⟩,fun kx dC=>⟨tv,fun iA=>⟨⟨⟨tv,tv,tv,tv⟩,tv⟩,fun x14 oU=>⟨tv,fun j9=>⟨⟨⟨tv,tv,tv,tv⟩,tv⟩,fun x17 qI=>?_⟩,fun ot=>?_⟩⟩,fun um=>?_⟩⟩,fun zg=>?_⟩⟩,fun zf=>?_⟩⟩⟩⟩
 all_goals
  refine ⟨[],[],_,_,_,rfl,rp,(),tv,?_,?_,rfl⟩
  ·show AV.q _=AV.q _
   congr 1
   simp_all [aV]
  ·rfl
def YY (p:Int×Int) (c:Int):Int×Int:=((p.1+c+1) % 9973,(p.2+(p.1+c+1) % 9973) % 9973)
def rS (s:ByteArray):Nat→Int×Int
 |0=>(1,0)
 |k+1=>YY (rS s k) (bG s k)
def sV (s:ByteArray):Int:=(rS s s.size).1 * 9973+(rS s s.size).2
theorem GB (s:ByteArray):∀k,0≤(rS s k).1∧(rS s k).1≤9972∧0≤(rS s k).2∧(rS s k).2≤9972
 |0=>by simp [rS]
 |k+1=>by
  have:=GB s k
  simp only [rS,YY]
  omega
def jH (s:ByteArray):Prop:=(s.size:Int)≤1000000000000
def aaY (s:ByteArray):AV:=.int (sV s)
def adm (s:ByteArray):List AV:=[]
def AD:Con where
 A:=[.s .str]
 B:=[]
 pre:=fun x b=>jH x
 α:=fun _ _=>Unit
 φ:=fun _ _ _=>True
 r:=fun x b _=>aaY x
 o:=fun x b _=>adm x
 nf:=0
set_option maxRecDepth 100000 in
theorem Z5:Has Tryz.prog 87 AD:=by
 refine Has.ofE (fun _=>true) (fun _=>false) (fun _=>false) (l:=[]) trivial (fn:=Tryz.f87) Tryz.func87 rfl (by decide) (cH rfl) ?_
 rintro (s:ByteArray) _ (hp:jH s)
 show vc _ _ _ _ (entry [.str s] []) _
 unfold jH at hp
 refine cI (l:=[]) (ex:=fun _=>true) (wr:=fun _=>false) (pt:=fun _=>false) tv [.s 0] (fun k:Nat=>[(.s 3, .int (rS s k).1),(.s 4, .int (rS s k).2),(.s 5, .int k)]) (fun k=>k≤s.size) (fun k=>s.size - k) 0 [] (Nat.zero_le _) ⟨⟨rfl,rfl,rfl,tv⟩,rfl,tv⟩ ?_
 intro k hk
 obtain ⟨b1,b2,b3,b4⟩:=GB s k
 have hb:=xg s k
 refine ⟨fun w1=>⟨⟨?_,?_⟩,⟨⟨?_,?_⟩,⟨⟨?_,?_⟩,⟨⟨?_,?_⟩,⟨⟨?_,?_⟩,⟨⟨?_,?_⟩,⟨⟨?_,?_⟩,⟨⟨?_,?_⟩,?_⟩⟩⟩⟩⟩⟩⟩⟩,fun w2=>⟨⟨?_,?_⟩,⟨⟨?_,?_⟩,?_⟩⟩⟩
 all_goals first|refine au ?_|refine aw ?_|exact sa|exact sb|skip
 ·refine ⟨(k+1),[],?_,?_,?_⟩
  rotate_right
  ·repeat' (first |exact trivial |rfl |exact rfl |exact fH List.length_append.symm |exact oK |apply And.intro)
  all_goals first|refine au ?_|refine aw ?_|exact sa|exact sb|skip
 ·have h2:¬(k:Int) < (s.size:Int):=ca w2
  have hk':k=s.size:=by omega
  subst hk'
  refine ⟨[],[],_,_,_,rfl,rp,(),tv,?_,?_,rfl⟩
  ·rfl
  ·rfl
def iP (p:Pt) (s:ByteArray):Bool:=aV p&&(!(ar p)&&(decide (p.2.2.1=s.size)&&decide (p.2.2.2.1=sV s)))
def nP (p:Pt) (s:ByteArray):Prop:=(s.size:Int)≤1000000000000
def RA (p:Pt) (s:ByteArray):AV:=.q (iP p s)
def WV (p:Pt) (s:ByteArray):List AV:=[]
def sJ:Con where
 A:=[.a [.int, .int, .int, .int, .int], .s .str]
 B:=[]
 pre:=fun x b=>nP (x.1) (x.2)
 α:=fun _ _=>Unit
 φ:=fun _ _ _=>True
 r:=fun x b _=>RA (x.1) (x.2)
 o:=fun x b _=>WV (x.1) (x.2)
 nf:=0
set_option maxRecDepth 100000 in
theorem MK:Has Tryz.prog 57 sJ:=by
 refine Has.ofE (fun _=>true) (fun _=>false) (fun _=>false) (l:=[(25,cS),(26,bc),(87,AD)]) ⟨iq,cr,Z5,trivial⟩ (fn:=Tryz.f57) Tryz.func57 rfl (by decide) (cH rfl) ?_
 rintro ⟨⟨(p1:Int),(p2:Int),(p3:Int),(p4:Int),(p5:Int)⟩,(s:ByteArray)⟩ _ (hp:nP (p1,p2,p3,p4,p5) s)
 show vc _ _ _ _ (entry [.a [.int p1, .int p2, .int p3, .int p4, .int p5], .str s] []) _
 unfold nP at hp
 refine ⟨[.s 2, .b 1002],[.s 5],rfl,[.s 5],[.s 6],rfl,⟨⟨⟨tv,tv,tv,tv,tv,tv⟩,tv⟩,tv⟩,?_,fun x1 w2=>⟨[.s 6],[.s 7],rfl,tv,fun w3=>⟨[.s 7, .s 2, .b 1002],[.s 8],rfl,[.s 7, .s 8],[.s 9],rfl,⟨⟨⟨tv,tv,tv,tv,tv,tv⟩,tv⟩,tv⟩,?_,fun x4 w5=>⟨[.s 7, .s 9],[.s 10],rfl,[.s 7, .s 10],[.s 11],rfl,[.s 11],[.s 12],rfl,tv,fun w6=>⟨[.s 12, .s 2],[.s 13],rfl,[.s 12, .s 13, .b 1002],[.s 14],rfl,[.s 12, .s 1],[.s 15],rfl,[.s 12, .s 15],[.s 16],rfl,[.s 12, .s 14, .s 16],[.s 17],rfl,[.s 12, .s 17],[.s 18],rfl,[.s 18],[.s 19],rfl,tv,fun w7=>⟨[.s 19, .s 2],[.s 20],rfl,[.s 19, .s 20, .b 1002],[.s 21],rfl,[.s 19, .s 1],[.s 22],rfl,[.s 19, .s 22],[.s 23],rfl,⟨⟨tv,tv⟩,?_⟩,?_,fun x8 w9=>⟨[.s 19, .s 21, .s 23],[.s 24],rfl,[.s 19, .s 24],[.s 25],rfl,[.s 25],[.s 4],rfl,?_⟩⟩,fun df=>⟨[.s 19],[.s 20],rfl,[.s 19],[.s 21],rfl,[.s 19],[.s 22],rfl,[.s 19],[.s 23],rfl,[.s 19],[.s 24],rfl,[.s 19, .s 24],[.s 25],rfl,[.s 25],[.s 4],rfl,?_⟩⟩,fun ka=>⟨[.s 12],[.s 13],rfl,[.s 12],[.s 14],rfl,[.s 12],[.s 15],rfl,[.s 12],[.s 16],rfl,[.s 12],[.s 17],rfl,[.s 12, .s 17],[.s 18],rfl,[.s 18],[.s 19],rfl,[.s 19],[.s 20],rfl,[.s 19],[.s 21],rfl,[.s 19],[.s 22],rfl,[.s 19],[.s 23],rfl,[.s 19],[.s 24],rfl,[.s 19, .s 24],[.s 25],rfl,[.s 25],[.s 4],rfl,?_⟩⟩⟩,fun dC=>⟨[.s 7],[.s 8],rfl,[.s 7],[.s 9],rfl,[.s 7],[.s 10],rfl,[.s 7, .s 10],[.s 11],rfl,[.s 11],[.s 12],rfl,[.s 12],[.s 13],rfl,[.s 12],[.s 14],rfl,[.s 12],[.s 15],rfl,[.s 12],[.s 16],rfl,[.s 12],[.s 17],rfl,[.s 12, .s 17],[.s 18],rfl,[.s 18],[.s 19],rfl,[.s 19],[.s 20],rfl,[.s 19],[.s 21],rfl,[.s 19],[.s 22],rfl,[.s 19],[.s 23],rfl,[.s 19],[.s 24],rfl,[.s 19, .s 24],[.s 25],rfl,[.s 25],[.s 4],rfl,?_⟩⟩⟩
 all_goals first|refine au ?_|refine aw ?_|exact sa|(dsimp only [cS,dS];omega)|(dsimp only [bc,bW];omega)|(dsimp only [AD,jH];omega)|exact sb|(show jH _;unfold jH;omega)|skip
 all_goals
  refine ⟨[],[],_,_,_,rfl,rp,(),tv,?_,?_,rfl⟩
  ·show AV.q _=AV.q _
   congr 1
   simp_all [iP]
  ·rfl
def bL:Pt:=(0,0,0,0,0)
def gi (at_ EF level:Int) (s:ByteArray):Pt×Bool:=
 bif ir s.size 1 128&&aV (at_,EF,s.size,sV s,level) then ((at_,EF,s.size,sV s,level),true) else (bL,false)
def ptA (p:Pt):A0:=.a (EK.AU ab p)
theorem BQ {a b l:Int} {s:ByteArray} (h1:ir s.size 1 128=true) (h2:aV (a,b,s.size,sV s,l)=true):gi a b l s=((a,b,(s.size:Int),sV s,l),true):=by unfold gi;rw [h1,h2];rfl
theorem BS {a b l:Int} {s:ByteArray} (h1:ir s.size 1 128=false):gi a b l s=(bL,false):=by unfold gi;rw [h1];rfl
theorem BR {a b l:Int} {s:ByteArray} (h2:aV (a,b,s.size,sV s,l)=false):gi a b l s=(bL,false):=by unfold gi;rw [h2,Bool.and_false];rfl
theorem xk {b:Bool} (h:(!b)=true):b=false:=by simpa using h
theorem cB {b:Bool} (h:(!b)=false):b=true:=by simpa using h
def mL (a:Int) (b:Int) (l:Int) (s:ByteArray):Prop:=(s.size:Int)≤1000000000000
def aa0 (a:Int) (b:Int) (l:Int) (s:ByteArray):AV:=.t [ptA (gi a b l s).1, .s (.q (gi a b l s).2)]
def ado (a:Int) (b:Int) (l:Int) (s:ByteArray):List AV:=[]
def oR:Con where
 A:=[.s .int, .s .int, .s .int, .s .str]
 B:=[]
 pre:=fun x b=>mL (x.1) (x.2.1) (x.2.2.1) (x.2.2.2)
 α:=fun _ _=>Unit
 φ:=fun _ _ _=>True
 r:=fun x b _=>aa0 (x.1) (x.2.1) (x.2.2.1) (x.2.2.2)
 o:=fun x b _=>ado (x.1) (x.2.1) (x.2.2.1) (x.2.2.2)
 nf:=0
set_option maxRecDepth 100000 in
theorem FG:Has Tryz.prog 53 oR:=by
 refine Has.ofE (fun _=>true) (fun _=>false) (fun _=>false) (l:=[(86,C8),(25,cS),(87,AD)]) ⟨abT,iq,Z5,trivial⟩ (fn:=Tryz.f53) Tryz.func53 rfl (by decide) (cH rfl) ?_
 rintro ⟨(a:Int),(b:Int),(l:Int),(s:ByteArray)⟩ _ (hp:mL a b l s)
 show vc _ _ _ _ (entry [.int a, .int b, .int l, .str s] []) _
 unfold mL at hp
 refine ⟨⟨⟨tv,tv⟩,tv⟩,fun x1 w2=>⟨fun w3=>?_,fun w4=>⟨⟨⟨tv,tv⟩,?_⟩,fun x5 w6=>⟨⟨⟨⟨tv,tv,tv,tv,tv,tv⟩,tv⟩,tv⟩,fun x7 w8=>⟨fun w9=>?_,fun df=>?_⟩⟩⟩⟩⟩
 all_goals first|refine au ?_|refine aw ?_|exact sa|(dsimp only [C8,vd];omega)|(dsimp only [cS,dS];omega)|(dsimp only [AD,jH];omega)|exact sb|(show jH _;unfold jH;omega)|skip
 ·refine ⟨[],[],_,_,_,rfl,rp,(),tv,?_,?_,rfl⟩
  ·show _=AV.t [ptA (gi a b l s).1, .s (.q (gi a b l s).2)]
   rw [BS (xk w3)];rfl
  ·rfl
 ·refine ⟨[],[],_,_,_,rfl,rp,(),tv,?_,?_,rfl⟩
  ·show _=AV.t [ptA (gi a b l s).1, .s (.q (gi a b l s).2)]
   rw [BR (xk w9)];rfl
  ·rfl
 ·refine ⟨[],[],_,_,_,rfl,rp,(),tv,?_,?_,rfl⟩
  ·show _=AV.t [ptA (gi a b l s).1, .s (.q (gi a b l s).2)]
   rw [BQ (cB w4) (cB df)];rfl
  ·rfl
end GL
namespace GL
theorem sz0:(⟨#[]⟩:ByteArray).size=0:=rfl
theorem sz1 (a:UInt8):(⟨#[a]⟩:ByteArray).size=1:=rfl
def dec (k:Nat):ByteArray:=if k < 10 then ft [48+(k:Int)] else dec (k / 10)++ft [48+((k % 10:Nat):Int)]
termination_by k
decreasing_by omega
def bQ (n:Int):ByteArray:=dec n.toNat
theorem dec_lt {k:Nat} (h:k < 10):dec k=ft [48+(k:Int)]:=by rw [dec,if_pos h]
theorem YA {k:Nat} (h:¬k < 10):dec k=dec (k / 10)++ft [48+((k % 10:Nat):Int)]:=by rw [dec,if_neg h]
theorem sU (n:Int):(ft [n]).size=1:=by rw [ft,nC];rfl
theorem JL:∀(m k:Nat),k < 10 ^ (m+1)→(dec k).size≤m+1
 |0,k,h=>by rw [dec_lt (by omega),sU];omega
 |m+1,k,h=>by
  by_cases hk:k < 10
  ·rw [dec_lt hk,sU];omega
  ·rw [YA hk,ByteArray.size_append,sU]
   have:=JL m (k / 10) (by rw [Nat.pow_succ] at h;omega)
   omega
theorem cZ {n:Int} (h:n≤999999999999):(bQ n).size≤12:=JL 11 n.toNat (by show _ < 1000000000000;omega)
theorem ags {n:Int} (h0:0≤n) (h:n < 10):bQ n=ft [48+n]:=by
 unfold bQ
 rw [dec_lt (by omega),show ((n.toNat:Nat):Int)=n by omega]
theorem agt {n:Int} (h0:0≤n) (h:¬n < 10):bQ n=bQ (n / 10)++ft [48+n % 10]:=by
 unfold bQ
 rw [YA (by omega),show ((n.toNat % 10:Nat):Int)=n % 10 by omega,show n.toNat / 10=(n / 10).toNat by omega]
def mJ (n:Int):Prop:=0≤n∧n≤999999999999
def aaV (n:Int):AV:=.str (bQ n)
def adf (n:Int):List AV:=[]
def jW:Con where
 A:=[.s .int]
 B:=[]
 pre:=fun x b=>mJ x
 α:=fun _ _=>Unit
 φ:=fun _ _ _=>True
 r:=fun x b _=>aaV x
 o:=fun x b _=>adf x
 nf:=0
def adI (n:Int):Nat:=n.toNat
set_option maxRecDepth 100000 in
theorem wS:Has Tryz.prog 117 jW:=by
 refine Has.recE (C:=jW) (fun _=>true) (fun _=>false) (fun _=>false) (fun x b=>adI x) (l:=[]) trivial (fn:=Tryz.f117) Tryz.func117 rfl (by decide) (cH rfl) ?_
 rintro (n:Int) _ (hp:mJ n) al0
 show vc _ _ _ _ (entry [.int n] []) _
 obtain ⟨h1,h2⟩:=hp
 have hs:=cZ (n:=n / 10) (by omega)
 refine ⟨fun w1=>?_,fun w2=>⟨fun w3=>⟨⟨?_,?_⟩,⟨⟨tv,tv⟩,⟨?_,?_⟩,?_⟩,fun x4 w5=>⟨?_,?_⟩⟩,fun w6=>⟨fun w7=>⟨⟨?_,?_⟩,⟨?_,?_⟩,tv,⟨?_,?_⟩,?_⟩,fun w8=>⟨[.s 0],[.s 18],rfl,[.s 18],[.s 19],rfl,⟨?_,?_,?_⟩,[.s 19],[.s 20],rfl,⟨⟨tv,tv⟩,⟨?_,?_⟩,?_⟩,?_,fun x9 df=>⟨[.s 0],[.s 21],rfl,[.s 21],[.s 22],rfl,⟨?_,?_⟩,[.s 22],[.s 23],rfl,⟨?_,?_⟩,[.s 23],[.s 24],rfl,⟨?_,?_⟩,[.s 24, .b 1025],[.s 25, .b 1025],rfl,tv,[.s 25, .b 1025],[.s 26],rfl,⟨?_,?_⟩,[.s 20, .s 26],[.s 27],rfl,?_,[.s 27],[.s 2],rfl,?_⟩⟩⟩⟩⟩
 all_goals first|(exfalso;simp only [decide_eq_true_eq,decide_eq_false_iff_not] at *;omega)|refine au ?_|refine aw ?_|exact sa|exact sb|(simp only [da,sU,imax];omega)|(show (n / 10).toNat < n.toNat;have:=ca w8;omega)|skip
 ·refine ⟨[],[],_,_,_,rfl,rp,(),tv,?_,?_,rfl⟩
  ·show _=AV.str (bQ n)
   rw [ags h1 (cw w7)];rfl
  ·rfl
 ·refine ⟨[],[],_,_,_,rfl,rp,(),tv,?_,?_,rfl⟩
  ·show _=AV.str (bQ n)
   rw [agt h1 (ca w8)];rfl
  ·rfl
def aY (p:Pt):ByteArray:=
 bif aV p then (bif ar p then ⟨#[45]⟩ else
  bQ p.1++⟨#[46]⟩++bQ p.2.1++⟨#[46]⟩++bQ p.2.2.1++⟨#[46]⟩++bQ p.2.2.2.1++⟨#[46]⟩++bQ p.2.2.2.2) else ⟨#[]⟩
theorem pJ {p:Pt} (h:aV p=true):(0≤p.1∧p.1≤63)∧(0≤p.2.1∧p.2.1≤900)∧(0≤p.2.2.1∧p.2.2.1≤128)∧(0≤p.2.2.2.1∧p.2.2.2.1≤99460728)∧0≤p.2.2.2.2∧p.2.2.2.2≤2:=by
 unfold aV ar at h
 simp only [Bool.or_eq_true,Bool.and_eq_true,decide_eq_true_eq,cn] at h
 omega
theorem gh (p:Pt):(aY p).size≤64:=by
 unfold aY
 cases h:aV p with
 |false=>exact Nat.zero_le _
 |true=>
  obtain ⟨h1,h2,h3,h4,h5⟩:=pJ h
  cases ar p with
  |true=>show (1:Nat)≤64;omega
  |false=>
   simp only [cond_true,cond_false,ByteArray.size_append,sz1]
   have a1:=cZ (n:=p.1) (by omega)
   have a2:=cZ (n:=p.2.1) (by omega)
   have a3:=cZ (n:=p.2.2.1) (by omega)
   have a4:=cZ (n:=p.2.2.2.1) (by omega)
   have a5:=cZ (n:=p.2.2.2.2) (by omega)
   omega
def pW (p:Pt):Prop:=True
def VT (p:Pt):AV:=.str (aY p)
def aby (p:Pt):List AV:=[]
def qq:Con where
 A:=[.a [.int, .int, .int, .int, .int]]
 B:=[]
 pre:=fun x b=>pW x
 α:=fun _ _=>Unit
 φ:=fun _ _ _=>True
 r:=fun x b _=>VT x
 o:=fun x b _=>aby x
 nf:=0
set_option maxRecDepth 100000 in
theorem IL:Has Tryz.prog 118 qq:=by
 refine Has.ofE (fun _=>true) (fun _=>false) (fun _=>false) (l:=[(25,cS),(26,bc),(117,jW)]) ⟨iq,cr,wS,trivial⟩ (fn:=Tryz.f118) Tryz.func118 rfl (by decide) (cH rfl) ?_
 rintro ⟨(p1:Int),(p2:Int),(p3:Int),(p4:Int),(p5:Int)⟩ _ (hp:pW (p1,p2,p3,p4,p5))
 show vc _ _ _ _ (entry [.a [.int p1, .int p2, .int p3, .int p4, .int p5]] []) _
 by_cases cq:aV (p1,p2,p3,p4,p5)=true
 ·obtain ⟨⟨b1,b2⟩,⟨b3,b4⟩,⟨b5,b6⟩,⟨b7,b8⟩,b9,b10⟩:=pJ cq
  dsimp only at b1 b2 b3 b4 b5 b6 b7 b8 b9 b10
  have a1:=cZ (n:=p1) (by omega)
  have a2:=cZ (n:=p2) (by omega)
  have a3:=cZ (n:=p3) (by omega)
  have a4:=cZ (n:=p4) (by omega)
  have a5:=cZ (n:=p5) (by omega)
  refine ⟨⟨⟨⟨tv,tv,tv,tv,tv,tv⟩,tv⟩,tv⟩,fun x1 w2=>⟨fun w3=>?_,fun w4=>⟨⟨⟨⟨tv,tv,tv,tv,tv,tv⟩,tv⟩,tv⟩,fun x5 w6=>⟨fun w7=>?_,fun w8=>⟨[.s 1],[.s 8],rfl,[.s 8, .b 1001],[.s 9],rfl,[.s 9],[.s 10],rfl,⟨⟨tv,tv⟩,?_,?_⟩,?_,fun x9 df=>⟨[.s 10],[.s 11],rfl,?_,[.s 1],[.s 12],rfl,[.s 12, .b 1001],[.s 13],rfl,[.s 13],[.s 14],rfl,⟨⟨tv,tv⟩,?_,?_⟩,?_,fun kx dC=>⟨[.s 11, .s 14],[.s 15],rfl,?_,[.s 15],[.s 16],rfl,?_,[.s 1],[.s 17],rfl,[.s 17, .b 1001],[.s 18],rfl,[.s 18],[.s 19],rfl,⟨⟨tv,tv⟩,?_,?_⟩,?_,fun rP gx=>⟨[.s 16, .s 19],[.s 20],rfl,?_,[.s 20],[.s 21],rfl,?_,[.s 1],[.s 22],rfl,[.s 22, .b 1001],[.s 23],rfl,[.s 23],[.s 24],rfl,⟨⟨tv,tv⟩,?_,?_⟩,?_,fun ku j9=>⟨[.s 21, .s 24],[.s 25],rfl,?_,[.s 25],[.s 26],rfl,?_,[.s 1],[.s 27],rfl,[.s 27, .b 1001],[.s 28],rfl,[.s 28],[.s 29],rfl,⟨⟨tv,tv⟩,?_,?_⟩,?_,fun x17 qI=>⟨[.s 26, .s 29],[.s 30],rfl,?_,[.s 30],[.s 2],rfl,?_⟩⟩⟩⟩⟩⟩⟩⟩⟩⟩
  all_goals first|refine au ?_|refine aw ?_|exact sa|(dsimp only [cS,dS];omega)|(dsimp only [bc,bW];omega)|(dsimp only [jW,mJ];omega)|exact sb|(simp only [ByteArray.size_append,sz1,imax];omega)|skip
  ·rw [cq] at w3;cases w3
  ·refine ⟨[],[],_,_,_,rfl,rp,(),tv,?_,?_,rfl⟩
   ·show _=AV.str (aY (p1,p2,p3,p4,p5))
    unfold aY;rw [cq,w7];rfl
   ·rfl
  ·refine ⟨[],[],_,_,_,rfl,rp,(),tv,?_,?_,rfl⟩
   ·show _=AV.str (aY (p1,p2,p3,p4,p5))
    unfold aY;rw [cq,w8];rfl
   ·rfl
 ·have uy:aV (p1,p2,p3,p4,p5)=false:=by simpa using cq
  refine ⟨⟨⟨tv,tv,tv,tv,tv,tv⟩,tv⟩,tv⟩ |> fun h=>⟨h,fun x1 w2=>⟨fun w3=>?_,fun w4=>?_⟩⟩
  ·refine ⟨[],[],_,_,_,rfl,rp,(),tv,?_,?_,rfl⟩
   ·show _=AV.str (aY (p1,p2,p3,p4,p5))
    unfold aY;rw [uy];rfl
   ·rfl
  ·rw [uy] at w4;cases w4
end GL
end Go.Proofs.YtbfgjadbfjkcdaaGreatDoor
