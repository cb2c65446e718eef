/- FnTreeOk returns true for every code (its row lists package variables, tied by the card): part 16. -/
import Derived.Test.YtbfgjadbfjkcdaaGreatDoorPao
set_option maxHeartbeats 20000000
set_option linter.all false
namespace Go.Proofs.YtbfgjadbfjkcdaaGreatDoor
namespace GL
def fy (s:ay) (lv:Int):List Pt→List Pt→Option (List Pt)
 |[],acc=>some acc
 |p::l,acc=>bif (bh s p lv).2 then fy s lv l (acc++(bh s p lv).1) else none
def tJ (s:ay):Nat→Int→List Pt→List Pt×Bool
 |0,_,l=>(l,true)
 |f+1,lv,l=>bif decide (lv>0) then (match fy s lv l [] with
  |none=>([],false)
  |some n=>tJ s f (lv-1) n) else (l,true)
abbrev bf.root (t:bf):Pt:=(t.1,t.2.1,t.2.2.1,t.2.2.2.1,t.2.2.2.2.1)
abbrev bf.depth (t:bf):Int:=t.2.2.2.2.2.1
abbrev bf.many (t:bf):Int:=t.2.2.2.2.2.2
def bC (s:ay) (t:bf):List Pt×Bool:=tJ s 3 t.depth [t.root]
theorem IF {s:ay}{f:Nat}{lv:Int}{l:List Pt}(h:decide (lv>0)=true) (h2:fy s lv l []=none):tJ s (f+1) lv l=([],false):=by rw [tJ,h,h2];rfl
theorem CN {s:ay}{f:Nat}{lv:Int}{l n:List Pt}(h:decide (lv>0)=true) (h2:fy s lv l []=some n):tJ s (f+1) lv l=tJ s f (lv-1) n:=by rw [tJ,h,h2];rfl
theorem vD {s:ay}{f:Nat}{lv:Int}{l:List Pt}(h:decide (lv>0)=false):tJ s (f+1) lv l=(l,true):=by rw [tJ,h];rfl
theorem OA {s:ay}{lv:Int}{p:Pt}{l acc:List Pt}(h:(!(bh s p lv).2)=true):fy s lv (p::l) acc=none:=by rw [fy,xv h];rfl
theorem N9 {s:ay}{lv:Int}{p:Pt}{l acc:List Pt}(h:(!(bh s p lv).2)=false):fy s lv (p::l) acc=fy s lv l (acc++(bh s p lv).1):=by rw [fy,cI h];rfl
theorem iI (s:ay) (p:Pt) (lv:Int):(bh s p lv).1.length≤4∧((bh s p lv).2=true→(bh s p lv).1.length=4):=by
 have h0:([]:List Pt).length≤4∧(false=true→([]:List Pt).length=4):=⟨ZA8 _,fun h=>by cases h⟩
 unfold bh
 cases au p with
 |true=>exact⟨ZB6 _,fun _=>rfl⟩
 |false=>
  cases !(a6 p)||(decide (p.2.2.2.2≠lv)||decide (p.2.1>s.ck)) with
  |true=>exact h0
  |false=>
   cases !(bH s p).2 with
   |true=>exact h0
   |false=>
    show (oO p (bn (bH s p).1)).1.length≤4∧((oO p (bn (bH s p).1)).2=true→(oO p (bn (bH s p).1)).1.length=4)
    unfold oO
    cases (bn (bH s p).1).1.any (late p) with
    |true=>exact h0
    |false=>exact vS _
theorem r8 {s:ay}{lv:Int}:∀{l acc n:List Pt},fy s lv l acc=some n→n.length=acc.length+4*l.length
 |[],acc,n,h=>by cases h;rfl
 |p::l,acc,n,h=>by
  unfold fy at h
  cases hb:(bh s p lv).2 with
  |true=>
   rw [hb,cond_true] at h
   rw [r8 h,ZA0,(iI s p lv).2 hb,ZA1];omega
  |false=>rw [hb] at h;cases h
def aii (lv:Int) (n:Nat):Prop:=n≤16∧(1≤lv→n≤4)∧(2≤lv→n≤1)
def lT (S:ay) (t:bf):Prop:=S.rd∧t.depth≤2
def lK (S:ay) (t:bf):AV:=.t [.s (.xs 0 5 0 (bC S t).1.length),.s (.q (bC S t).2)]
def nY (S:ay) (t:bf):List AV:=[.rs ae (bC S t).1]
def kW:Con where
 A:=[.a xE,.a [.int,.int,.int,.int,.int,.int,.int]]
 B:=[]
 pre:=fun x b=>lT (x.1) (x.2)
 α:=fun _ _=>Unit
 φ:=fun _ _ _=>True
 r:=fun x b _=>lK (x.1) (x.2)
 o:=fun x b _=>nY (x.1) (x.2)
 nf:=1
set_option maxRecDepth 100000 in
theorem yO:Has Tryz.prog 28 kW:=by
 refine Has.ofE (fun _=>true) (fun _=>false) (fun _=>false) (l:=[(56,eg)]) ⟨lA,trivial⟩ (fn:=Tryz.f28) Tryz.func28 rfl (by decide) (aZ rfl) ?_
 rintro⟨⟨(aj:List ByteArray),(ak:List Int),(an:List Int),(ao:Int),(ah:List Pt),(aq:Int),(ai:List Pt),(ar:Bool)⟩,⟨(t1:Int),(t2:Int),(t3:Int),(t4:Int),(t5:Int),(t6:Int),(t7:Int)⟩⟩ _ (hp:lT (aj,ak,an,ao,ah,aq,ai,ar) (t1,t2,t3,t4,t5,t6,t7))
 show vc _ _ _ _ (entry [.a [.vz ab aj,.vz ag ak,.vz ag an,.int ao,.vz ae ah,.int aq,.vz ae ai,.q ar],.a [.int t1,.int t2,.int t3,.int t4,.int t5,.int t6,.int t7]] []) _
 obtain⟨dG,(alB:t6≤2)⟩:=hp
 have dG:ay.rd (aj,ak,an,ao,ah,aq,ai,ar):=dG
 refine⟨aa,?_⟩
 all_goals first|refine aw ?_|refine ax ?_|exact ba|(dsimp only [eg,fG];omega)|exact a8|skip
 refine cO (l:=[(56,eg)]) (ex:=fun _=>true) (wr:=fun _=>false) (pt:=fun _=>false) ⟨lA,trivial⟩ [.s 2,.b 1002] (fun y:Int×List Pt×Nat=>[(.s 6,.s (.xs 1014 5 0 y.2.1.length)),(.s 7,.int y.1),(.b 1014,.rs ae y.2.1)]) (fun y=>y.1≤2∧aii y.1 y.2.1.length∧y.1<y.2.2∧tJ (aj,ak,an,ao,ah,aq,ai,ar) y.2.2 y.1 y.2.1=bC (aj,ak,an,ao,ah,aq,ai,ar) (t1,t2,t3,t4,t5,t6,t7)) (fun y=>y.1.toNat) (t6,[(t1,t2,t3,t4,t5)],3) [] ⟨alB,⟨by show 1≤16;omega,fun _=>by show 1≤4;omega,fun _=>ZB6 _⟩,by show t6<(3:Nat);omega,rfl⟩ dN ?_
 rintro⟨lv,l,f⟩ ⟨(FW:lv≤2),(T6:aii lv l.length),(hf:lv<(f:Int)),(hr:tJ (aj,ak,an,ao,ah,aq,ai,ar) f lv l=bC (aj,ak,an,ao,ah,aq,ai,ar) (t1,t2,t3,t4,t5,t6,t7))⟩
 refine⟨fun w1=>⟨aa,?_⟩,fun w2=>?_⟩
 all_goals first|refine aw ?_|refine ax ?_|exact ba|(dsimp only [eg,fG];omega)|exact a8|skip
 ·have nc:decide (lv>0)=true:=w1
  have h1:lv>0:=aE w1
  obtain⟨g,rfl⟩:∃g,f=g+1:=⟨f-1,by omega⟩
  refine cO (l:=[(56,eg)]) (ex:=fun _=>true) (wr:=fun _=>false) (pt:=fun _=>false) ⟨lA,aa⟩ [.s 2,.b 1002,.s 6,.s 7,.b 1014] (fun y:Nat×List Pt=>[(.s 8,.s (.xs 1021 5 0 y.2.length)),(.s 9,.int y.1),(.b 1021,.rs ae y.2)]) (fun y=>y.1≤l.length∧y.2.length=4*y.1∧fy (aj,ak,an,ao,ah,aq,ai,ar) lv (l.drop y.1) y.2=fy (aj,ak,an,ao,ah,aq,ai,ar) lv l []) (fun y=>l.length-y.1) (0,[]) [] ⟨ZA8 _,rfl,rfl⟩ dN ?_
  rintro⟨i,acc⟩ ⟨(hi:i≤l.length),(ach:acc.length=4*i),(hs:fy (aj,ak,an,ao,ah,aq,ai,ar) lv (l.drop i) acc=fy (aj,ak,an,ao,ah,aq,ai,ar) lv l [])⟩
  have cr:decide ((i:Int)<(l.length:Int))=true→i<l.length:=fun h=>by have:=aE h;omega
  have alS:=T6.2.1 (by omega)
  have hlen:=(iI (aj,ak,an,ao,ah,aq,ai,ar) (nth ae l i) lv).1
  have cP:i<l.length→l.drop i=nth ae l i::l.drop (i+1):=fun h=>bZ (ek:=ae) h
  refine⟨fun w1=>⟨[.s 2,.b 1002],[.s 29],rfl,[.s 6],[.s 30],rfl,[.s 9],[.s 31],rfl,[.s 30,.s 31],[.s 32],rfl,⟨?_,?_⟩,[.s 32,.b 1014],[.s 33],rfl,?_,[.s 7],[.s 34],rfl,[.s 29,.s 33,.s 34,.b 360000],[.s 35,.b 360000],rfl,⟨⟨⟨aa,aa,aa,aa,aa,aa,aa,aa,aa⟩,⟨aa,aa,aa,aa,aa,aa⟩,aa,aa⟩,?_⟩,?_,fun x2 w3=>⟨[.s 35],[.s 28],rfl,[.s 28],[.s 36],rfl,[.s 28],[.s 37],rfl,[.s 36],[.s 10],rfl,[.s 37],[.s 11],rfl,fun w4=>⟨aa,?_⟩,fun w5=>⟨⟨⟨?_,?_⟩,?_,?_⟩,⟨?_,?_⟩,?_⟩⟩⟩,fun w6=>⟨⟨?_,?_⟩,?_⟩⟩
  all_goals first|refine aw ?_|refine ax ?_|exact ba|(dsimp only [eg,fG];omega)|exact a8|exact dG|(show acc.length+(bh (aj,ak,an,ao,ah,aq,ai,ar) (nth ae l i) lv).1.length≤1048576;omega)|skip
  ·have e:fy (aj,ak,an,ao,ah,aq,ai,ar) lv l []=none:=by rw [←hs,cP (cr w1),OA (s:=(aj,ak,an,ao,ah,aq,ai,ar)) (lv:=lv) (p:=nth ae l i) w4]
   refine⟨[1040],[],_,_,_,rfl,az,(),aa,?_,?_,rfl⟩
   ·(show _=lK (aj,ak,an,ao,ah,aq,ai,ar) (t1,t2,t3,t4,t5,t6,t7));unfold lK;first|(rw [←hr,IF nc e];rfl)|rfl
   ·(show _=nY (aj,ak,an,ao,ah,aq,ai,ar) (t1,t2,t3,t4,t5,t6,t7));unfold nY;first|(rw [←hr,IF nc e];rfl)|rfl
  ·refine⟨(i+1,acc++(bh (aj,ak,an,ao,ah,aq,ai,ar) (nth ae l i) lv).1),[(1021,1043)],?_,?_,?_⟩
   rotate_right
   ·exact bX
   ·exact⟨cr w1,by show List.length (_++_)=_;rw [ZA0];show acc.length+_=4*(i+1);rw [(iI (aj,ak,an,ao,ah,aq,ai,ar) (nth ae l i) lv).2 (cI w5)];omega,by rw [←hs,cP (cr w1),N9 (s:=(aj,ak,an,ao,ah,aq,ai,ar)) (lv:=lv) (p:=nth ae l i) w5]⟩
   ·show l.length-(i+1)<l.length-i;have:=cr w1;omega
  ·have FX:¬i<l.length:=by have:=aA (p:=(i:Int)<(l.length:Int)) w6;omega
   have e:fy (aj,ak,an,ao,ah,aq,ai,ar) lv l []=some acc:=by rw [←hs,ZB4 (by omega)];rfl
   have hl2:=r8 e
   refine⟨(lv-1,acc,g),[(1014,1021)],?_,?_,?_⟩
   rotate_right
   ·exact bX
   ·refine⟨by show lv-1≤2;omega,⟨?_,fun h=>?_,fun h=>?_⟩,by show lv-1<(g:Int);omega,by rw [←hr,CN nc e]⟩
    ·show acc.length≤16;rw [hl2];show 0+4*l.length≤16;omega
    ·have h:1≤lv-1:=h
     have:=T6.2.2 (by omega)
     show acc.length≤4;rw [hl2];show 0+4*l.length≤4;omega
    ·have h:2≤lv-1:=h
     omega
   ·show (lv-1).toNat<lv.toNat;omega
 ·have e:bC (aj,ak,an,ao,ah,aq,ai,ar) (t1,t2,t3,t4,t5,t6,t7)=(l,true):=by
   rw [←hr]
   cases f with
   |zero=>rfl
   |succ g=>exact vD w2
  refine⟨[1014],[],_,_,_,rfl,az,(),aa,?_,?_,rfl⟩
  ·(show _=lK (aj,ak,an,ao,ah,aq,ai,ar) (t1,t2,t3,t4,t5,t6,t7));unfold lK;first|(rw [e];rfl)|rfl
  ·(show _=nY (aj,ak,an,ao,ah,aq,ai,ar) (t1,t2,t3,t4,t5,t6,t7));unfold nY;first|(rw [e];rfl)|rfl
end GL
namespace GL
theorem HH (s:ByteArray):a6 (bR s).1=true:=by
 have h0:a6 bO=true:=by decide
 unfold bR
 cases decide (s=⟨#[45]⟩) with
 |true=>exact h0
 |false=>
  cases decide (((bo s 46).length:Int)≠5) with
  |true=>exact h0
  |false=>
   show a6 (q8 (bo s 46)).1=true
   unfold q8
   cases lx (bo s 46) [] with
   |none=>exact h0
   |some n=>
    show a6 (pY n).1=true
    unfold pY
    cases hc: !(a6 (lO n))||au (lO n) with
    |true=>exact h0
    |false=>
     simp only [ZD7] at hc
     exact cI hc.1
theorem aaw:∀{l:List ByteArray}{out o:List Pt}{sm m:Bool},ov l out sm=some (o,m)→(∀p∈out,a6 p=true)→∀p∈o,a6 p=true
 |[],out,o,sm,m,h,ho=>by cases h;exact ho
 |t::l,out,o,sm,m,h,ho=>by
  unfold ov at h
  cases hb:(bR t).2 with
  |true=>
   rw [hb,cond_true] at h
   refine aaw h fun p hp=>?_
   rcases ZB5.1 hp with hp |hp
   ·exact ho p hp
   ·simp only [ZB9,ZF3,or_false] at hp
    subst hp;exact HH t
  |false=>rw [hb] at h;cases h
theorem X7 (s:ByteArray):∀p∈(bn s).1,a6 p=true:=by
 unfold bn
 cases hf:ov (bo s 44) [] false with
 |none=>intro p hp;cases hp
 |some r=>
  obtain⟨o,sm⟩:=r
  have:=aaw hf (fun p hp=>by cases hp)
  show∀p∈(mh o sm).1,_
  unfold mh
  cases decide ((o.length:Int)≠4)|| !sm with
  |true=>intro p hp;cases hp
  |false=>exact this
theorem xc (n:Nat):∀p∈cw n,a6 p=true:=by
 intro p hp
 rw [(ZD6.1 hp).2];decide
theorem sU (s:ay) (p:Pt) (lv:Int):∀q∈(bh s p lv).1,a6 q=true:=by
 have h0:∀q∈([]:List Pt),a6 q=true:=fun q h=>by cases h
 unfold bh
 cases au p with
 |true=>exact xc 4
 |false=>
  cases !(a6 p)||(decide (p.2.2.2.2≠lv)||decide (p.2.1>s.ck)) with
  |true=>exact h0
  |false=>
   cases !(bH s p).2 with
   |true=>exact h0
   |false=>
    show∀q∈(oO p (bn (bH s p).1)).1,a6 q=true
    unfold oO
    cases (bn (bH s p).1).1.any (late p) with
    |true=>exact h0
    |false=>exact X7 _
theorem Q0 {s:ay}{lv:Int}:∀{l acc n:List Pt},fy s lv l acc=some n→(∀q∈acc,a6 q=true)→∀q∈n,a6 q=true
 |[],acc,n,h,ha=>by cases h;exact ha
 |p::l,acc,n,h,ha=>by
  unfold fy at h
  cases hb:(bh s p lv).2 with
  |true=>
   rw [hb,cond_true] at h
   refine Q0 h fun q hq=>?_
   rcases ZB5.1 hq with hq |hq
   ·exact ha q hq
   ·exact sU s p lv q hq
  |false=>rw [hb] at h;cases h
theorem Z0 {s:ay}:∀{f:Nat}{lv:Int}{l:List Pt},(∀q∈l,a6 q=true)→∀q∈(tJ s f lv l).1,a6 q=true
 |0,lv,l,h=>h
 |f+1,lv,l,h=>by
  unfold tJ
  cases decide (lv>0) with
  |false=>exact h
  |true=>
   simp only [cond_true]
   cases hs:fy s lv l [] with
   |none=>intro q hq;cases hq
   |some n=>exact Z0 (Q0 hs (fun q hq=>by cases hq))
theorem TH {s:ay}:∀{f:Nat}{lv:Int}{l:List Pt},lv≤2→aii lv l.length→(tJ s f lv l).1.length≤16
 |0,lv,l,h,hf=>hf.1
 |f+1,lv,l,h,hf=>by
  unfold tJ
  cases hc:decide (lv>0) with
  |false=>exact hf.1
  |true=>
   have h1:lv>0:=aE hc
   simp only [cond_true]
   cases hs:fy s lv l [] with
   |none=>exact ZA8 _
   |some n=>
    have hl:n.length=0+4*l.length:=r8 hs
    have h4:=hf.2.1 (by omega)
    refine TH (by omega) ⟨by omega,fun h2=>?_,fun h2=>by omega⟩
    have:=hf.2.2 (by omega)
    omega
structure bf.rd (t:bf):Prop where
 dep:t.depth≤2
 ok:a6 t.root=true
theorem rq {s:ay}{t:bf}(h:t.rd):(bC s t).1.length≤16:=
 TH h.dep ⟨by show 1≤16;omega,fun _=>by show 1≤4;omega,fun _=>ZB6 _⟩
theorem IJ {s:ay}{t:bf}(h:t.rd):∀q∈(bC s t).1,a6 q=true:=
 Z0 fun q hq=>by
  simp only [ZB9,ZF3,or_false] at hq
  subst hq;exact h.ok
def aB (s:ay) (t:bf):List Pt:=(bC s t).1++cw ((16:Int)-(bC s t).1.length).toNat
theorem gj {s:ay}{t:bf}(h:t.rd):(aB s t).length=16:=by
 have:=rq (s:=s) h
 rw [aB,ZA0,cw,ZG1];omega
theorem lH {s:ay}{t:bf}(h:t.rd):∀q∈aB s t,a6 q=true:=by
 intro q hq
 rcases ZB5.1 hq with hq |hq
 ·exact IJ h q hq
 ·exact xc _ q hq
theorem oJ {l:List Pt}(h:∀q∈l,a6 q=true) (k:Nat):a6 (nth ae l k)=true:=by
 by_cases hk:k<l.length
 ·exact h _ (bT (ek:=ae) hk)
 ·unfold nth;rw [ZD9 (by omega)];decide
theorem n0 {p:Pt}(h:a6 p=true):0≤p.1∧p.1<64:=by
 have:=pX h;omega
def fU (S:ay) (t:bf):Prop:=S.rd∧t.rd
def yb (S:ay) (t:bf):AV:=.s (.xs 0 5 0 (aB S t).length)
def CC (S:ay) (t:bf):List AV:=[.rs ae (aB S t)]
def eA:Con where
 A:=[.a xE,.a [.int,.int,.int,.int,.int,.int,.int]]
 B:=[]
 pre:=fun x b=>fU (x.1) (x.2)
 α:=fun _ _=>Unit
 φ:=fun _ _ _=>True
 r:=fun x b _=>yb (x.1) (x.2)
 o:=fun x b _=>CC (x.1) (x.2)
 nf:=1
set_option maxRecDepth 100000 in
theorem ma:Has Tryz.prog 47 eA:=by
 refine Has.ofE (fun _=>true) (fun _=>false) (fun _=>false) (l:=[(28,kW),(78,j4)]) ⟨yO,wX,trivial⟩ (fn:=Tryz.f47) Tryz.func47 rfl (by decide) (aZ rfl) ?_
 rintro⟨⟨(aj:List ByteArray),(ak:List Int),(an:List Int),(ao:Int),(ah:List Pt),(aq:Int),(ai:List Pt),(ar:Bool)⟩,⟨(t1:Int),(t2:Int),(t3:Int),(t4:Int),(t5:Int),(t6:Int),(t7:Int)⟩⟩ _ (hp:fU (aj,ak,an,ao,ah,aq,ai,ar) (t1,t2,t3,t4,t5,t6,t7))
 show vc _ _ _ _ (entry [.a [.vz ab aj,.vz ag ak,.vz ag an,.int ao,.vz ae ah,.int aq,.vz ae ai,.q ar],.a [.int t1,.int t2,.int t3,.int t4,.int t5,.int t6,.int t7]] []) _
 obtain⟨dG,sX⟩:=hp
 have dG:ay.rd (aj,ak,an,ao,ah,aq,ai,ar):=dG
 have sX:bf.rd (t1,t2,t3,t4,t5,t6,t7):=sX
 have hl:=rq (s:=(aj,ak,an,ao,ah,aq,ai,ar)) sX
 refine⟨⟨⟨⟨aa,aa,aa,aa,aa,aa,aa,aa,aa⟩,⟨aa,aa,aa,aa,aa,aa,aa,aa⟩,aa⟩,?_,?_⟩,fun x1 w2=>⟨aa,⟨⟨?_,?_⟩,?_,?_⟩,⟨?_,?_⟩,⟨⟨aa,aa⟩,?_,?_⟩,fun x3 w4=>⟨⟨⟨?_,?_⟩,?_,?_⟩,?_⟩⟩⟩
 all_goals first|refine aw ?_|refine ax ?_|exact ba|(dsimp only [kW,lT];omega)|(dsimp only [j4,lg];omega)|exact a8|exact dG|exact sX.dep|(show 0+(bC (aj,ak,an,ao,ah,aq,ai,ar) (t1,t2,t3,t4,t5,t6,t7)).1.length≤1048576;omega)|(show ((bC (aj,ak,an,ao,ah,aq,ai,ar) (t1,t2,t3,t4,t5,t6,t7)).1).length+(cw ((16:Int)-((bC (aj,ak,an,ao,ah,aq,ai,ar) (t1,t2,t3,t4,t5,t6,t7)).1.length:Int)).toNat).length≤1048576;rw [cw,ZG1];omega)|skip
 refine⟨[1020],[],_,_,_,rfl,az,(),aa,?_,?_,rfl⟩
 ·(show _=yb (aj,ak,an,ao,ah,aq,ai,ar) (t1,t2,t3,t4,t5,t6,t7));unfold yb;first|(rw [aB,ZA0];rfl)|(rw [aB];rfl)|rfl
 ·(show _=CC (aj,ak,an,ao,ah,aq,ai,ar) (t1,t2,t3,t4,t5,t6,t7));unfold CC;first|(rw [aB,ZA0];rfl)|(rw [aB];rfl)|rfl
def getM (s:ay) (t:bf) (k:Nat):ByteArray:=(bH s (nth ae (aB s t) k)).1
def B8 (S:ay) (t:bf) (k:Int):Prop:=S.rd∧t.rd∧0≤k∧k<16
def BI (S:ay) (t:bf) (k:Int):AV:=.str (getM S t k.toNat)
def adn (S:ay) (t:bf) (k:Int):List AV:=[]
def QB:Con where
 A:=[.a xE,.a [.int,.int,.int,.int,.int,.int,.int],.s .int]
 B:=[]
 pre:=fun x b=>B8 (x.1) (x.2.1) (x.2.2)
 α:=fun _ _=>Unit
 φ:=fun _ _ _=>True
 r:=fun x b _=>BI (x.1) (x.2.1) (x.2.2)
 o:=fun x b _=>adn (x.1) (x.2.1) (x.2.2)
 nf:=0
set_option maxRecDepth 100000 in
theorem agh:Has Tryz.prog 154 QB:=by
 refine Has.ofE (fun _=>true) (fun _=>false) (fun _=>false) (l:=[(47,eA),(29,eC)]) ⟨ma,mc,trivial⟩ (fn:=Tryz.f154) Tryz.func154 rfl (by decide) (aZ rfl) ?_
 rintro⟨⟨(aj:List ByteArray),(ak:List Int),(an:List Int),(ao:Int),(ah:List Pt),(aq:Int),(ai:List Pt),(ar:Bool)⟩,⟨(t1:Int),(t2:Int),(t3:Int),(t4:Int),(t5:Int),(t6:Int),(t7:Int)⟩,(k:Int)⟩ _ (hp:B8 (aj,ak,an,ao,ah,aq,ai,ar) (t1,t2,t3,t4,t5,t6,t7) k)
 show vc _ _ _ _ (entry [.a [.vz ab aj,.vz ag ak,.vz ag an,.int ao,.vz ae ah,.int aq,.vz ae ai,.q ar],.a [.int t1,.int t2,.int t3,.int t4,.int t5,.int t6,.int t7],.int k] []) _
 obtain⟨dG,sX,h1,h2⟩:=hp
 have dG:ay.rd (aj,ak,an,ao,ah,aq,ai,ar):=dG
 have sX:bf.rd (t1,t2,t3,t4,t5,t6,t7):=sX
 have hl:=gj (s:=(aj,ak,an,ao,ah,aq,ai,ar)) sX
 have ha:=n0 (oJ (lH (s:=(aj,ak,an,ao,ah,aq,ai,ar)) sX) k.toNat)
 have hr:aj.length=64:=dG.len
 refine⟨⟨⟨⟨aa,aa,aa,aa,aa,aa,aa,aa,aa⟩,⟨aa,aa,aa,aa,aa,aa,aa,aa⟩,aa⟩,?_,?_⟩,fun x1 w2=>⟨[.s 3,.b 1003],[.s 14],rfl,[.s 7],[.s 15],rfl,[.s 2],[.s 16],rfl,[.s 15,.s 16],[.s 17],rfl,⟨?_,?_⟩,[.s 17,.b 130000],[.s 18],rfl,?_,[.s 14,.s 18],[.s 19],rfl,⟨⟨⟨aa,aa,aa,aa,aa,aa,aa,aa,aa⟩,⟨aa,aa,aa,aa,aa,aa⟩,aa⟩,fun x3 w4=>?_,?_,?_⟩,?_,fun x5 w6=>⟨[.s 19],[.s 13],rfl,[.s 13],[.s 20],rfl,[.s 13],[.s 21],rfl,[.s 20],[.s 8],rfl,[.s 21],[.s 9],rfl,?_⟩⟩⟩
 all_goals first|refine aw ?_|refine ax ?_|exact ba|(dsimp only [eA,fU];omega)|(dsimp only [eC,fV];omega)|exact a8|exact dG|exact sX|exact dG.sz _ (by assumption)|exact ha.1|(show _<(aj.length:Int);rw [hr];exact ha.2)|(show k<((aB (aj,ak,an,ao,ah,aq,ai,ar) (t1,t2,t3,t4,t5,t6,t7)).length:Int);omega)|(show k.toNat<(aB (aj,ak,an,ao,ah,aq,ai,ar) (t1,t2,t3,t4,t5,t6,t7)).length;omega)|skip
 refine⟨[],[],_,_,_,rfl,az,(),aa,?_,?_,rfl⟩
 ·(show _=BI (aj,ak,an,ao,ah,aq,ai,ar) (t1,t2,t3,t4,t5,t6,t7) k);unfold BI;first|rfl
 ·rfl
def s4 (s:ay) (l:List Pt):List ByteArray:=l.map fun p=>(bH s p).1
def bw (s:ay) (t:bf):List ByteArray:=s4 s ((aB s t).take t.many.toNat)
theorem GO {l:List Pt}{i:Nat}(h:i<l.length):l.take (i+1)=l.take i++[nth ae l i]:=by
 have h1:=oK (ek:=ae) h
 rw [List.take_add_one,h1];rfl
def eH (S:ay) (t:bf):Prop:=S.rd∧t.rd∧0≤t.many∧t.many≤16
def u3 (S:ay) (t:bf):AV:=.s (.xs 0 1 0 (bw S t).length)
def yy (S:ay) (t:bf):List AV:=[.rs ab (bw S t)]
def df:Con where
 A:=[.a xE,.a [.int,.int,.int,.int,.int,.int,.int]]
 B:=[]
 pre:=fun x b=>eH (x.1) (x.2)
 α:=fun _ _=>Unit
 φ:=fun _ _ _=>True
 r:=fun x b _=>u3 (x.1) (x.2)
 o:=fun x b _=>yy (x.1) (x.2)
 nf:=1
set_option maxRecDepth 100000 in
theorem iT:Has Tryz.prog 45 df:=by
 refine Has.ofE (fun _=>true) (fun _=>false) (fun _=>false) (l:=[(47,eA),(29,eC)]) ⟨ma,mc,trivial⟩ (fn:=Tryz.f45) Tryz.func45 rfl (by decide) (aZ rfl) ?_
 rintro⟨⟨(aj:List ByteArray),(ak:List Int),(an:List Int),(ao:Int),(ah:List Pt),(aq:Int),(ai:List Pt),(ar:Bool)⟩,⟨(t1:Int),(t2:Int),(t3:Int),(t4:Int),(t5:Int),(t6:Int),(t7:Int)⟩⟩ _ (hp:eH (aj,ak,an,ao,ah,aq,ai,ar) (t1,t2,t3,t4,t5,t6,t7))
 show vc _ _ _ _ (entry [.a [.vz ab aj,.vz ag ak,.vz ag an,.int ao,.vz ae ah,.int aq,.vz ae ai,.q ar],.a [.int t1,.int t2,.int t3,.int t4,.int t5,.int t6,.int t7]] []) _
 obtain⟨dG,sX,(h0:0≤t7),(h1:t7≤16)⟩:=hp
 have dG:ay.rd (aj,ak,an,ao,ah,aq,ai,ar):=dG
 have sX:bf.rd (t1,t2,t3,t4,t5,t6,t7):=sX
 have hl:=gj (s:=(aj,ak,an,ao,ah,aq,ai,ar)) sX
 have hr:aj.length=64:=dG.len
 refine⟨aa,⟨⟨⟨aa,aa,aa,aa,aa,aa,aa,aa,aa⟩,⟨aa,aa,aa,aa,aa,aa,aa,aa⟩,aa⟩,?_,?_⟩,fun x1 w2=>?_⟩
 all_goals first|refine aw ?_|refine ax ?_|exact ba|(dsimp only [eA,fU];omega)|(dsimp only [eC,fV];omega)|exact a8|exact dG|exact sX|skip
 refine cO (l:=[(47,eA),(29,eC)]) (ex:=fun _=>true) (wr:=fun _=>false) (pt:=fun _=>false) ⟨ma,mc,aa⟩ [.s 2,.b 1002,.s 3,.b 1003,.s 6,.b 140000] (fun y:Nat×List ByteArray=>[(.s 5,.s (.xs 1010 1 0 y.2.length)),(.s 7,.int y.1),(.b 1010,.rs ab y.2)]) (fun y=>(y.1:Int)≤t7∧y.2.length=y.1∧y.2=s4 (aj,ak,an,ao,ah,aq,ai,ar) ((aB (aj,ak,an,ao,ah,aq,ai,ar) (t1,t2,t3,t4,t5,t6,t7)).take y.1)) (fun y=>t7.toNat-y.1) (0,[]) [] ⟨h0,rfl,rfl⟩ dN ?_
 rintro⟨i,out⟩ ⟨(hi:(i:Int)≤t7),(hlo:out.length=i),(he:out=s4 (aj,ak,an,ao,ah,aq,ai,ar) ((aB (aj,ak,an,ao,ah,aq,ai,ar) (t1,t2,t3,t4,t5,t6,t7)).take i))⟩
 have ha:=n0 (oJ (lH (s:=(aj,ak,an,ao,ah,aq,ai,ar)) sX) i)
 have bU:decide ((i:Int)<t7)=true→i<(aB (aj,ak,an,ao,ah,aq,ai,ar) (t1,t2,t3,t4,t5,t6,t7)).length:=fun h=>by have:=aE h;omega
 refine⟨fun w1=>⟨[.s 2,.b 1002],[.s 21],rfl,[.s 6],[.s 22],rfl,[.s 7],[.s 23],rfl,[.s 22,.s 23],[.s 24],rfl,⟨?_,?_⟩,[.s 24,.b 140000],[.s 25],rfl,?_,[.s 21,.s 25],[.s 26],rfl,⟨⟨⟨aa,aa,aa,aa,aa,aa,aa,aa,aa⟩,⟨aa,aa,aa,aa,aa,aa⟩,aa⟩,fun x2 w3=>?_,?_,?_⟩,?_,fun x4 w5=>⟨[.s 26],[.s 20],rfl,[.s 20],[.s 27],rfl,[.s 20],[.s 28],rfl,[.s 27],[.s 8],rfl,[.s 28],[.s 9],rfl,aa,⟨⟨?_,?_⟩,?_,?_⟩,⟨?_,?_⟩,?_⟩⟩,fun w6=>?_⟩
 all_goals first|refine aw ?_|refine ax ?_|exact ba|(dsimp only [eA,fU];omega)|(dsimp only [eC,fV];omega)|exact a8|exact dG|exact sX|exact dG.sz _ (by assumption)|exact ha.1|(show _<(aj.length:Int);rw [hr];exact ha.2)|exact bU (by assumption)|(show (i:Int)<((aB (aj,ak,an,ao,ah,aq,ai,ar) (t1,t2,t3,t4,t5,t6,t7)).length:Int);have:=bU w1;omega)|skip
 ·have e:s4 (aj,ak,an,ao,ah,aq,ai,ar) ((aB (aj,ak,an,ao,ah,aq,ai,ar) (t1,t2,t3,t4,t5,t6,t7)).take (i+1))=out++[(bH (aj,ak,an,ao,ah,aq,ai,ar) (nth ae (aB (aj,ak,an,ao,ah,aq,ai,ar) (t1,t2,t3,t4,t5,t6,t7)) i)).1]:=by
   rw [GO (bU w1),s4,List.map_append,←s4,←he];rfl
  refine⟨(i+1,out++[(bH (aj,ak,an,ao,ah,aq,ai,ar) (nth ae (aB (aj,ak,an,ao,ah,aq,ai,ar) (t1,t2,t3,t4,t5,t6,t7)) i)).1]),[(1010,1032)],?_,?_,?_⟩
  rotate_right
  ·exact bX
  ·exact⟨by have:=aE w1;show ((i+1:Nat):Int)≤t7;omega,by show List.length (_++_)=_;rw [ZA0,hlo];rfl,e.symm⟩
  ·show t7.toNat-(i+1)<t7.toNat-i;have:=aE (p:=(i:Int)<t7) w1;omega
 ·have hi2:i=t7.toNat:=by have:=aA (p:=(i:Int)<t7) (by assumption);omega
  have e:bw (aj,ak,an,ao,ah,aq,ai,ar) (t1,t2,t3,t4,t5,t6,t7)=out:=by rw [bw,he,hi2]
  refine⟨[1010],[],_,_,_,rfl,az,(),aa,?_,?_,rfl⟩
  ·(show _=u3 (aj,ak,an,ao,ah,aq,ai,ar) (t1,t2,t3,t4,t5,t6,t7));unfold u3;first|(rw [e];rfl)|rfl
  ·(show _=yy (aj,ak,an,ao,ah,aq,ai,ar) (t1,t2,t3,t4,t5,t6,t7));unfold yy;first|(rw [e];rfl)|rfl
end GL
namespace GL
def ob (l:List Pt):Bool:= !(l.any fun p=> !(au p))
def tk (l:List Pt):Prop:=l.length≤1000000
def pJ (l:List Pt):AV:=.q (ob l)
def abo (l:List Pt):List AV:=[]
def J7:Con where
 A:=[.s (.vz ae)]
 B:=[]
 pre:=fun x b=>tk x
 α:=fun _ _=>Unit
 φ:=fun _ _ _=>True
 r:=fun x b _=>pJ x
 o:=fun x b _=>abo x
 nf:=0
set_option maxRecDepth 100000 in
theorem ad9:Has Tryz.prog 120 J7:=by
 refine Has.ofE (fun _=>true) (fun _=>false) (fun _=>false) (l:=[(26,bm)]) ⟨cB,trivial⟩ (fn:=Tryz.f120) Tryz.func120 rfl (by decide) (aZ rfl) ?_
 rintro (l:List Pt) _ (hp:tk l)
 show vc _ _ _ _ (entry [.s (.vz ae l)] []) _
 unfold tk at hp
 refine cO (l:=[(26,bm)]) (ex:=fun _=>true) (wr:=fun _=>false) (pt:=fun _=>false) ⟨cB,aa⟩ [.s 0] (fun i:Nat=>[(.s 3,.int i)]) (fun i=>i≤l.length∧(l.drop i).any (fun p=> !(au p))=l.any (fun p=> !(au p))) (fun i=>l.length-i) 0 [] ⟨ZA8 _,rfl⟩ dN ?_
 rintro i ⟨hi,hr⟩
 have cr:decide ((i:Int)<(l.length:Int))=true→i<l.length:=fun h=>by have:=aE h;omega
 have oo:decide ((i:Int)<(l.length:Int))=false→¬i<l.length:=fun h=>by have:=aA h;omega
 refine⟨fun w1=>⟨⟨?_,?_⟩,⟨⟨⟨aa,aa,aa,aa,aa,aa⟩,aa⟩,aa⟩,fun x2 w3=>⟨fun w4=>?_,fun w5=>⟨⟨?_,?_⟩,?_⟩⟩⟩,fun w6=>?_⟩
 all_goals first|refine aw ?_|refine ax ?_|exact ba|(dsimp only [bm,cj];omega)|exact a8|skip
 ·have e:ob l=false:=by unfold ob;rw [YV (cr w1) hr w4];rfl
  refine⟨[],[],_,_,_,rfl,az,(),aa,?_,?_,rfl⟩
  ·(show _=pJ l);unfold pJ;first|(rw [e];rfl)|rfl
  ·rfl
 ·refine⟨(i+1),[],?_,?_,?_⟩
  rotate_right
  ·exact bX
  ·exact⟨cr w1,afL (cr w1) hr w5⟩
  ·show l.length-(i+1)<l.length-i;have:=cr w1;omega
 ·have e:ob l=true:=by unfold ob;rw [YW (oo w6) hr];rfl
  refine⟨[],[],_,_,_,rfl,az,(),aa,?_,?_,rfl⟩
  ·(show _=pJ l);unfold pJ;first|(rw [e];rfl)|rfl
  ·rfl
def rr (s:ay) (many i:Int) (p:Pt):Bool:= !(bH s p).2||(decide (p.2.2.2.2≠0)||(decide (p.2.1>s.ck)||decide (i≥many)))
def kb (s:ay) (many:Int):Int→List Pt→Bool
 |_,[]=>true
 |i,p::l=>bif au p then kb s many (i+1) l else bif rr s many i p then false else kb s many (i+1) l
def lu (t:bf):Bool:= !(iC t.many 0 16)||(decide (t.depth≠bl t.many)|| !(a6 t.root))
def oI (s:ay) (t:bf):Bool:=bif lu t then false else bif !(bC s t).2 then false else kb s t.many 0 (bC s t).1
theorem D4 {s:ay}{t:bf}(h:lu t=true):oI s t=false:=by unfold oI;rw [h];rfl
theorem ZR {s:ay}{t:bf}(h:lu t=false) (h2:(!(bC s t).2)=true):oI s t=false:=by unfold oI;rw [h,h2];rfl
theorem ZQ {s:ay}{t:bf}(h:lu t=false) (h2:(!(bC s t).2)=false):oI s t=kb s t.many 0 (bC s t).1:=by unfold oI;rw [h,h2];rfl
theorem ZU {t:bf}(h:(!(iC t.many 0 16))=true):lu t=true:=by unfold lu;rw [h];rfl
theorem ZT {t:bf}(h:decide (t.depth≠bl t.many)=true):lu t=true:=by unfold lu;rw [h,Bool.true_or,ZC4]
theorem ZS {t:bf}(h:(!(a6 t.root))=true):lu t=true:=by unfold lu;rw [h,ZC4,ZC4]
theorem zM {t:bf}(h1:(!(iC t.many 0 16))=false) (h2:decide (t.depth≠bl t.many)=false) (h3:(!(a6 t.root))=false):lu t=false:=by unfold lu;rw [h1,h2,h3];rfl
theorem H0 {t:bf}(h:lu t=false):t.rd:=by
 unfold lu at h
 simp only [ZD7,decide_eq_false_iff_not,ZF0] at h
 obtain⟨h1,h2,h3⟩:=h
 exact⟨by rw [h2];exact (py _).2,cI h3⟩
theorem FP {s:ay}{many i:Int}{p:Pt}{l:List Pt}(h:au p=true):kb s many i (p::l)=kb s many (i+1) l:=by rw [kb,h];rfl
theorem wR {s:ay}{many i:Int}{p:Pt}{l:List Pt}(h:au p=false) (hb:rr s many i p=true):kb s many i (p::l)=false:=by rw [kb,h,hb];rfl
theorem PD {s:ay}{many i:Int}{p:Pt}{l:List Pt}(h:au p=false) (hb:rr s many i p=false):kb s many i (p::l)=kb s many (i+1) l:=by rw [kb,h,hb];rfl
theorem Z5 {s:ay}{many i:Int}{p:Pt}(h:(!(bH s p).2)=true):rr s many i p=true:=by unfold rr;rw [h];rfl
theorem Z4 {s:ay}{many i:Int}{p:Pt}(h:decide (p.2.2.2.2≠0)=true):rr s many i p=true:=by unfold rr;rw [h,Bool.true_or,ZC4]
theorem Z3 {s:ay}{many i:Int}{p:Pt}(h:decide (p.2.1>s.ck)=true):rr s many i p=true:=by unfold rr;rw [h,Bool.true_or,ZC4,ZC4]
theorem Z2 {s:ay}{many i:Int}{p:Pt}(h:decide (i≥many)=true):rr s many i p=true:=by unfold rr;rw [h,ZC4,ZC4,ZC4]
theorem PE {s:ay}{many i:Int}{p:Pt}(h1:(!(bH s p).2)=false) (h2:decide (p.2.2.2.2≠0)=false) (h3:decide (p.2.1>s.ck)=false) (h4:decide (i≥many)=false):rr s many i p=false:=by unfold rr;rw [h1,h2,h3,h4];rfl
def zF (S:ay) (t:bf):Prop:=S.rd
def eo (S:ay) (t:bf):AV:=.q (oI S t)
def afW (S:ay) (t:bf):List AV:=[]
def J6:Con where
 A:=[.a xE,.a [.int,.int,.int,.int,.int,.int,.int]]
 B:=[]
 pre:=fun x b=>zF (x.1) (x.2)
 α:=fun _ _=>Unit
 φ:=fun _ _ _=>True
 r:=fun x b _=>eo (x.1) (x.2)
 o:=fun x b _=>afW (x.1) (x.2)
 nf:=0
set_option maxRecDepth 100000 in
theorem ad8:Has Tryz.prog 11 J6:=by
 refine Has.ofE (fun _=>true) (fun _=>false) (fun _=>false) (l:=[(24,dE),(27,dD),(25,cY),(28,kW),(26,bm),(29,eC)]) ⟨iA,jV,iB,yO,cB,mc,trivial⟩ (fn:=Tryz.f11) Tryz.func11 rfl (by decide) (aZ rfl) ?_
 rintro⟨⟨(aj:List ByteArray),(ak:List Int),(an:List Int),(ao:Int),(ah:List Pt),(aq:Int),(ai:List Pt),(ar:Bool)⟩,⟨(t1:Int),(t2:Int),(t3:Int),(t4:Int),(t5:Int),(t6:Int),(t7:Int)⟩⟩ _ (hp:zF (aj,ak,an,ao,ah,aq,ai,ar) (t1,t2,t3,t4,t5,t6,t7))
 show vc _ _ _ _ (entry [.a [.vz ab aj,.vz ag ak,.vz ag an,.int ao,.vz ae ah,.int aq,.vz ae ai,.q ar],.a [.int t1,.int t2,.int t3,.int t4,.int t5,.int t6,.int t7]] []) _
 have dG:ay.rd (aj,ak,an,ao,ah,aq,ai,ar):=hp
 have alb:aj.length=64:=dG.len
 refine⟨[.s 3],[.s 11],rfl,[.s 11,.b 1003],[.s 12],rfl,[.s 12],[.s 13],rfl,⟨⟨aa,aa,aa,aa⟩,aa⟩,?_,fun x1 w2=>⟨[.s 13],[.s 14],rfl,[.s 14],[.s 15],rfl,aa,fun w3=>⟨[.s 15],[.s 16],rfl,[.s 15],[.s 17],rfl,[.s 15],[.s 18],rfl,[.s 15],[.s 19],rfl,[.s 15],[.s 20],rfl,[.s 15],[.s 21],rfl,[.s 15,.s 21],[.s 22],rfl,[.s 22],[.s 23],rfl,[.s 23],[.s 24],rfl,[.s 23],[.s 25],rfl,[.s 23],[.s 26],rfl,[.s 23],[.s 27],rfl,[.s 23,.s 27],[.s 28],rfl,?_⟩,fun w4=>⟨[.s 15,.s 3],[.s 16],rfl,[.s 15,.s 16,.b 1003],[.s 17],rfl,[.s 15,.s 3],[.s 18],rfl,[.s 15,.s 18,.b 1003],[.s 19],rfl,[.s 15,.s 19],[.s 20],rfl,⟨⟨aa,aa⟩,aa⟩,?_,fun x5 w6=>⟨[.s 15,.s 17,.s 20],[.s 21],rfl,[.s 15,.s 21],[.s 22],rfl,[.s 22],[.s 23],rfl,aa,fun w7=>⟨[.s 23],[.s 24],rfl,[.s 23],[.s 25],rfl,[.s 23],[.s 26],rfl,[.s 23],[.s 27],rfl,[.s 23,.s 27],[.s 28],rfl,?_⟩,fun w8=>⟨[.s 23,.s 3],[.s 24],rfl,[.s 23,.s 24,.b 1003],[.s 25],rfl,[.s 23,.s 25],[.s 26],rfl,⟨⟨⟨aa,aa,aa,aa,aa,aa⟩,aa⟩,aa⟩,?_,fun x9 dq=>⟨[.s 23,.s 26],[.s 27],rfl,[.s 23,.s 27],[.s 28],rfl,fun kk=>?_,fun dI=>⟨⟨⟨⟨aa,aa,aa,aa,aa,aa,aa,aa,aa⟩,⟨aa,aa,aa,aa,aa,aa,aa,aa⟩,aa⟩,?_,?_⟩,fun r4 gI=>⟨fun pe=>?_,fun kj=>?_⟩⟩⟩⟩⟩⟩⟩⟩
 all_goals first|refine aw ?_|refine ax ?_|exact ba|(dsimp only [dE,gX];omega)|(dsimp only [dD,fg];omega)|(dsimp only [cY,ee];omega)|(dsimp only [kW,lT];omega)|(dsimp only [bm,cj];omega)|(dsimp only [eC,fV];omega)|exact a8|exact dG|exact (H0 (t:=(t1,t2,t3,t4,t5,t6,t7)) (zM w4 w8 dI)).dep|skip
 ·refine⟨[],[],_,_,_,rfl,az,(),aa,?_,?_,rfl⟩
  ·(show _=eo (aj,ak,an,ao,ah,aq,ai,ar) (t1,t2,t3,t4,t5,t6,t7));unfold eo;first|(rw [D4 (s:=(aj,ak,an,ao,ah,aq,ai,ar)) (t:=(t1,t2,t3,t4,t5,t6,t7)) (ZU w3)];rfl)|rfl
  ·rfl
 ·refine⟨[],[],_,_,_,rfl,az,(),aa,?_,?_,rfl⟩
  ·(show _=eo (aj,ak,an,ao,ah,aq,ai,ar) (t1,t2,t3,t4,t5,t6,t7));unfold eo;first|(rw [D4 (s:=(aj,ak,an,ao,ah,aq,ai,ar)) (t:=(t1,t2,t3,t4,t5,t6,t7)) (ZT w7)];rfl)|rfl
  ·rfl
 ·refine⟨[],[],_,_,_,rfl,az,(),aa,?_,?_,rfl⟩
  ·(show _=eo (aj,ak,an,ao,ah,aq,ai,ar) (t1,t2,t3,t4,t5,t6,t7));unfold eo;first|(rw [D4 (s:=(aj,ak,an,ao,ah,aq,ai,ar)) (t:=(t1,t2,t3,t4,t5,t6,t7)) (ZS kk)];rfl)|rfl
  ·rfl
 ·refine⟨[],[],_,_,_,rfl,az,(),aa,?_,?_,rfl⟩
  ·(show _=eo (aj,ak,an,ao,ah,aq,ai,ar) (t1,t2,t3,t4,t5,t6,t7));unfold eo;first|(rw [ZR (s:=(aj,ak,an,ao,ah,aq,ai,ar)) (t:=(t1,t2,t3,t4,t5,t6,t7)) (zM w4 w8 dI) pe];rfl)|rfl
  ·rfl
 ·have hB:=zM (t:=(t1,t2,t3,t4,t5,t6,t7)) w4 w8 dI
  have hM:=ZQ (s:=(aj,ak,an,ao,ah,aq,ai,ar)) (t:=(t1,t2,t3,t4,t5,t6,t7)) hB kj
  have sX:bf.rd (t1,t2,t3,t4,t5,t6,t7):=H0 hB
  have hl:=rq (s:=(aj,ak,an,ao,ah,aq,ai,ar)) sX
  have cA:=IJ (s:=(aj,ak,an,ao,ah,aq,ai,ar)) sX
  refine cO (l:=[(24,dE),(27,dD),(25,cY),(28,kW),(26,bm),(29,eC)]) (ex:=fun _=>true) (wr:=fun _=>false) (pt:=fun _=>false) ⟨iA,jV,iB,yO,cB,mc,aa⟩ [.s 2,.b 1002,.s 3,.b 1003,.s 5,.b 330000] (fun i:Nat=>[(.s 7,.int i)]) (fun i=>i≤(bC (aj,ak,an,ao,ah,aq,ai,ar) (t1,t2,t3,t4,t5,t6,t7)).1.length∧kb (aj,ak,an,ao,ah,aq,ai,ar) t7 i ((bC (aj,ak,an,ao,ah,aq,ai,ar) (t1,t2,t3,t4,t5,t6,t7)).1.drop i)=kb (aj,ak,an,ao,ah,aq,ai,ar) t7 0 (bC (aj,ak,an,ao,ah,aq,ai,ar) (t1,t2,t3,t4,t5,t6,t7)).1) (fun i=>(bC (aj,ak,an,ao,ah,aq,ai,ar) (t1,t2,t3,t4,t5,t6,t7)).1.length-i) 0 [] ⟨ZA8 _,rfl⟩ dN ?_
  rintro i ⟨hi,hr⟩
  have cr:decide ((i:Int)<((bC (aj,ak,an,ao,ah,aq,ai,ar) (t1,t2,t3,t4,t5,t6,t7)).1.length:Int))=true→i<(bC (aj,ak,an,ao,ah,aq,ai,ar) (t1,t2,t3,t4,t5,t6,t7)).1.length:=fun h=>by have:=aE h;omega
  have cP:i<(bC (aj,ak,an,ao,ah,aq,ai,ar) (t1,t2,t3,t4,t5,t6,t7)).1.length→(bC (aj,ak,an,ao,ah,aq,ai,ar) (t1,t2,t3,t4,t5,t6,t7)).1.drop i=nth ae (bC (aj,ak,an,ao,ah,aq,ai,ar) (t1,t2,t3,t4,t5,t6,t7)).1 i::(bC (aj,ak,an,ao,ah,aq,ai,ar) (t1,t2,t3,t4,t5,t6,t7)).1.drop (i+1):=fun h=>bZ (ek:=ae) h
  have ha:=n0 (oJ cA i)
  refine⟨fun w1=>⟨⟨?_,?_⟩,?_,⟨⟨⟨aa,aa,aa,aa,aa,aa⟩,aa⟩,aa⟩,fun x2 w3=>⟨fun w4=>⟨⟨?_,?_⟩,?_⟩,fun w5=>⟨⟨⟨⟨aa,aa,aa,aa,aa,aa,aa,aa,aa⟩,⟨aa,aa,aa,aa,aa,aa⟩,aa⟩,fun x6 w7=>?_,?_,?_⟩,fun x8 w9=>⟨aa,fun dq=>?_,fun kk=>⟨aa,fun dI=>?_,fun iJ=>⟨aa,fun gI=>?_,fun pe=>⟨fun kj=>?_,fun wC=>⟨⟨?_,?_⟩,?_⟩⟩⟩⟩⟩⟩⟩⟩,fun qX=>?_⟩
  all_goals first|refine aw ?_|refine ax ?_|exact ba|(dsimp only [dE,gX];omega)|(dsimp only [dD,fg];omega)|(dsimp only [cY,ee];omega)|(dsimp only [kW,lT];omega)|(dsimp only [bm,cj];omega)|(dsimp only [eC,fV];omega)|exact a8|exact dG|exact cr w1|exact aE w1|exact dG.sz _ (by assumption)|exact ha.1|(show _<(aj.length:Int);rw [alb];exact ha.2)|skip
  ·refine⟨(i+1),[],?_,?_,?_⟩
   rotate_right
   ·exact bX
   ·exact⟨cr w1,by rw [←hr,cP (cr w1),FP (s:=(aj,ak,an,ao,ah,aq,ai,ar)) (p:=(nth ae (bC (aj,ak,an,ao,ah,aq,ai,ar) (t1,t2,t3,t4,t5,t6,t7)).1 i)) w4];rfl⟩
   ·show (bC (aj,ak,an,ao,ah,aq,ai,ar) (t1,t2,t3,t4,t5,t6,t7)).1.length-(i+1)<(bC (aj,ak,an,ao,ah,aq,ai,ar) (t1,t2,t3,t4,t5,t6,t7)).1.length-i;have:=cr w1;omega
  ·refine⟨[],[],_,_,_,rfl,az,(),aa,?_,?_,rfl⟩
   ·(show _=eo (aj,ak,an,ao,ah,aq,ai,ar) (t1,t2,t3,t4,t5,t6,t7));unfold eo;first|(rw [hM,←hr,cP (cr w1),wR (s:=(aj,ak,an,ao,ah,aq,ai,ar)) (p:=(nth ae (bC (aj,ak,an,ao,ah,aq,ai,ar) (t1,t2,t3,t4,t5,t6,t7)).1 i)) w5 (Z5 (s:=(aj,ak,an,ao,ah,aq,ai,ar)) (p:=(nth ae (bC (aj,ak,an,ao,ah,aq,ai,ar) (t1,t2,t3,t4,t5,t6,t7)).1 i)) dq)];rfl)|rfl
   ·rfl
  ·refine⟨[],[],_,_,_,rfl,az,(),aa,?_,?_,rfl⟩
   ·(show _=eo (aj,ak,an,ao,ah,aq,ai,ar) (t1,t2,t3,t4,t5,t6,t7));unfold eo;first|(rw [hM,←hr,cP (cr w1),wR (s:=(aj,ak,an,ao,ah,aq,ai,ar)) (p:=(nth ae (bC (aj,ak,an,ao,ah,aq,ai,ar) (t1,t2,t3,t4,t5,t6,t7)).1 i)) w5 (Z4 (s:=(aj,ak,an,ao,ah,aq,ai,ar)) (p:=(nth ae (bC (aj,ak,an,ao,ah,aq,ai,ar) (t1,t2,t3,t4,t5,t6,t7)).1 i)) dI)];rfl)|rfl
   ·rfl
  ·refine⟨[],[],_,_,_,rfl,az,(),aa,?_,?_,rfl⟩
   ·(show _=eo (aj,ak,an,ao,ah,aq,ai,ar) (t1,t2,t3,t4,t5,t6,t7));unfold eo;first|(rw [hM,←hr,cP (cr w1),wR (s:=(aj,ak,an,ao,ah,aq,ai,ar)) (p:=(nth ae (bC (aj,ak,an,ao,ah,aq,ai,ar) (t1,t2,t3,t4,t5,t6,t7)).1 i)) w5 (Z3 (s:=(aj,ak,an,ao,ah,aq,ai,ar)) (p:=(nth ae (bC (aj,ak,an,ao,ah,aq,ai,ar) (t1,t2,t3,t4,t5,t6,t7)).1 i)) gI)];rfl)|rfl
   ·rfl
  ·refine⟨[],[],_,_,_,rfl,az,(),aa,?_,?_,rfl⟩
   ·(show _=eo (aj,ak,an,ao,ah,aq,ai,ar) (t1,t2,t3,t4,t5,t6,t7));unfold eo;first|(rw [hM,←hr,cP (cr w1),wR (s:=(aj,ak,an,ao,ah,aq,ai,ar)) (p:=(nth ae (bC (aj,ak,an,ao,ah,aq,ai,ar) (t1,t2,t3,t4,t5,t6,t7)).1 i)) w5 (Z2 (s:=(aj,ak,an,ao,ah,aq,ai,ar)) (p:=(nth ae (bC (aj,ak,an,ao,ah,aq,ai,ar) (t1,t2,t3,t4,t5,t6,t7)).1 i)) kj)];rfl)|rfl
   ·rfl
  ·refine⟨(i+1),[],?_,?_,?_⟩
   rotate_right
   ·exact bX
   ·exact⟨cr w1,by rw [←hr,cP (cr w1),PD (s:=(aj,ak,an,ao,ah,aq,ai,ar)) (p:=(nth ae (bC (aj,ak,an,ao,ah,aq,ai,ar) (t1,t2,t3,t4,t5,t6,t7)).1 i)) w5 (PE (s:=(aj,ak,an,ao,ah,aq,ai,ar)) (p:=(nth ae (bC (aj,ak,an,ao,ah,aq,ai,ar) (t1,t2,t3,t4,t5,t6,t7)).1 i)) kk iJ pe wC)];rfl⟩
   ·show (bC (aj,ak,an,ao,ah,aq,ai,ar) (t1,t2,t3,t4,t5,t6,t7)).1.length-(i+1)<(bC (aj,ak,an,ao,ah,aq,ai,ar) (t1,t2,t3,t4,t5,t6,t7)).1.length-i;have:=cr w1;omega
  ·have FX:¬i<(bC (aj,ak,an,ao,ah,aq,ai,ar) (t1,t2,t3,t4,t5,t6,t7)).1.length:=by have:=aA (p:=(i:Int)<((bC (aj,ak,an,ao,ah,aq,ai,ar) (t1,t2,t3,t4,t5,t6,t7)).1.length:Int)) qX;omega
   have e:kb (aj,ak,an,ao,ah,aq,ai,ar) t7 0 (bC (aj,ak,an,ao,ah,aq,ai,ar) (t1,t2,t3,t4,t5,t6,t7)).1=true:=by rw [←hr,ZB4 (by omega)];rfl
   refine⟨[],[],_,_,_,rfl,az,(),aa,?_,?_,rfl⟩
   ·(show _=eo (aj,ak,an,ao,ah,aq,ai,ar) (t1,t2,t3,t4,t5,t6,t7));unfold eo;first|(rw [hM,e];rfl)|rfl
   ·rfl
end GL
end Go.Proofs.YtbfgjadbfjkcdaaGreatDoor
