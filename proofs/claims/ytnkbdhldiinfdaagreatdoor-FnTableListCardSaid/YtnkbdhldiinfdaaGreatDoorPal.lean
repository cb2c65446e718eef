/- Part 12 of the proof of a drawn law. -/
import Derived.Test.YtnkbdhldiinfdaaGreatDoorPah
import Derived.Test.YtnkbdhldiinfdaaGreatDoorPak
set_option maxHeartbeats 20000000
set_option maxRecDepth 100000
set_option linter.all false
namespace Go.Proofs.YtnkbdhldiinfdaaGreatDoor
namespace GL
def ptrEq (p q:Pt):Bool:=decide (p.1=q.1)&&(decide (p.2.1=q.2.1)&&(decide (p.2.2.1=q.2.2.1)&&(decide (p.2.2.2.1=q.2.2.2.1)&&decide (p.2.2.2.2=q.2.2.2.2))))
theorem sb {p q:Pt}:ptrEq p q=true↔p=q:=by
 unfold ptrEq
 simp only [ZA9,decide_eq_true_eq]
 constructor
 ·rintro⟨h1,h2,h3,h4,h5⟩
  obtain⟨a,b,c,d,e⟩:=p
  obtain⟨a',b',c',d',e'⟩:=q
  simp only at h1 h2 h3 h4 h5
  subst h1 h2 h3 h4 h5;rfl
 ·rintro rfl;exact⟨rfl,rfl,rfl,rfl,rfl⟩
def B6:Nat→List Pt→List Pt
 |0,l=>l
 |f+1,l=>bif decide ((l.length:Int) % 4≠0) then B6 f (l++[bM]) else l
def eK (l:List Pt):List Pt:=B6 4 l
theorem acX {f:Nat}{l:List Pt}(h:decide ((l.length:Int) % 4≠0)=true):B6 (f+1) l=B6 f (l++[bM]):=by rw [B6,h];rfl
theorem acY {f:Nat}{l:List Pt}(h:decide ((l.length:Int) % 4≠0)=false):B6 f l=l:=by
 cases f with
 |zero=>rfl
 |succ f=>rw [B6,h];rfl
theorem RV:∀(f:Nat) (l:List Pt),4≤f+(l.length % 4)∨l.length % 4=0→(B6 f l).length=(l.length+3) / 4*4
 |0,l,h=>by show l.length=_;omega
 |f+1,l,h=>by
  unfold B6
  cases hd:decide ((l.length:Int) % 4≠0) with
  |true=>
   have:=aJ hd
   rw [cond_true,RV f _ (by rw [ZA0];show 4≤f+(l.length+1) % 4∨(l.length+1) % 4=0;omega),ZA0]
   show (l.length+1+3) / 4*4=_;omega
  |false=>
   have:=aA hd
   rw [cond_false];omega
theorem HF (l:List Pt):(eK l).length=(l.length+3) / 4*4:=RV 4 l (by omega)
def qO (l:List Pt) (i:Nat):List Pt:=(l.drop (0+((i:Int)*4).toNat)).take ((((i:Int)+1)*4).toNat-((i:Int)*4).toNat)
def fI:Nat→ay→Int→List Pt→List Pt→Nat→List Pt→List Pt→ay×Option (List Pt×List Pt)
 |0,s,_,_,_,_,next,stays=>(s,some (next,stays))
 |f+1,s,lv,ka,l,i,next,stays=>
  bif decide ((i:Int)*4<l.length) then
   (bif !(ee s (qO l i) lv (nth ae ka i)).2.2 then ((ee s (qO l i) lv (nth ae ka i)).1,none) else
    fI f (ee s (qO l i) lv (nth ae ka i)).1 lv ka l (i+1) (next++[(ee s (qO l i) lv (nth ae ka i)).2.1])
     (bif ptrEq (ee s (qO l i) lv (nth ae ka i)).2.1 (nth ae ka i) then stays++[(ee s (qO l i) lv (nth ae ka i)).2.1] else stays))
  else (s,some (next,stays))
def mm:Nat→ay→bf→Int→Int→List Pt→List Pt→ay×Option (List Pt×List Pt)
 |0,s,_,_,_,l,stays=>(s,some (l,stays))
 |f+1,s,t,d,lv,l,stays=>bif decide (lv≤d) then
   (match fI 5 s lv (dL s t d lv) (eK l) 0 [] stays with
    |(s',none)=>(s',none)
    |(s',some (n,st))=>mm f s' t d (lv+1) n st)
  else (s,some (l,stays))
def gW (stays:List Pt) (o:Pt):Bool:=stays.any λq=>ptrEq q o
def dX:List Pt→List Pt→ay→ay
 |[],_,s=>s
 |o::l,stays,s=>dX l stays (bif gW stays o then s else cM s o)
def rootOf (l:List Pt):Pt:=bif decide ((l.length:Int)>0) then nth ae l 0 else bM
def LY (p:Pt) (d many:Int):bf:=(p.1,p.2.1,p.2.2.1,p.2.2.2.1,p.2.2.2.2,d,many)
def ny:bf:=(0,0,0,0,0,0,0)
def akK (s0:ay) (t:bf) (many:Int):ay×Option (List Pt×List Pt)→ay×bf×Bool
 |(s',none)=>(s',ny,false)
 |(s',some (l,stays))=>(dX (bw s0 t) stays s',LY (rootOf l) (bj many) many,true)
def bQ (s:ay) (t:bf) (leaves:List Pt) (many:Int):ay×bf×Bool:=akK s t many (mm 3 s t (bj many) 1 (leaves.take many.toNat) [])
def trA (t:bf):A0:=.a [.int t.1,.int t.2.1,.int t.2.2.1,.int t.2.2.2.1,.int t.2.2.2.2.1,.int t.2.2.2.2.2.1,.int t.2.2.2.2.2.2]
structure ay.wf (s:ay):Prop where
 n:s.n64
 sz:∀x∈s.rows,x.size≤1000000
theorem ay.wf.rd {s:ay}(h:s.wf):s.rd:=⟨h.n.1,h.sz⟩
theorem U2 {l:List ByteArray}{k:Nat}{x:ByteArray}(h:∀y∈l,y.size≤1000000) (hx:x.size≤1000000):∀y∈l.set k x,y.size≤1000000:=by
 intro y hy
 rcases List.mem_or_eq_of_mem_set hy with h1 |h1
 ·exact h y h1
 ·rw [h1];exact hx
theorem jL (s:ay) (text:ByteArray) (lv:Int):(bd s text lv).2.2=false∧(bd s text lv).1=s∨∃k:Nat,(bd s text lv).2.2=true∧(bd s text lv).1=uO s text k∧text.size≤128:=by
 unfold bd
 cases hd:decide (da s text lv<0) with
 |true=>exact .inl ⟨rfl,rfl⟩
 |false=>
  cases ho:(gv (da s text lv) s.cg lv text).2 with
  |false=>exact .inl ⟨rfl,rfl⟩
  |true=>
   refine .inr ⟨(da s text lv).toNat,rfl,rfl,?_⟩
   unfold gv at ho
   cases hc:ik text.size 1 128&&aZ (da s text lv,s.cg,text.size,qN text,lv) with
   |true=>
    simp only [ZA9] at hc
    have:=cC.1 hc.1
    omega
   |false=>rw [hc] at ho;cases ho
theorem AY {s:ay}{text:ByteArray}{lv:Int}(h:s.wf):(bd s text lv).1.wf:=by
 rcases jL s text lv with ⟨_,e⟩ |⟨k,_,e,hs⟩
 ·rw [e];exact h
 ·rw [e]
  exact⟨⟨by show (List.set _ _ _).length=64;rw [ZC3];exact h.n.1,by show (List.set _ _ _).length=64;rw [ZC3];exact h.n.2.1,by show (List.set _ _ _).length=64;rw [ZC3];exact h.n.2.2⟩,U2 h.sz (by omega)⟩
theorem PQ {s:ay}{l:List Pt}{lv:Int}{o:Pt}(h:s.wf):(ee s l lv o).1.wf:=by
 unfold ee
 cases nV l with
 |true=>exact h
 |false=>
  cases fD s l o with
  |true=>exact h
  |false=>exact AY h
theorem ab3 {s:ay}{l:List Pt}{lv:Int}{o:Pt}(h:(ee s l lv o).2.2=false):(ee s l lv o).1=s:=by
 unfold ee at h ⊢
 cases hn:nV l with
 |true=>rw [hn] at h;cases h
 |false=>
  rw [hn,cond_false] at h
  show (bif fD s l o then (s,o,true) else bd s (bE l).1 lv).1=s
  cases hk:fD s l o with
  |true=>rw [hk] at h;cases h
  |false=>
   rw [hk,cond_false] at h
   show (bd s (bE l).1 lv).1=s
   rcases jL s (bE l).1 lv with ⟨_,e⟩ |⟨k,e,_⟩
   ·exact e
   ·rw [e] at h;cases h
theorem C6 (s:ay) (l:List Pt) (lv:Int) (o:Pt):(ee s l lv o).1.gone=s.gone∧(ee s l lv o).1.dead=s.dead∧(ee s l lv o).1.cg=s.cg∧(ee s l lv o).1.bZ=s.bZ∧(ee s l lv o).1.same=s.same:=by
 unfold ee
 cases nV l with
 |true=>exact⟨rfl,rfl,rfl,rfl,rfl⟩
 |false=>
  cases fD s l o with
  |true=>exact⟨rfl,rfl,rfl,rfl,rfl⟩
  |false=>
   show (bd s (bE l).1 lv).1.gone=_∧_
   rcases jL s (bE l).1 lv with ⟨_,e⟩ |⟨k,_,e,_⟩
   ·rw [cond_false,cond_false,e];exact⟨rfl,rfl,rfl,rfl,rfl⟩
   ·rw [cond_false,cond_false,e];exact⟨rfl,rfl,rfl,rfl,rfl⟩
theorem qq {s:ay}{p:Pt}(h:s.wf):(cM s p).wf:=by
 unfold cM
 cases au p with
 |true=>exact h
 |false=>
  cases decide (p.2.1≤s.bZ) with
  |true=>exact⟨h.n,h.sz⟩
  |false=>
   cases decide (p.2.1<s.cg) with
   |true=>exact⟨h.n,h.sz⟩
   |false=>
    show (gf s p.1.toNat).wf
    have hl:=xd s p.1.toNat
    refine⟨⟨hl.1.trans h.n.1,hl.2.1.trans h.n.2.1,hl.2.2.trans h.n.2.2⟩,?_⟩
    show∀x∈(bif uC s p.1.toNat then s.rows.set p.1.toNat ByteArray.empty else s.rows),_
    cases uC s p.1.toNat with
    |true=>exact U2 h.sz (ZA7 _)
    |false=>exact h.sz
theorem pg (s:ay) (p:Pt):(cM s p).gone.length≤s.gone.length+1∧(cM s p).dead.length≤s.dead.length+1:=by
 unfold cM
 cases au p with
 |true=>exact⟨Nat.le_succ _,Nat.le_succ _⟩
 |false=>
  cases decide (p.2.1≤s.bZ) with
  |true=>exact⟨Nat.le_succ _,by show (s.dead++[p]).length≤_;rw [ZA0];exact ZB5 _⟩
  |false=>
   cases decide (p.2.1<s.cg) with
   |true=>exact⟨by show (s.gone++[p]).length≤_;rw [ZA0];exact ZB5 _,Nat.le_succ _⟩
   |false=>exact⟨Nat.le_succ _,Nat.le_succ _⟩
theorem Y7 {s:ay}{t:bf}{d lv:Int}(h:t.rd):∀q∈dL s t d lv,aZ q=true:=by
 unfold dL
 cases decide (t.depth≠d) with
 |true=>exact wU 4
 |false=>
  cases decide (lv=d) with
  |true=>
   intro q hq
   simp only [cond_false,cond_true,ZB8,ZF6,or_false] at hq
   subst hq;exact h.ok
  |false=>
   cases !(bg s t.root d).2 with
   |true=>exact wU 4
   |false=>exact sP s t.root d
theorem adi (s:ay) (t:bf) (d lv:Int):1≤(dL s t d lv).length∧(lv≠d→(dL s t d lv).length=4)∧(dL s t d lv).length≤4:=by
 unfold dL
 cases decide (t.depth≠d) with
 |true=>exact⟨by show 1≤4;omega,λ_=>rfl,ZB5 _⟩
 |false=>
  cases hd:decide (lv=d) with
  |true=>exact⟨ZB5 _,λh=>absurd (aJ hd) h,by show 1≤4;omega⟩
  |false=>
   cases hb: !(bg s t.root d).2 with
   |true=>exact⟨by show 1≤4;omega,λ_=>rfl,ZB5 _⟩
   |false=>
    have:=(iG s t.root d).2 (cL hb)
    show 1≤(bg s t.root d).1.length∧(_→(bg s t.root d).1.length=4)∧(bg s t.root d).1.length≤4
    omega
theorem ML {s:ay}{t:bf}(h:t.rd):∀q∈bw s t,aZ q=true:=by
 unfold bw
 cases decide (t.depth=0)||au t.root with
 |true=>intro q hq;cases hq
 |false=>
  cases decide (t.depth=2) with
  |true=>
   intro q hq
   rcases ZB8.1 hq with hq |hq
   ·rw [hq];exact h.ok
   ·exact sP s t.root 2 q (ZF4.1 hq).1
  |false=>
   intro q hq
   simp only [cond_false,ZB8,ZF6,or_false] at hq
   subst hq;exact h.ok
theorem IT (s:ay) (t:bf):(bw s t).length≤5:=by
 unfold bw
 cases decide (t.depth=0)||au t.root with
 |true=>exact ZA7 _
 |false=>
  cases decide (t.depth=2) with
  |true=>
   have h1:=(iG s t.root 2).1
   have h2:=List.length_filter_le (λp=> !(au p)) (bg s t.root 2).1
   show (t.root::(bg s t.root 2).1.filter (λp=> !(au p))).length≤5
   rw [ZA1];omega
  |false=>show 1≤5;omega
end GL
namespace GL
theorem agd {f:Nat}{s:ay}{lv:Int}{ka l next stays:List Pt}{i:Nat}(h:decide ((i:Int)*4<l.length)=true) (h2:(!(ee s (qO l i) lv (nth ae ka i)).2.2)=true):fI (f+1) s lv ka l i next stays=((ee s (qO l i) lv (nth ae ka i)).1,none):=by rw [fI,h,h2];rfl
theorem aae {f:Nat}{s:ay}{lv:Int}{ka l next stays:List Pt}{i:Nat}(h:decide ((i:Int)*4<l.length)=true) (h2:(!(ee s (qO l i) lv (nth ae ka i)).2.2)=false):fI (f+1) s lv ka l i next stays=fI f (ee s (qO l i) lv (nth ae ka i)).1 lv ka l (i+1) (next++[(ee s (qO l i) lv (nth ae ka i)).2.1]) (bif ptrEq (ee s (qO l i) lv (nth ae ka i)).2.1 (nth ae ka i) then stays++[(ee s (qO l i) lv (nth ae ka i)).2.1] else stays):=by rw [fI,h,h2];rfl
theorem age {f:Nat}{s:ay}{lv:Int}{ka l next stays:List Pt}{i:Nat}(h:decide ((i:Int)*4<l.length)=false):fI f s lv ka l i next stays=(s,some (next,stays)):=by
 cases f with
 |zero=>rfl
 |succ f=>rw [fI,h];rfl
theorem O6 {f:Nat}{s s':ay}{t:bf}{d lv:Int}{l stays:List Pt}(h:decide (lv≤d)=true) (h2:fI 5 s lv (dL s t d lv) (eK l) 0 [] stays=(s',none)):mm (f+1) s t d lv l stays=(s',none):=by rw [mm,h,h2];rfl
theorem O5 {f:Nat}{s s':ay}{t:bf}{d lv:Int}{l stays n st:List Pt}(h:decide (lv≤d)=true) (h2:fI 5 s lv (dL s t d lv) (eK l) 0 [] stays=(s',some (n,st))):mm (f+1) s t d lv l stays=mm f s' t d (lv+1) n st:=by rw [mm,h,h2];rfl
theorem O7 {f:Nat}{s:ay}{t:bf}{d lv:Int}{l stays:List Pt}(h:decide (lv≤d)=false):mm f s t d lv l stays=(s,some (l,stays)):=by
 cases f with
 |zero=>rfl
 |succ f=>rw [mm,h];rfl
theorem TR {o:Pt}{l stays:List Pt}{s:ay}(h:gW stays o=true):dX (o::l) stays s=dX l stays s:=by rw [dX,h];rfl
theorem TS {o:Pt}{l stays:List Pt}{s:ay}(h:gW stays o=false):dX (o::l) stays s=dX l stays (cM s o):=by rw [dX,h];rfl
theorem aeV {n:Int}(h:bj n=1):n≤4:=by
 unfold bj at h
 by_cases h1:n≤1
 ·omega
 ·rw [decide_eq_false h1] at h
  by_cases h2:n≤4
  ·exact h2
  ·rw [decide_eq_false h2] at h;cases h
def kY (S:ay) (t:bf) (l:List Pt) (many:Int):Prop:=S.wf∧t.rd∧l.length=16∧0≤many∧many≤16∧S.gone.length≤1047000∧S.dead.length≤1047000
def aaW (S:ay) (t:bf) (l:List Pt) (many:Int) (z:Bool):Prop:=z=(bQ S t l many).2.2
def mF (S:ay) (t:bf) (l:List Pt) (many:Int) (z:Bool):AV:=match z with |true=>.t [.a (kW 0 1 2 5 6 (bQ S t l many).1),trA (bQ S t l many).2.1,.s (.q true)] |false=>.t [.a (kW 0 1 2 3 4 (bQ S t l many).1),trA (bQ S t l many).2.1,.s (.q false)]
def qi (S:ay) (t:bf) (l:List Pt) (many:Int) (z:Bool):List AV:=match z with |true=>[.rs ab (bQ S t l many).1.rows,.rs ag (bQ S t l many).1.refs,.rs ag (bQ S t l many).1.last,.zz,.zz,.rs ae (bQ S t l many).1.gone,.rs ae (bQ S t l many).1.dead] |false=>GF (bQ S t l many).1++[.zz,.zz]
def j1:cn where
 A:=[.a (stB 0 1 2 3 4),.a [.int,.int,.int,.int,.int,.int,.int],.s (.vz ae),.s .int]
 B:=[.r ab,.r ag,.r ag,.r ae,.r ae]
 pre:=λx b=>stW x.1 b∧kY (gP x.1 b) (x.2.1) (x.2.2.1) (x.2.2.2)
 α:=λ_ _=>Bool
 φ:=λx b z=>aaW (gP x.1 b) (x.2.1) (x.2.2.1) (x.2.2.2) z
 r:=λx b z=>mF (gP x.1 b) (x.2.1) (x.2.2.1) (x.2.2.2) z
 o:=λx b z=>qi (gP x.1 b) (x.2.1) (x.2.2.1) (x.2.2.2) z
 nf:=2
 mv:=true
theorem wO:Has Tryz.prog 94 j1:=by
 refine Has.ofZ zT zF (λd=>Nat.beq d 77) (l:=[(105,dD),(143,fO),(144,j0),(145,j4),(95,cJ)]) ⟨jU,pd,wN,wQ,gx,aa⟩ Tryz.func94 ?_
 rintro⟨⟨(AU:Nat),(AT:Nat),(AS:Nat),(ao:Int),(AR:Nat),(aq:Int),(AQ:Nat),(ar:Bool)⟩,⟨(t1:Int),(t2:Int),(t3:Int),(t4:Int),(t5:Int),(t6:Int),(t7:Int)⟩,(l:List Pt),(many:Int)⟩ ⟨(aj:List ByteArray),(ak:List Int),(an:List Int),(ah:List Pt),(ai:List Pt)⟩ ⟨⟨(gC:AU=List.length aj),(gB:AT=List.length ak),(gA:AS=List.length an),(gz:AR=List.length ah),(gy:AQ=List.length ai)⟩,(hp:kY (aj,ak,an,ao,ah,aq,ai,ar) (t1,t2,t3,t4,t5,t6,t7) l many)⟩
 subst gC gB gA gz gy
 show vc _ _ _ _ (entry [.a [.xs 0 1 0 aj.length,.xs 1 1 0 ak.length,.xs 2 1 0 an.length,.int ao,.xs 3 5 0 ah.length,.int aq,.xs 4 5 0 ai.length,.q ar],.a [.int t1,.int t2,.int t3,.int t4,.int t5,.int t6,.int t7],.s (.vz ae l),.int many] [.rs ab aj,.rs ag ak,.rs ag an,.rs ae ah,.rs ae ai]) _
 let g':=(t1,t2,t3,t4,t5,t6,t7)
 let A':=(aj,ak,an,ao,ah,aq,ai,ar)
 obtain⟨oN,sS,(ak7:l.length=16),xB,EW,(hg:ah.length≤1047000),(hd:ai.length≤1047000)⟩:=hp
 have oN:ay.wf A':=oN
 have sS:bf.rd g':=sS
 have amj:=IT A' g'
 have ala:=ML (s:=A') sS
 have hdb:=pn many
 refine⟨⟨tv2,aa⟩,λx1 w2=>⟨⟨⟨⟨⟨?_,?_⟩,⟨?_,?_⟩,⟨?_,?_⟩,aa,⟨?_,?_⟩,aa,⟨?_,?_⟩,tv2⟩,tv8,aa⟩,?_⟩,λx3 w4=>⟨aa,⟨?_,?_,?_⟩,⟨⟨?_,?_⟩,aa⟩,aa,?_⟩⟩⟩
 all_goals first|refine aw ?_|refine ax ?_|exact a8|(dsimp only [dD,fe,fO,ig,j0,kX,j4,k6,cJ,dH,gP];omega)|exact a7|exact oN.rd|(show 0+((l.drop _).take _).length≤1048576;rw [ZB9,ZC8];omega)|skip
 refine cN (l:=[(105,dD),(143,fO),(144,j0),(145,j4),(95,cJ)]) (ex:=zT) (wr:=zF) (pt:=λd=>Nat.beq d 77) ⟨jU,pd,wN,wQ,gx,trivial⟩ [.s 3,.s 4,.s 5,.b 1005,.s 8,.b 1008,.s 9,.b 1009,.s 11,.s 12,.b 310000] (λy:Int×ay×List Pt×List Pt×Nat=>[(.s 13,.s (.xs 1035 5 0 y.2.2.1.length)),(.s 14,.s (.xs 1036 5 0 y.2.2.2.1.length)),(.s 15,.int y.1),(.b 1004,.a (kW 0 1 2 3 4 y.2.1)),(.b 0,.rs ab y.2.1.rows),(.b 1,.rs ag y.2.1.refs),(.b 2,.rs ag y.2.1.last),(.b 3,.rs ae y.2.1.gone),(.b 4,.rs ae y.2.1.dead),(.b 1035,.rs ae y.2.2.1),(.b 1036,.rs ae y.2.2.2.1)]) (λy=>(y.2.1.wf∧y.2.1.gone.length≤1047000∧y.2.1.dead.length≤1047000)∧(1≤y.1∧y.1≤3∧y.1+y.2.2.2.2=4)∧(y.1=bj many→y.2.2.1.length≤4)∧y.2.2.1.length≤16∧y.2.2.2.1.length≤100*y.1.toNat∧mm y.2.2.2.2 y.2.1 g' (bj many) y.1 y.2.2.1 y.2.2.2.1=mm 3 A' g' (bj many) 1 (l.take many.toNat) []) (λy=>(3-y.1).toNat) (1,A',l.take many.toNat,[],3) [] ⟨⟨oN,hg,hd⟩,⟨ZC1 _,by show (1:Int)≤3;omega,rfl⟩,λh=>by have h:1=bj many:=h;have:=aeV h.symm;show (l.take many.toNat).length≤4;rw [ZB9];omega,by show (l.take many.toNat).length≤16;rw [ZB9];omega,ZA7 _,rfl⟩ dM ?_
 rintro⟨lv,s,li,st,f⟩ ⟨⟨(hw:s.wf),(hsg:s.gone.length≤1047000),(xn:s.dead.length≤1047000)⟩,⟨(amh:1≤lv),(amg:lv≤3),(hf:lv+(f:Int)=4)⟩,(hd4:lv=bj many→li.length≤4),(hli:li.length≤16),(hst:st.length≤100*lv.toNat),(hr:mm f s g' (bj many) lv li st=mm 3 A' g' (bj many) 1 (l.take many.toNat) [])⟩
 refine⟨λw1=>⟨⟨⟨⟨⟨?_,?_⟩,⟨?_,?_⟩,⟨?_,?_⟩,aa,⟨?_,?_⟩,aa,⟨?_,?_⟩,tv2⟩,tv8,tv3⟩,?_⟩,λx2 w3=>⟨aa,?_⟩⟩,λw4=>?_⟩
 all_goals first|refine aw ?_|refine ax ?_|exact a8|(dsimp only [dD,fe,fO,ig,j0,kX,j4,k6,cJ,dH,gP];omega)|exact a7|exact hw.rd|skip
 ·have amf:lv≤bj many:=aJ w1
  have hcd:decide (lv≤bj many)=true:=w1
  obtain⟨g,rfl⟩:∃g,f=g+1:=⟨f-1,by omega⟩
  have hwl:=adi s g' (bj many) lv
  have hwo:=Y7 (s:=s) (d:=bj many) (lv:=lv) sS
  refine cN (l:=[(105,dD),(143,fO),(144,j0),(145,j4),(95,cJ)]) (ex:=zT) (wr:=zF) (pt:=λd=>Nat.beq d 77) ⟨jU,pd,wN,wQ,gx,trivial⟩ [.s 3,.s 4,.s 5,.b 1005,.s 8,.b 1008,.s 9,.b 1009,.s 11,.s 12,.b 310000,.s 14,.b 1036,.s 15,.b 1004,.b 0,.b 1,.b 2,.b 3,.b 4,.s 16,.b 470000,.s 17,.b 1047] (λy:List Pt×Nat=>[(.s 13,.s (.xs 1035 5 0 y.1.length)),(.b 1035,.rs ae y.1)]) (λy=>B6 y.2 y.1=eK li∧y.1.length≤16∧(4≤y.2+y.1.length % 4∨y.1.length % 4=0)) (λy=>y.2) (li,4) [] ⟨rfl,hli,by show 4≤4+li.length % 4∨_;omega⟩ dM ?_
  rintro⟨lp,pf⟩ ⟨(hp1:B6 pf lp=eK li),(hp2:lp.length≤16),(hp3:4≤pf+lp.length % 4∨lp.length % 4=0)⟩
  refine⟨⟨?_,?_⟩,λw1=>⟨aa,⟨⟨?_,?_⟩,?_,?_⟩,?_⟩,λw2=>?_⟩
  all_goals first|refine aw ?_|refine ax ?_|exact a8|(dsimp only [dD,fe,fO,ig,j0,kX,j4,k6,cJ,dH,gP];omega)|exact a7|skip
  ·have h4:¬lp.length % 4=0:=λh=>by have:=aJ (p:=(lp.length:Int) % 4≠0) w1;omega
   obtain⟨k,rfl⟩:∃k,pf=k+1:=⟨pf-1,by omega⟩
   refine⟨(lp++[bM],k),[(1035,1055)],?_,?_,?_⟩
   rotate_right
   ·exact bV
   ·refine⟨by rw [←hp1,acX w1],by show (lp++[bM]).length≤16;rw [ZA0];show lp.length+1≤16;omega,?_⟩
    show 4≤k+(lp++[bM]).length % 4∨(lp++[bM]).length % 4=0
    rw [ZA0];show 4≤k+(lp.length+1) % 4∨(lp.length+1) % 4=0;omega
   ·exact ZD9 k
  ·have e:lp=eK li:=by rw [←hp1,acY w2]
   clear hp1 hp3
   subst e
   have rT:=HF li
   refine cN (l:=[(105,dD),(143,fO),(144,j0),(145,j4),(95,cJ)]) (ex:=zT) (wr:=zF) (pt:=λd=>Nat.beq d 77) ⟨jU,pd,wN,wQ,gx,aa⟩ [.s 3,.s 4,.s 5,.b 1005,.s 8,.b 1008,.s 9,.b 1009,.s 11,.s 12,.b 310000,.s 13,.b 1035,.s 15,.s 16,.b 470000] (λy:Nat×ay×List Pt×List Pt×Nat=>[(.s 14,.s (.xs 1036 5 0 y.2.2.2.1.length)),(.s 17,.s (.xs 1047 5 0 y.2.2.1.length)),(.s 18,.int y.1),(.b 1004,.a (kW 0 1 2 3 4 y.2.1)),(.b 0,.rs ab y.2.1.rows),(.b 1,.rs ag y.2.1.refs),(.b 2,.rs ag y.2.1.last),(.b 3,.rs ae y.2.1.gone),(.b 4,.rs ae y.2.1.dead),(.b 1036,.rs ae y.2.2.2.1),(.b 1047,.rs ae y.2.2.1)]) (λy=>(y.2.1.wf∧y.2.1.gone.length≤1047000∧y.2.1.dead.length≤1047000)∧y.1*4≤(eK li).length∧y.2.2.1.length=y.1∧y.2.2.2.1.length≤st.length+y.1∧y.1+y.2.2.2.2=5∧fI y.2.2.2.2 y.2.1 lv (dL s g' (bj many) lv) (eK li) y.1 y.2.2.1 y.2.2.2.1=fI 5 s lv (dL s g' (bj many) lv) (eK li) 0 [] st) (λy=>5-y.1) (0,s,[],st,5) [] ⟨⟨hw,hsg,xn⟩,ZA7 _,rfl,ZB5 _,rfl,rfl⟩ dM ?_
   rintro⟨i,u,nx,sy,f2⟩ ⟨⟨(hu:u.wf),(hug:u.gone.length≤1047000),(hud:u.dead.length≤1047000)⟩,(hi4:i*4≤(eK li).length),(hnx:nx.length=i),(hsy:sy.length≤st.length+i),(hf2:i+f2=5),(ke:fI f2 u lv (dL s g' (bj many) lv) (eK li) i nx sy=fI 5 s lv (dL s g' (bj many) lv) (eK li) 0 [] st)⟩
   have hic:decide ((i:Int)*4<((eK li).length:Int))=true→i*4<(eK li).length∧i<(dL s g' (bj many) lv).length∧i≤3:=λh=>by
    have h1:=aJ h
    refine⟨by omega,?_,by omega⟩
    by_cases hh:lv=bj many
    ·have:=hd4 hh;omega
    ·have:=hwl.2.1 hh;omega
   have hoa:=nT (oC hwo i)
   refine⟨⟨?_,?_⟩,λw1=>⟨[.s 4,.b 1004],Sq64,ζ,Sq13,Sq65,ζ,Sq18,Sq66,ζ,Sq66,Sq67,ζ,⟨?_,?_⟩,Sq18,Sq68,ζ,Sq68,Sq69,ζ,⟨?_,?_⟩,Sq69,Sq70,ζ,⟨?_,?_⟩,[.s 65,.s 67,.s 70],Sq71,ζ,⟨?_,?_,?_⟩,Sq15,Sq72,ζ,Sq16,Sq73,ζ,Sq18,Sq74,ζ,[.s 73,.s 74],Sq75,ζ,⟨?_,?_⟩,[.s 75,.b 470000],Sq76,ζ,?_,[.s 64,.s 71,.s 72,.s 76,.b 0,.b 1,.b 2,.b 3,.b 4,.b 1035],[.s 77,.b 0,.b 1,.b 2,.b 3,.b 4],ζ,⟨⟨tv9,?_,aa,tv6,aa⟩,⟨?_,?_,?_,?_,?_⟩,?_,?_,?_,?_⟩,?_,λx2 w3=>⟨Sq77,Sq63,ζ,Sq63,Sq78,ζ,Sq63,Sq79,ζ,Sq63,Sq80,ζ,[.b 1019],[.s 19,.b 1019],ζ,[.b 1020],[.s 20,.b 1020],ζ,[.s 19,.s 78,.b 1019],[.b 1019],ζ,[.s 20,.s 79,.b 1020],[.b 1020],ζ,Sq80,Sq21,ζ,λw4=>?_,λw5=>⟨[.s 20,.b 1020],Sq86,ζ,Sq16,Sq87,ζ,Sq18,Sq88,ζ,[.s 87,.s 88],Sq89,ζ,⟨?_,?_⟩,[.s 89,.b 470000],Sq90,ζ,?_,[.s 86,.s 90],Sq91,ζ,λw6=>⟨aa,⟨⟨?_,?_⟩,?_,?_⟩,aa,⟨⟨?_,?_⟩,?_,?_⟩,⟨?_,?_⟩,?_⟩,λw7=>⟨aa,⟨⟨?_,?_⟩,?_,?_⟩,⟨?_,?_⟩,?_⟩⟩⟩⟩,λw8=>⟨⟨?_,?_⟩,?_⟩⟩
   all_goals first|refine aw ?_|refine ax ?_|exact a8|(dsimp only [dD,fe,fO,ig,j0,kX,j4,k6,cJ,dH,gP];omega)|exact a7|exact hu.n.1|exact hu.n.2.1|exact hu.n.2.2|exact⟨hu.n⟩|exact (hic w1).2.1|(show (i:Int)<((dL s g' (bj many) lv).length:Int);have:=hic w1;omega)|(show ((List.drop _ (eK li)).take _).length≤1000000;rw [ZB9,ZC8];omega)|exact hoa.1|exact hoa.2|(have:=hic w1;show _≤_;omega)|skip
   ·obtain⟨k,rfl⟩:∃k,f2=k+1:=⟨f2-1,by have:=hic w1;omega⟩
    have aek:(ee u (qO (eK li) i) lv (nth ae (dL s g' (bj many) lv) i)).1=u:=ab3 (xm w4)
    have e0:fI 5 s lv (dL s g' (bj many) lv) (eK li) 0 [] st=(u,none):=by rw [←ke,agd w1 (show (!(ee u (qO (eK li) i) lv (nth ae (dL s g' (bj many) lv) i)).2.2)=true from w4),aek]
    have e1:mm 3 A' g' (bj many) 1 (l.take many.toNat) []=(u,none):=by rw [←hr,O6 hcd e0]
    have e:bQ A' g' l many=(u,ny,false):=by unfold bQ;rw [e1];rfl
    refine⟨[],[],_,_,_,ζ,az,false,2,(by show false=(bQ A' g' l many).2.2;rw [e]),?_,?_,ζ⟩
    ·(show _=mF A' g' l many false);unfold mF;first|(rw [e];exact congrArg (λx:ay=>GF x++[AV.zz,AV.zz]) aek)|(rw [e];rfl)|rfl
    ·(show _=qi A' g' l many false);unfold qi;first|(rw [e];exact congrArg (λx:ay=>GF x++[AV.zz,AV.zz]) aek)|(rw [e];rfl)|rfl
   ·obtain⟨k,rfl⟩:∃k,f2=k+1:=⟨f2-1,by have:=hic w1;omega⟩
    have ad6:=C6 u (qO (eK li) i) lv (nth ae (dL s g' (bj many) lv) i)
    refine⟨(i+1,(ee u (qO (eK li) i) lv (nth ae (dL s g' (bj many) lv) i)).1,nx++[(ee u (qO (eK li) i) lv (nth ae (dL s g' (bj many) lv) i)).2.1],sy++[(ee u (qO (eK li) i) lv (nth ae (dL s g' (bj many) lv) i)).2.1],k),[(1047,1099),(1036,1095)],?_,?_,?_⟩
    rotate_right
    ·exact bV
    ·refine⟨⟨PQ hu,by show (ee u (qO (eK li) i) lv (nth ae (dL s g' (bj many) lv) i)).1.gone.length≤_;rw [ad6.1];exact hug,by show (ee u (qO (eK li) i) lv (nth ae (dL s g' (bj many) lv) i)).1.dead.length≤_;rw [ad6.2.1];exact hud⟩,by show (i+1)*4≤(eK li).length;have:=hic w1;omega,by show List.length (_++_)=_;rw [ZA0,hnx];rfl,?_,by show i+1+k=5;omega,?_⟩
     ·show (sy++[(ee u (qO (eK li) i) lv (nth ae (dL s g' (bj many) lv) i)).2.1]).length≤st.length+(i+1);rw [ZA0];show sy.length+1≤_;omega
     ·rw [←ke,aae w1 (show (!(ee u (qO (eK li) i) lv (nth ae (dL s g' (bj many) lv) i)).2.2)=false from w5),show ptrEq (ee u (qO (eK li) i) lv (nth ae (dL s g' (bj many) lv) i)).2.1 (nth ae (dL s g' (bj many) lv) i)=true from w6];rfl
    ·show 5-(i+1)<5-i;have:=hic w1;omega
   ·obtain⟨k,rfl⟩:∃k,f2=k+1:=⟨f2-1,by have:=hic w1;omega⟩
    have ad6:=C6 u (qO (eK li) i) lv (nth ae (dL s g' (bj many) lv) i)
    refine⟨(i+1,(ee u (qO (eK li) i) lv (nth ae (dL s g' (bj many) lv) i)).1,nx++[(ee u (qO (eK li) i) lv (nth ae (dL s g' (bj many) lv) i)).2.1],sy,k),[(1047,1099)],?_,?_,?_⟩
    rotate_right
    ·exact bV
    ·refine⟨⟨PQ hu,by show (ee u (qO (eK li) i) lv (nth ae (dL s g' (bj many) lv) i)).1.gone.length≤_;rw [ad6.1];exact hug,by show (ee u (qO (eK li) i) lv (nth ae (dL s g' (bj many) lv) i)).1.dead.length≤_;rw [ad6.2.1];exact hud⟩,by show (i+1)*4≤(eK li).length;have:=hic w1;omega,by show List.length (_++_)=_;rw [ZA0,hnx];rfl,?_,by show i+1+k=5;omega,?_⟩
     ·show sy.length≤st.length+(i+1);omega
     ·rw [←ke,aae w1 (show (!(ee u (qO (eK li) i) lv (nth ae (dL s g' (bj many) lv) i)).2.2)=false from w5),show ptrEq (ee u (qO (eK li) i) lv (nth ae (dL s g' (bj many) lv) i)).2.1 (nth ae (dL s g' (bj many) lv) i)=false from w7];rfl
    ·show 5-(i+1)<5-i;have:=hic w1;omega
   ·have e0:fI 5 s lv (dL s g' (bj many) lv) (eK li) 0 [] st=(u,some (nx,sy)):=by rw [←ke,age w8]
    have FL:¬i*4<(eK li).length:=by have:=aA (p:=(i:Int)*4<((eK li).length:Int)) w8;omega
    refine⟨(lv+1,u,nx,sy,g),[(1035,1047)],?_,?_,?_⟩
    rotate_right
    ·exact bV
    ·refine⟨⟨hu,hug,hud⟩,⟨by show 1≤lv+1;omega,by show lv+1≤3;omega,by show lv+1+(g:Int)=4;omega⟩,λ_=>by show nx.length≤4;omega,by show nx.length≤16;omega,by show sy.length≤100*(lv+1).toNat;omega,?_⟩
     rw [←hr,O5 hcd e0]
    ·show (3-(lv+1)).toNat<(3-lv).toNat;omega
 ·have e1:mm 3 A' g' (bj many) 1 (l.take many.toNat) []=(s,some (li,st)):=by rw [←hr,O7 w4]
  refine cN (l:=[(105,dD),(143,fO),(144,j0),(145,j4),(95,cJ)]) (ex:=zT) (wr:=zF) (pt:=λd=>Nat.beq d 77) ⟨jU,pd,wN,wQ,gx,aa⟩ [.s 3,.s 4,.s 8,.b 1008,.s 9,.b 1009,.s 11,.s 12,.b 310000,.s 13,.b 1035,.s 14,.b 1036] (λy:Nat×ay=>[(.s 22,.int y.1),(.b 1004,.a (kW 0 1 2 1000000001 1000000002 y.2)),(.b 0,.rs ab y.2.rows),(.b 1,.rs ag y.2.refs),(.b 2,.rs ag y.2.last),(.b 1000000001,.rs ae y.2.gone),(.b 1000000002,.rs ae y.2.dead)]) (λy=>y.2.wf∧y.1≤(bw A' g').length∧(y.2.gone.length≤1047000+y.1∧y.2.dead.length≤1047000+y.1)∧dX ((bw A' g').drop y.1) st y.2=dX (bw A' g') st s) (λy=>(bw A' g').length-y.1) (0,s) [(1000000001,3),(1000000002,4)] ⟨hw,ZA7 _,⟨hsg,xn⟩,rfl⟩ dM ?_
  rintro⟨i,u⟩ ⟨(hu:u.wf),(hi:i≤(bw A' g').length),⟨(hug:u.gone.length≤1047000+i),(hud:u.dead.length≤1047000+i)⟩,(ke:dX ((bw A' g').drop i) st u=dX (bw A' g') st s)⟩
  have cO:i<(bw A' g').length→(bw A' g').drop i=nth ae (bw A' g') i::(bw A' g').drop (i+1):=λh=>bW (ek:=ae) h
  have hia:=nT (oC ala i)
  have cm:decide ((i:Int)<((bw A' g').length:Int))=true→i<(bw A' g').length:=λh=>by have:=aJ h;omega
  refine⟨λw1=>?_,λw2=>⟨λw3=>⟨⟨?_,?_⟩,?_,[.s 4,.b 1004],Sq140,ζ,[.s 25,.b 1025],Sq141,ζ,Sq11,Sq142,ζ,Sq3,Sq143,ζ,[.s 141,.s 142,.s 143],Sq144,ζ,[.s 8,.s 140,.b 1008],[.b 1008],ζ,[.s 9,.s 144,.b 1009],[.b 1009],ζ,[],Sq10,ζ,?_⟩,λw4=>⟨[.s 4,.b 1004],Sq140,ζ,[.s 25,.b 1025],Sq141,ζ,Sq11,Sq142,ζ,Sq3,Sq143,ζ,[.s 141,.s 142,.s 143],Sq144,ζ,[.s 8,.s 140,.b 1008],[.b 1008],ζ,[.s 9,.s 144,.b 1009],[.b 1009],ζ,[],Sq10,ζ,?_⟩⟩⟩
  all_goals first|refine aw ?_|refine ax ?_|exact a8|(dsimp only [dD,fe,fO,ig,j0,kX,j4,k6,cJ,dH,gP];omega)|exact a7|skip
  ·have hci:decide ((i:Int)<((bw A' g').length:Int))=true:=w1
   have aei:=cm hci
   refine cN (l:=[(105,dD),(143,fO),(144,j0),(145,j4),(95,cJ)]) (ex:=zT) (wr:=zF) (pt:=λd=>Nat.beq d 77) ⟨jU,pd,wN,wQ,gx,aa⟩ [.s 3,.s 4,.s 8,.b 1008,.s 9,.b 1009,.s 11,.s 12,.b 310000,.s 13,.b 1035,.s 14,.b 1036,.s 22,.b 1004,.b 0,.b 1,.b 2,.b 1000000001,.b 1000000002] (λy:Nat×Bool=>[(.s 23,.s (.q y.2)),(.s 24,.int y.1)]) (λy=>y.1≤st.length∧(y.2||gW (st.drop y.1) (nth ae (bw A' g') i))=gW st (nth ae (bw A' g') i)) (λy=>st.length-y.1) (0,false) [] ⟨ZA7 _,rfl⟩ dM ?_
   rintro⟨k,kp⟩ ⟨(hk:k≤st.length),(hkr:(kp||gW (st.drop k) (nth ae (bw A' g') i))=gW st (nth ae (bw A' g') i))⟩
   have abT:decide ((k:Int)<(st.length:Int))=true→k<st.length:=λh=>by have:=aJ h;omega
   have hks:k<st.length→gW (st.drop k) (nth ae (bw A' g') i)=(ptrEq (nth ae st k) (nth ae (bw A' g') i)||gW (st.drop (k+1)) (nth ae (bw A' g') i)):=λh=>by rw [bW (ek:=ae) h];rfl
   refine⟨λw1=>⟨Sq23,Sq113,ζ,Sq113,Sq114,ζ,aa,λw2=>⟨Sq114,Sq115,ζ,Sq114,Sq116,ζ,Sq114,Sq117,ζ,Sq114,Sq118,ζ,Sq114,Sq119,ζ,Sq114,Sq120,ζ,Sq114,Sq121,ζ,Sq114,Sq122,ζ,Sq114,Sq123,ζ,[.s 114,.s 123],Sq124,ζ,Sq124,Sq23,ζ,⟨?_,?_⟩,?_⟩,λw3=>⟨[.s 114,.s 14],Sq115,ζ,[.s 114,.s 24],Sq116,ζ,[.s 114,.s 115,.s 116],Sq117,ζ,⟨?_,?_⟩,[.s 114,.s 117,.b 1036],Sq118,ζ,?_,[.s 114,.s 12],Sq119,ζ,[.s 114,.s 22],Sq120,ζ,[.s 114,.s 119,.s 120],Sq121,ζ,⟨?_,?_⟩,[.s 114,.s 121,.b 310000],Sq122,ζ,?_,[.s 114,.s 118,.s 122],Sq123,ζ,[.s 114,.s 123],Sq124,ζ,Sq124,Sq23,ζ,⟨?_,?_⟩,?_⟩⟩,λw4=>⟨λw5=>⟨[.s 4,.b 1004],Sq127,ζ,Sq12,Sq128,ζ,Sq22,Sq129,ζ,[.s 128,.s 129],Sq130,ζ,⟨?_,?_⟩,[.s 130,.b 310000],Sq131,ζ,?_,[.s 127,.s 131,.b 0,.b 1,.b 2,.b 1000000001,.b 1000000002,.b 1001330001,.b 1001330000],[.s 132,.b 0,.b 1,.b 2,.b 1000000001,.b 1000000002,.b 1001330000,.b 1001330001],ζ,⟨⟨tv9,tv6,aa⟩,⟨?_,?_,?_,?_,?_⟩,⟨?_,?_,?_⟩,?_,?_,?_,?_⟩,?_,λx6 w7=>⟨[.s 4,.s 132,.b 1004],[.b 1004],ζ,⟨?_,?_⟩,?_⟩⟩,λw8=>⟨⟨?_,?_⟩,?_⟩⟩⟩
   all_goals first|refine aw ?_|refine ax ?_|exact a8|(dsimp only [dD,fe,fO,ig,j0,kX,j4,k6,cJ,dH,gP];omega)|exact a7|exact abT w1|exact aei|exact aJ hci|exact hu.n.1|exact hu.n.2.1|exact hu.n.2.2|exact hia.1|exact hia.2|(show u.gone.length≤1048000;omega)|(show u.dead.length≤1048000;omega)|skip
   ·refine⟨(k+1,true),[],?_,?_,?_⟩
    rotate_right
    ·exact bV
    ·exact⟨abT w1,by show (true||_)=_;rw [←hkr,show kp=true from w2];rfl⟩
    ·show st.length-(k+1)<st.length-k;have:=abT w1;omega
   ·refine⟨(k+1,ptrEq (nth ae st k) (nth ae (bw A' g') i)),[],?_,?_,?_⟩
    rotate_right
    ·exact bV
    ·exact⟨abT w1,by show (ptrEq (nth ae st k) (nth ae (bw A' g') i)||gW (st.drop (k+1)) (nth ae (bw A' g') i))=_;rw [←hkr,show kp=false from w3,hks (abT w1)];rfl⟩
    ·show st.length-(k+1)<st.length-k;have:=abT w1;omega
   ·have ak8:¬k<st.length:=by have:=aA (p:=(k:Int)<(st.length:Int)) w4;omega
    have e:gW st (nth ae (bw A' g') i)=false:=by rw [←hkr,show kp=false from xm w5,ZB3 (by omega)];rfl
    have I3:=pg u (nth ae (bw A' g') i)
    refine⟨(i+1,cM u (nth ae (bw A' g') i)),[(1000000001,1001330000),(1000000002,1001330001)],?_,?_,?_⟩
    rotate_right
    ·exact bV
    ·exact⟨qq hu,aei,⟨by show (cM u (nth ae (bw A' g') i)).gone.length≤1047000+(i+1);omega,by show (cM u (nth ae (bw A' g') i)).dead.length≤1047000+(i+1);omega⟩,by rw [←ke,cO aei,TS e]⟩
    ·show (bw A' g').length-(i+1)<(bw A' g').length-i;omega
   ·have ak8:¬k<st.length:=by have:=aA (p:=(k:Int)<(st.length:Int)) w4;omega
    have e:gW st (nth ae (bw A' g') i)=true:=by rw [←hkr,show kp=true from cL w8];rfl
    refine⟨(i+1,u),[],?_,?_,?_⟩
    rotate_right
    ·exact bV
    ·exact⟨hu,aei,⟨by show u.gone.length≤1047000+(i+1);omega,by show u.dead.length≤1047000+(i+1);omega⟩,by rw [←ke,cO aei,TR e]⟩
    ·show (bw A' g').length-(i+1)<(bw A' g').length-i;omega
  ·have alc:¬i<(bw A' g').length:=by have:=aA (p:=(i:Int)<((bw A' g').length:Int)) w2;omega
   have e2:dX (bw A' g') st s=u:=by rw [←ke,ZB3 (by omega)];rfl
   have e:bQ A' g' l many=(u,LY (nth ae li 0) (bj many) many,true):=by
    unfold bQ;rw [e1];show (dX (bw A' g') st s,LY (rootOf li) (bj many) many,true)=_
    rw [e2,rootOf,show decide ((li.length:Int)>0)=true from w3];rfl
   refine⟨[1000000001,1000000002],[],_,_,_,ζ,az,true,0,(by show true=(bQ A' g' l many).2.2;rw [e]),?_,?_,ζ⟩
   ·(show _=mF A' g' l many true);unfold mF;first|(rw [e];rfl)|rfl
   ·(show _=qi A' g' l many true);unfold qi;first|(rw [e];rfl)|rfl
  ·have alc:¬i<(bw A' g').length:=by have:=aA (p:=(i:Int)<((bw A' g').length:Int)) w2;omega
   have e2:dX (bw A' g') st s=u:=by rw [←ke,ZB3 (by omega)];rfl
   have e:bQ A' g' l many=(u,LY bM (bj many) many,true):=by
    unfold bQ;rw [e1];show (dX (bw A' g') st s,LY (rootOf li) (bj many) many,true)=_
    rw [e2,rootOf,show decide ((li.length:Int)>0)=false from w4];rfl
   refine⟨[1000000001,1000000002],[],_,_,_,ζ,az,true,0,(by show true=(bQ A' g' l many).2.2;rw [e]),?_,?_,ζ⟩
   ·(show _=mF A' g' l many true);unfold mF;first|(rw [e];rfl)|rfl
   ·(show _=qi A' g' l many true);unfold qi;first|(rw [e];rfl)|rfl
end GL
namespace GL
structure um (s u:ay):Prop where
 wf:u.wf
 gone:u.gone=s.gone
 dead:u.dead=s.dead
 cg:u.cg=s.cg
 bZ:u.bZ=s.bZ
 same:u.same=s.same
theorem um.trans {a b c:ay}(h:um a b) (h2:um b c):um a c:=⟨h2.wf,h2.gone.trans h.gone,h2.dead.trans h.dead,h2.cg.trans h.cg,h2.bZ.trans h.bZ,h2.same.trans h.same⟩
theorem ab4 {s:ay}{l:List Pt}{lv:Int}{o:Pt}(h:s.wf):um s (ee s l lv o).1:=by
 obtain⟨h1,h2,h3,h4,h5⟩:=C6 s l lv o
 exact⟨PQ h,h1,h2,h3,h4,h5⟩
theorem DL {s:ay}{text:ByteArray}{lv:Int}(h:s.wf):um s (bd s text lv).1:=by
 refine⟨AY h,?_,?_,?_,?_,?_⟩<;>
 ·rcases jL s text lv with ⟨_,e⟩ |⟨k,_,e,_⟩<;>rw [e]<;>rfl
theorem JD {lv:Int}{ka l:List Pt}:∀{f:Nat}{s:ay}{i:Nat}{nx sy:List Pt},s.wf→um s (fI f s lv ka l i nx sy).1
 |0,s,i,nx,sy,h=>⟨h,rfl,rfl,rfl,rfl,rfl⟩
 |f+1,s,i,nx,sy,h=>by
  unfold fI
  cases decide ((i:Int)*4<l.length) with
  |false=>exact⟨h,rfl,rfl,rfl,rfl,rfl⟩
  |true=>
   have h1:=ab4 (l:=qO l i) (lv:=lv) (o:=nth ae ka i) h
   cases !(ee s (qO l i) lv (nth ae ka i)).2.2 with
   |true=>exact h1
   |false=>exact h1.trans (JD h1.wf)
theorem wM {t:bf}{d:Int}:∀{f:Nat}{s:ay}{lv:Int}{l sy:List Pt},s.wf→um s (mm f s t d lv l sy).1
 |0,s,lv,l,sy,h=>⟨h,rfl,rfl,rfl,rfl,rfl⟩
 |f+1,s,lv,l,sy,h=>by
  unfold mm
  cases decide (lv≤d) with
  |false=>exact⟨h,rfl,rfl,rfl,rfl,rfl⟩
  |true=>
   have h1:=JD (f:=5) (lv:=lv) (ka:=dL s t d lv) (l:=eK l) (i:=0) (nx:=[]) (sy:=sy) h
   simp only [cond_true]
   cases hf:fI 5 s lv (dL s t d lv) (eK l) 0 [] sy with
   |mk s' r=>
    rw [hf] at h1
    cases r with
    |none=>exact h1
    |some q=>exact h1.trans (wM h1.wf)
theorem C1:∀{l sy:List Pt}{s:ay},s.wf→(dX l sy s).wf∧(dX l sy s).gone.length≤s.gone.length+l.length∧(dX l sy s).dead.length≤s.dead.length+l.length
 |[],sy,s,h=>⟨h,ZB5 _,ZB5 _⟩
 |o::l,sy,s,h=>by
  unfold dX
  cases gW sy o with
  |true=>
   have:=C1 (l:=l) (sy:=sy) h
   rw [ZA1]
   exact⟨this.1,by have:=this.2.1;show (dX l sy s).gone.length≤_;omega,by have:=this.2.2;show (dX l sy s).dead.length≤_;omega⟩
  |false=>
   have h1:=C1 (l:=l) (sy:=sy) (qq (p:=o) h)
   have h2:=pg s o
   rw [ZA1]
   exact⟨h1.1,by have:=h1.2.1;show (dX l sy (cM s o)).gone.length≤_;omega,by have:=h1.2.2;show (dX l sy (cM s o)).dead.length≤_;omega⟩
theorem FF {s:ay}{t:bf}{l:List Pt}{many:Int}(h:s.wf):(bQ s t l many).1.wf∧(bQ s t l many).1.gone.length≤s.gone.length+5∧(bQ s t l many).1.dead.length≤s.dead.length+5∧((bQ s t l many).2.2=false→(bQ s t l many).1.gone=s.gone∧(bQ s t l many).1.dead=s.dead):=by
 unfold bQ
 have h1:=wM (f:=3) (t:=t) (d:=bj many) (lv:=1) (l:=l.take many.toNat) (sy:=[]) h
 cases hf:mm 3 s t (bj many) 1 (l.take many.toNat) [] with
 |mk s' r=>
  rw [hf] at h1
  have h1:um s s':=h1
  cases r with
  |none=>exact⟨h1.wf,by show s'.gone.length≤_;rw [h1.gone];omega,by show s'.dead.length≤_;rw [h1.dead];omega,λ_=>⟨h1.gone,h1.dead⟩⟩
  |some q=>
   have h2:=C1 (l:=bw s t) (sy:=q.2) h1.wf
   have h3:=IT s t
   rw [h1.gone,h1.dead] at h2
   exact⟨h2.1,ZB0 h2.2.1 (by omega),ZB0 h2.2.2 (by omega),λh=>by cases h⟩
def pS (s:ay) (t:bf) (leaves:List Pt) (k:Nat) (p:Pt) (many:Int) (old:Pt):ay×bf×Bool:=
 bif !(bQ s t (leaves.set k p) many).2.2 then ((bQ s t (leaves.set k p) many).1,(bQ s t (leaves.set k p) many).2.1,false)
 else (bif !(ptrEq p old) then cM (bQ s t (leaves.set k p) many).1 old else (bQ s t (leaves.set k p) many).1,(bQ s t (leaves.set k p) many).2.1,true)
def bN (t:bf) (k:Int):Int:=max t.many (k+1)
def dV (s:ay) (t:bf) (k:Int):Pt:=nth ae (aB s t) k.toNat
def gU (s:ay) (t:bf) (k:Int):ByteArray:=(bF s (dV s t k)).1
def aY (s:ay) (t:bf) (k:Int) (text:ByteArray):ay×bf×Bool:=
 bif decide (gU s t k=text)&&decide (bN t k=t.many) then (s,t,true) else
 bif decide (gU s t k≠text) then
  (bif decide (text≠⟨#[]⟩) then
   (bif !(bd s text 0).2.2 then (s,t,false) else pS (bd s text 0).1 t (aB s t) k.toNat (bd s text 0).2.1 (bN t k) (dV s t k))
  else pS s t (aB s t) k.toNat bM (bN t k) (dV s t k))
 else pS s t (aB s t) k.toNat (dV s t k) (bN t k) (dV s t k)
def fK (S:ay) (t:bf) (k:Int) (text:ByteArray):Prop:=S.wf∧t.rd∧0≤k∧k≤15∧t.many≤16∧S.gone.length≤1046000∧S.dead.length≤1046000∧text.size≤1000000
def aaV (S:ay) (t:bf) (k:Int) (text:ByteArray) (z:Bool):Prop:=z=(aY S t k text).2.2
def gR (S:ay) (t:bf) (k:Int) (text:ByteArray) (z:Bool):AV:=match z with |true=>.t [.a (kW 0 1 2 5 6 (aY S t k text).1),trA (aY S t k text).2.1,.s (.q true)] |false=>.t [.a (kW 0 1 2 3 4 (aY S t k text).1),trA (aY S t k text).2.1,.s (.q false)]
def jo (S:ay) (t:bf) (k:Int) (text:ByteArray) (z:Bool):List AV:=match z with |true=>[.rs ab (aY S t k text).1.rows,.rs ag (aY S t k text).1.refs,.rs ag (aY S t k text).1.last,.zz,.zz,.rs ae (aY S t k text).1.gone,.rs ae (aY S t k text).1.dead] |false=>GF (aY S t k text).1++[.zz,.zz]
def ez:cn where
 A:=[.a (stB 0 1 2 3 4),.a [.int,.int,.int,.int,.int,.int,.int],.s .int,.s .str]
 B:=[.r ab,.r ag,.r ag,.r ae,.r ae]
 pre:=λx b=>stW x.1 b∧fK (gP x.1 b) (x.2.1) (x.2.2.1) (x.2.2.2)
 α:=λ_ _=>Bool
 φ:=λx b z=>aaV (gP x.1 b) (x.2.1) (x.2.2.1) (x.2.2.2) z
 r:=λx b z=>gR (gP x.1 b) (x.2.1) (x.2.2.1) (x.2.2.2) z
 o:=λx b z=>jo (gP x.1 b) (x.2.1) (x.2.2.1) (x.2.2.2) z
 nf:=2
 mv:=true
theorem lY:Has Tryz.prog 60 ez:=by
 refine Has.ofP 8 zT zF zF (l:=[(70,ey),(71,eA),(93,nb),(94,j1),(95,cJ)]) ⟨lX,lZ,CQ,wO,gx,aa⟩ Tryz.func60 ?_
 rintro⟨⟨(AU:Nat),(AT:Nat),(AS:Nat),(ao:Int),(AR:Nat),(aq:Int),(AQ:Nat),(ar:Bool)⟩,⟨(t1:Int),(t2:Int),(t3:Int),(t4:Int),(t5:Int),(t6:Int),(t7:Int)⟩,(k:Int),(text:ByteArray)⟩ ⟨(aj:List ByteArray),(ak:List Int),(an:List Int),(ah:List Pt),(ai:List Pt)⟩ ⟨⟨(gC:AU=List.length aj),(gB:AT=List.length ak),(gA:AS=List.length an),(gz:AR=List.length ah),(gy:AQ=List.length ai)⟩,(hp:fK (aj,ak,an,ao,ah,aq,ai,ar) (t1,t2,t3,t4,t5,t6,t7) k text)⟩
 subst gC gB gA gz gy
 show vcP _ _ _ _ 8 _ (entry [.a [.xs 0 1 0 aj.length,.xs 1 1 0 ak.length,.xs 2 1 0 an.length,.int ao,.xs 3 5 0 ah.length,.int aq,.xs 4 5 0 ai.length,.q ar],.a [.int t1,.int t2,.int t3,.int t4,.int t5,.int t6,.int t7],.int k,.str text] [.rs ab aj,.rs ag ak,.rs ag an,.rs ae ah,.rs ae ai])
 obtain⟨oN,sS,hk0,EX,(hm:t7≤16),(hg:ah.length≤1046000),(hd:ai.length≤1046000),hts⟩:=hp
 have oN:ay.wf (aj,ak,an,ao,ah,aq,ai,ar):=oN
 have sS:bf.rd (t1,t2,t3,t4,t5,t6,t7):=sS
 have hwl:=gi (s:=(aj,ak,an,ao,ah,aq,ai,ar)) sS
 have hwo:=lA (s:=(aj,ak,an,ao,ah,aq,ai,ar)) sS
 have hoa:=nT (oC hwo k.toNat)
 have h64:aj.length=64:=oN.n.1
 have ak2:0≤bN (t1,t2,t3,t4,t5,t6,t7) k:=by show 0≤max t7 (k+1);omega
 have ak1:bN (t1,t2,t3,t4,t5,t6,t7) k≤16:=by show max t7 (k+1)≤16;omega
 refine zb (l:=[(70,ey),(71,eA),(93,nb),(94,j1),(95,cJ)]) (ex:=zT) (wr:=zF) (pt:=zF) ⟨lX,lZ,CQ,wO,gx,aa⟩ (λy:ay×Pt=>[(.s 2,.int k),(.s 4,.s (.bp 1004 0)),(.s 5,.s (.bp 1005 0)),(.s 8,.s (.bp 1008 0)),(.s 9,.s (.bp 1009 0)),(.s 11,.s (.xs 240000 5 0 (aB (aj,ak,an,ao,ah,aq,ai,ar) (t1,t2,t3,t4,t5,t6,t7)).length)),(.s 12,.s (.bp 1012 0)),(.s 15,.int (bN (t1,t2,t3,t4,t5,t6,t7) k)),(.s 16,.s (.bp 1016 0)),(.b 1004,.a (kW 0 1 2 3 4 y.1)),(.b 0,.rs ab y.1.rows),(.b 1,.rs ag y.1.refs),(.b 2,.rs ag y.1.last),(.b 3,.rs ae y.1.gone),(.b 4,.rs ae y.1.dead),(.b 1005,.a [.int t1,.int t2,.int t3,.int t4,.int t5,.int t6,.int t7]),(.b 1008,.a (uF pB.zero)),(.b 1009,.a (uF sV.zero)),(.b 240000,.rs ae (aB (aj,ak,an,ao,ah,aq,ai,ar) (t1,t2,t3,t4,t5,t6,t7))),(.b 1012,.a (EK.AX ae (dV (aj,ak,an,ao,ah,aq,ai,ar) (t1,t2,t3,t4,t5,t6,t7) k))),(.b 1016,.a (EK.AX ae y.2))]) (λy=>y.1.wf∧(y.1.gone.length≤1046000∧y.1.dead.length≤1046000)∧aY (aj,ak,an,ao,ah,aq,ai,ar) (t1,t2,t3,t4,t5,t6,t7) k text=pS y.1 (t1,t2,t3,t4,t5,t6,t7) (aB (aj,ak,an,ao,ah,aq,ai,ar) (t1,t2,t3,t4,t5,t6,t7)) k.toNat y.2 (bN (t1,t2,t3,t4,t5,t6,t7) k) (dV (aj,ak,an,ao,ah,aq,ai,ar) (t1,t2,t3,t4,t5,t6,t7) k)) (xc 8 (J9 Tryz.f60)) ?_ (λtail=>?_)
 ·rintro⟨u,p⟩ ⟨(hu:u.wf),⟨(hug:u.gone.length≤1046000),(hud:u.dead.length≤1046000)⟩,(hM:aY (aj,ak,an,ao,ah,aq,ai,ar) (t1,t2,t3,t4,t5,t6,t7) k text=pS u (t1,t2,t3,t4,t5,t6,t7) (aB (aj,ak,an,ao,ah,aq,ai,ar) (t1,t2,t3,t4,t5,t6,t7)) k.toNat p (bN (t1,t2,t3,t4,t5,t6,t7) k) (dV (aj,ak,an,ao,ah,aq,ai,ar) (t1,t2,t3,t4,t5,t6,t7) k))⟩
  have hly:=FF (t:=(t1,t2,t3,t4,t5,t6,t7)) (l:=(aB (aj,ak,an,ao,ah,aq,ai,ar) (t1,t2,t3,t4,t5,t6,t7)).set k.toNat p) (many:=bN (t1,t2,t3,t4,t5,t6,t7) k) hu
  refine⟨⟨?_,?_⟩,?_,⟨⟨tv9,tv8,⟨?_,?_⟩,tv2⟩,⟨?_,?_,?_,?_,?_⟩,?_,?_,?_,?_,?_,?_,?_⟩,λ|false=>λw1=>⟨λw2=>⟨[.s 4,.b 1004],Sq85,ζ,[.s 5,.b 1005],Sq86,ζ,[.s 8,.s 85,.b 1008],[.b 1008],ζ,[.s 9,.s 86,.b 1009],[.b 1009],ζ,[],Sq10,ζ,?_⟩,λw3=>⟨λw4=>⟨⟨⟨tv9,tv6,aa⟩,⟨?_,?_,?_,?_,?_⟩,⟨?_,?_,?_⟩,?_,?_,?_,?_⟩,λx5 w6=>⟨[.s 4,.b 1004],Sq93,ζ,[.s 5,.b 1005],Sq94,ζ,[.s 8,.s 93,.b 1008],[.b 1008],ζ,[.s 9,.s 94,.b 1009],[.b 1009],ζ,[],Sq10,ζ,?_⟩⟩,λw7=>⟨[.s 4,.b 1004],Sq93,ζ,[.s 5,.b 1005],Sq94,ζ,[.s 8,.s 93,.b 1008],[.b 1008],ζ,[.s 9,.s 94,.b 1009],[.b 1009],ζ,[],Sq10,ζ,?_⟩⟩⟩ |true=>λw8=>⟨λw9=>⟨[.s 4,.b 1004],Sq85,ζ,[.s 5,.b 1005],Sq86,ζ,[.s 8,.s 85,.b 1008],[.b 1008],ζ,[.s 9,.s 86,.b 1009],[.b 1009],ζ,[],Sq10,ζ,?_⟩,λdy=>⟨λkA=>⟨⟨⟨tv9,tv6,aa⟩,⟨?_,?_,?_,?_,?_⟩,⟨?_,?_,?_⟩,?_,?_,?_,?_⟩,λx12 iU=>⟨[.s 4,.b 1004],Sq93,ζ,[.s 5,.b 1005],Sq94,ζ,[.s 8,.s 93,.b 1008],[.b 1008],ζ,[.s 9,.s 94,.b 1009],[.b 1009],ζ,[],Sq10,ζ,?_⟩⟩,λgO=>⟨[.s 4,.b 1004],Sq93,ζ,[.s 5,.b 1005],Sq94,ζ,[.s 8,.s 93,.b 1008],[.b 1008],ζ,[.s 9,.s 94,.b 1009],[.b 1009],ζ,[],Sq10,ζ,?_⟩⟩⟩⟩
  all_goals first|refine aw ?_|refine ax ?_|exact a8|(dsimp only [ey,fU,eA,fV,nb,nM,j1,kY,cJ,dH,gP];omega)|exact a7|exact absurd (show true=false from w3) Bool.noConfusion|exact absurd (show false=true from w9) Bool.noConfusion|exact hu|exact sS|exact ZC3.symm|(show ((aB (aj,ak,an,ao,ah,aq,ai,ar) (t1,t2,t3,t4,t5,t6,t7)).set k.toNat p).length=16;rw [ZC3];exact hwl)|exact ak2|exact ak1|exact ZB0 hug (by decide)|exact ZB0 hud (by decide)|exact hly.1.n.1|exact hly.1.n.2.1|exact hly.1.n.2.2|exact hoa.1|exact hoa.2|exact ZB0 hly.2.1 (by omega)|exact ZB0 hly.2.2.1 (by omega)|skip
  ·have hz:(bQ u (t1,t2,t3,t4,t5,t6,t7) ((aB (aj,ak,an,ao,ah,aq,ai,ar) (t1,t2,t3,t4,t5,t6,t7)).set k.toNat p) (bN (t1,t2,t3,t4,t5,t6,t7) k)).2.2=false:=(show false=(bQ u (t1,t2,t3,t4,t5,t6,t7) ((aB (aj,ak,an,ao,ah,aq,ai,ar) (t1,t2,t3,t4,t5,t6,t7)).set k.toNat p) (bN (t1,t2,t3,t4,t5,t6,t7) k)).2.2 from w1).symm
   have e:(aY (aj,ak,an,ao,ah,aq,ai,ar) (t1,t2,t3,t4,t5,t6,t7) k text)=((bQ u (t1,t2,t3,t4,t5,t6,t7) ((aB (aj,ak,an,ao,ah,aq,ai,ar) (t1,t2,t3,t4,t5,t6,t7)).set k.toNat p) (bN (t1,t2,t3,t4,t5,t6,t7) k)).1,(bQ u (t1,t2,t3,t4,t5,t6,t7) ((aB (aj,ak,an,ao,ah,aq,ai,ar) (t1,t2,t3,t4,t5,t6,t7)).set k.toNat p) (bN (t1,t2,t3,t4,t5,t6,t7) k)).2.1,false):=by rw [hM];unfold pS;rw [hz];rfl
   refine⟨[],[],_,_,_,ζ,az,false,2,(by show false=(aY (aj,ak,an,ao,ah,aq,ai,ar) (t1,t2,t3,t4,t5,t6,t7) k text).2.2;rw [e]),?_,?_,ζ⟩
   ·(show _=gR (aj,ak,an,ao,ah,aq,ai,ar) (t1,t2,t3,t4,t5,t6,t7) k text false);unfold gR;first|(rw [e];rfl)|rfl
   ·(show _=jo (aj,ak,an,ao,ah,aq,ai,ar) (t1,t2,t3,t4,t5,t6,t7) k text false);unfold jo;first|(rw [e];rfl)|rfl
  ·exact absurd (show true=false from w3) Bool.noConfusion
  ·exact absurd (show true=false from w3) Bool.noConfusion
  ·exact absurd (show false=true from w9) Bool.noConfusion
  ·have hz:(bQ u (t1,t2,t3,t4,t5,t6,t7) ((aB (aj,ak,an,ao,ah,aq,ai,ar) (t1,t2,t3,t4,t5,t6,t7)).set k.toNat p) (bN (t1,t2,t3,t4,t5,t6,t7) k)).2.2=true:=(show true=(bQ u (t1,t2,t3,t4,t5,t6,t7) ((aB (aj,ak,an,ao,ah,aq,ai,ar) (t1,t2,t3,t4,t5,t6,t7)).set k.toNat p) (bN (t1,t2,t3,t4,t5,t6,t7) k)).2.2 from w8).symm
   have hpe:(!(ptrEq p (dV (aj,ak,an,ao,ah,aq,ai,ar) (t1,t2,t3,t4,t5,t6,t7) k)))=true:=kA
   have e:(aY (aj,ak,an,ao,ah,aq,ai,ar) (t1,t2,t3,t4,t5,t6,t7) k text)=(cM (bQ u (t1,t2,t3,t4,t5,t6,t7) ((aB (aj,ak,an,ao,ah,aq,ai,ar) (t1,t2,t3,t4,t5,t6,t7)).set k.toNat p) (bN (t1,t2,t3,t4,t5,t6,t7) k)).1 (dV (aj,ak,an,ao,ah,aq,ai,ar) (t1,t2,t3,t4,t5,t6,t7) k),(bQ u (t1,t2,t3,t4,t5,t6,t7) ((aB (aj,ak,an,ao,ah,aq,ai,ar) (t1,t2,t3,t4,t5,t6,t7)).set k.toNat p) (bN (t1,t2,t3,t4,t5,t6,t7) k)).2.1,true):=by rw [hM];unfold pS;rw [hz,hpe];rfl
   refine⟨[1000930000,1000930001],[],_,_,_,ζ,az,true,0,(by show true=(aY (aj,ak,an,ao,ah,aq,ai,ar) (t1,t2,t3,t4,t5,t6,t7) k text).2.2;rw [e]),?_,?_,ζ⟩
   ·(show _=gR (aj,ak,an,ao,ah,aq,ai,ar) (t1,t2,t3,t4,t5,t6,t7) k text true);unfold gR;first|(rw [e];rfl)|rfl
   ·(show _=jo (aj,ak,an,ao,ah,aq,ai,ar) (t1,t2,t3,t4,t5,t6,t7) k text true);unfold jo;first|(rw [e];rfl)|rfl
  ·have hz:(bQ u (t1,t2,t3,t4,t5,t6,t7) ((aB (aj,ak,an,ao,ah,aq,ai,ar) (t1,t2,t3,t4,t5,t6,t7)).set k.toNat p) (bN (t1,t2,t3,t4,t5,t6,t7) k)).2.2=true:=(show true=(bQ u (t1,t2,t3,t4,t5,t6,t7) ((aB (aj,ak,an,ao,ah,aq,ai,ar) (t1,t2,t3,t4,t5,t6,t7)).set k.toNat p) (bN (t1,t2,t3,t4,t5,t6,t7) k)).2.2 from w8).symm
   have hpe:(!(ptrEq p (dV (aj,ak,an,ao,ah,aq,ai,ar) (t1,t2,t3,t4,t5,t6,t7) k)))=false:=gO
   have e:(aY (aj,ak,an,ao,ah,aq,ai,ar) (t1,t2,t3,t4,t5,t6,t7) k text)=((bQ u (t1,t2,t3,t4,t5,t6,t7) ((aB (aj,ak,an,ao,ah,aq,ai,ar) (t1,t2,t3,t4,t5,t6,t7)).set k.toNat p) (bN (t1,t2,t3,t4,t5,t6,t7) k)).1,(bQ u (t1,t2,t3,t4,t5,t6,t7) ((aB (aj,ak,an,ao,ah,aq,ai,ar) (t1,t2,t3,t4,t5,t6,t7)).set k.toNat p) (bN (t1,t2,t3,t4,t5,t6,t7) k)).2.1,true):=by rw [hM];unfold pS;rw [hz,hpe];rfl
   refine⟨[1000800000,1000800001],[],_,_,_,ζ,az,true,0,(by show true=(aY (aj,ak,an,ao,ah,aq,ai,ar) (t1,t2,t3,t4,t5,t6,t7) k text).2.2;rw [e]),?_,?_,ζ⟩
   ·(show _=gR (aj,ak,an,ao,ah,aq,ai,ar) (t1,t2,t3,t4,t5,t6,t7) k text true);unfold gR;first|(rw [e];rfl)|rfl
   ·(show _=jo (aj,ak,an,ao,ah,aq,ai,ar) (t1,t2,t3,t4,t5,t6,t7) k text true);unfold jo;first|(rw [e];rfl)|rfl
 ·refine⟨⟨⟨⟨⟨?_,?_⟩,⟨?_,?_⟩,⟨?_,?_⟩,aa,⟨?_,?_⟩,aa,⟨?_,?_⟩,tv2⟩,tv8,aa⟩,?_,?_⟩,λx1 w2=>⟨⟨?_,?_⟩,?_,⟨⟨⟨⟨?_,?_⟩,⟨?_,?_⟩,⟨?_,?_⟩,aa,⟨?_,?_⟩,aa,⟨?_,?_⟩,tv2⟩,tv6,aa⟩,λx3 w4=>?_,?_,?_⟩,λx5 w6=>⟨⟨?_,?_⟩,aa,λw7=>⟨λw8=>⟨[.s 4,.b 1004],Sq48,ζ,[.s 5,.b 1005],Sq49,ζ,[.s 8,.s 48,.b 1008],[.b 1008],ζ,[.s 9,.s 49,.b 1009],[.b 1009],ζ,[],Sq10,ζ,?_⟩,λw9=>⟨λdy=>⟨λkA=>⟨⟨⟨tv9,tv3⟩,⟨?_,?_,?_,?_,?_⟩,⟨?_,?_,?_⟩,?_⟩,λx12 iU=>⟨λgO=>⟨[.s 4,.b 1004],Sq66,ζ,[.s 5,.b 1005],Sq67,ζ,[.s 8,.s 66,.b 1008],[.b 1008],ζ,[.s 9,.s 67,.b 1009],[.b 1009],ζ,[],Sq10,ζ,?_⟩,λqK=>?_⟩⟩,λkg=>?_⟩,λxh=>?_⟩⟩,λrS=>⟨λoL=>⟨λuI=>⟨⟨⟨tv9,tv3⟩,⟨?_,?_,?_,?_,?_⟩,⟨?_,?_,?_⟩,?_⟩,λx21 A3=>⟨λxK=>⟨[.s 4,.b 1004],Sq66,ζ,[.s 5,.b 1005],Sq67,ζ,[.s 8,.s 66,.b 1008],[.b 1008],ζ,[.s 9,.s 67,.b 1009],[.b 1009],ζ,[],Sq10,ζ,?_⟩,λrR=>?_⟩⟩,λw25=>?_⟩,λw26=>?_⟩⟩⟩⟩
  all_goals first|refine aw ?_|refine ax ?_|exact a8|(dsimp only [ey,fU,eA,fV,nb,nM,j1,kY,cJ,dH,gP];omega)|exact a7|exact absurd (aJ w7) (aJ dy)|exact oN.rd|exact sS|exact oN.sz _ w4|exact hoa.1|(show _<(aj.length:Int);rw [h64];exact hoa.2)|exact oN.n.1|exact oN.n.2.1|exact oN.n.2.2|skip
  ·have c1:decide (gU (aj,ak,an,ao,ah,aq,ai,ar) (t1,t2,t3,t4,t5,t6,t7) k=text)=true:=w7
   have c2:decide (bN (t1,t2,t3,t4,t5,t6,t7) k=bf.many (t1,t2,t3,t4,t5,t6,t7))=true:=w8
   have e:(aY (aj,ak,an,ao,ah,aq,ai,ar) (t1,t2,t3,t4,t5,t6,t7) k text)=((aj,ak,an,ao,ah,aq,ai,ar),(t1,t2,t3,t4,t5,t6,t7),true):=by unfold aY;rw [c1,c2];rfl
   refine⟨[3,4],[],_,_,_,ζ,az,true,0,(by show true=(aY (aj,ak,an,ao,ah,aq,ai,ar) (t1,t2,t3,t4,t5,t6,t7) k text).2.2;rw [e]),?_,?_,ζ⟩
   ·(show _=gR (aj,ak,an,ao,ah,aq,ai,ar) (t1,t2,t3,t4,t5,t6,t7) k text true);unfold gR;first|(rw [e];rfl)|rfl
   ·(show _=jo (aj,ak,an,ao,ah,aq,ai,ar) (t1,t2,t3,t4,t5,t6,t7) k text true);unfold jo;first|(rw [e];rfl)|rfl
  ·exact absurd (aJ w7) (aJ dy)
  ·exact absurd (aJ w7) (aJ dy)
  ·exact absurd (aJ w7) (aJ dy)
  ·have c1:decide (gU (aj,ak,an,ao,ah,aq,ai,ar) (t1,t2,t3,t4,t5,t6,t7) k=text)=true:=w7
   have c2:decide (bN (t1,t2,t3,t4,t5,t6,t7) k=bf.many (t1,t2,t3,t4,t5,t6,t7))=false:=w9
   have c3:decide (gU (aj,ak,an,ao,ah,aq,ai,ar) (t1,t2,t3,t4,t5,t6,t7) k≠text)=false:=xh
   have e:(aY (aj,ak,an,ao,ah,aq,ai,ar) (t1,t2,t3,t4,t5,t6,t7) k text)=pS (aj,ak,an,ao,ah,aq,ai,ar) (t1,t2,t3,t4,t5,t6,t7) (aB (aj,ak,an,ao,ah,aq,ai,ar) (t1,t2,t3,t4,t5,t6,t7)) k.toNat (dV (aj,ak,an,ao,ah,aq,ai,ar) (t1,t2,t3,t4,t5,t6,t7) k) (bN (t1,t2,t3,t4,t5,t6,t7) k) (dV (aj,ak,an,ao,ah,aq,ai,ar) (t1,t2,t3,t4,t5,t6,t7) k):=by unfold aY;rw [c1,c2,c3];rfl
   refine joinTail tail (((aj,ak,an,ao,ah,aq,ai,ar),dV (aj,ak,an,ao,ah,aq,ai,ar) (t1,t2,t3,t4,t5,t6,t7) k)) [] ((⟨oN,⟨hg,hd⟩,e⟩)) ?_
   repeat' (first|exact trivial|rfl|exact rfl|exact fP ZA0.symm|apply And.intro)
  ·have c1:decide (gU (aj,ak,an,ao,ah,aq,ai,ar) (t1,t2,t3,t4,t5,t6,t7) k=text)=false:=rS
   have c3:decide (gU (aj,ak,an,ao,ah,aq,ai,ar) (t1,t2,t3,t4,t5,t6,t7) k≠text)=true:=oL
   have c4:decide (text≠⟨#[]⟩)=true:=uI
   have c5:(!(bd (aj,ak,an,ao,ah,aq,ai,ar) text 0).2.2)=true:=xK
   have e:(aY (aj,ak,an,ao,ah,aq,ai,ar) (t1,t2,t3,t4,t5,t6,t7) k text)=((aj,ak,an,ao,ah,aq,ai,ar),(t1,t2,t3,t4,t5,t6,t7),false):=by unfold aY;rw [c1,c3,c4,c5];rfl
   have e2:(bd (aj,ak,an,ao,ah,aq,ai,ar) text 0).1=(aj,ak,an,ao,ah,aq,ai,ar):=by
    rcases jL (aj,ak,an,ao,ah,aq,ai,ar) text 0 with ⟨_,h⟩ |⟨_,h,_⟩
    ·exact h
    ·rw [h] at c5;cases c5
   refine⟨[],[],_,_,_,ζ,az,false,2,(by show false=(aY (aj,ak,an,ao,ah,aq,ai,ar) (t1,t2,t3,t4,t5,t6,t7) k text).2.2;rw [e]),?_,?_,ζ⟩
   ·(show _=gR (aj,ak,an,ao,ah,aq,ai,ar) (t1,t2,t3,t4,t5,t6,t7) k text false);unfold gR;first|(rw [e];rfl)|(rw [e];exact congrArg (λx:ay=>GF x++[AV.zz,AV.zz]) e2)|rfl
   ·(show _=jo (aj,ak,an,ao,ah,aq,ai,ar) (t1,t2,t3,t4,t5,t6,t7) k text false);unfold jo;first|(rw [e];rfl)|(rw [e];exact congrArg (λx:ay=>GF x++[AV.zz,AV.zz]) e2)|rfl
  ·have c1:decide (gU (aj,ak,an,ao,ah,aq,ai,ar) (t1,t2,t3,t4,t5,t6,t7) k=text)=false:=rS
   have c3:decide (gU (aj,ak,an,ao,ah,aq,ai,ar) (t1,t2,t3,t4,t5,t6,t7) k≠text)=true:=oL
   have c4:decide (text≠⟨#[]⟩)=true:=uI
   have c5:(!(bd (aj,ak,an,ao,ah,aq,ai,ar) text 0).2.2)=false:=rR
   have hws:=DL (text:=text) (lv:=0) oN
   have e:(aY (aj,ak,an,ao,ah,aq,ai,ar) (t1,t2,t3,t4,t5,t6,t7) k text)=pS (bd (aj,ak,an,ao,ah,aq,ai,ar) text 0).1 (t1,t2,t3,t4,t5,t6,t7) (aB (aj,ak,an,ao,ah,aq,ai,ar) (t1,t2,t3,t4,t5,t6,t7)) k.toNat (bd (aj,ak,an,ao,ah,aq,ai,ar) text 0).2.1 (bN (t1,t2,t3,t4,t5,t6,t7) k) (dV (aj,ak,an,ao,ah,aq,ai,ar) (t1,t2,t3,t4,t5,t6,t7) k):=by unfold aY;rw [c1,c3,c4,c5];rfl
   refine joinTail tail (((bd (aj,ak,an,ao,ah,aq,ai,ar) text 0).1,(bd (aj,ak,an,ao,ah,aq,ai,ar) text 0).2.1)) [] ((⟨hws.wf,⟨(by show (bd (aj,ak,an,ao,ah,aq,ai,ar) text 0).1.gone.length≤1046000;rw [hws.gone];exact hg),(by show (bd (aj,ak,an,ao,ah,aq,ai,ar) text 0).1.dead.length≤1046000;rw [hws.dead];exact hd)⟩,e⟩)) ?_
   repeat' (first|exact trivial|rfl|exact rfl|exact fP ZA0.symm|apply And.intro)
  ·have c1:decide (gU (aj,ak,an,ao,ah,aq,ai,ar) (t1,t2,t3,t4,t5,t6,t7) k=text)=false:=rS
   have c3:decide (gU (aj,ak,an,ao,ah,aq,ai,ar) (t1,t2,t3,t4,t5,t6,t7) k≠text)=true:=oL
   have c4:decide (text≠⟨#[]⟩)=false:=w25
   have e:(aY (aj,ak,an,ao,ah,aq,ai,ar) (t1,t2,t3,t4,t5,t6,t7) k text)=pS (aj,ak,an,ao,ah,aq,ai,ar) (t1,t2,t3,t4,t5,t6,t7) (aB (aj,ak,an,ao,ah,aq,ai,ar) (t1,t2,t3,t4,t5,t6,t7)) k.toNat bM (bN (t1,t2,t3,t4,t5,t6,t7) k) (dV (aj,ak,an,ao,ah,aq,ai,ar) (t1,t2,t3,t4,t5,t6,t7) k):=by unfold aY;rw [c1,c3,c4];rfl
   refine joinTail tail (((aj,ak,an,ao,ah,aq,ai,ar),bM)) [] ((⟨oN,⟨hg,hd⟩,e⟩)) ?_
   repeat' (first|exact trivial|rfl|exact rfl|exact fP ZA0.symm|apply And.intro)
  ·exact absurd (aA rS) (aA w26)
