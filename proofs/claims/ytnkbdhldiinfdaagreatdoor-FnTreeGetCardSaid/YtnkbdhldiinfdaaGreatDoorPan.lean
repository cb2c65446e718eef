/- A drawn law returns true for every code (its row lists package variables, tied by the card): part 14. -/
import Derived.LoopN
import Derived.Test.YtnkbdhldiinfdaaGreatDoorPam
set_option maxHeartbeats 20000000
set_option maxRecDepth 100000
set_option linter.all false
namespace Go.Proofs.YtnkbdhldiinfdaaGreatDoor
namespace GL
def Has (P:Program) (f:FuncId) (c:cn):Prop:=wj P f c∧Enters P f
def look:List (FuncId×cn)→FuncId→Option cn
 |[],_=>none
 |p::l,f=>bif Nat.beq p.1 f then some p.2 else look l f
def gN (P:Program):List (FuncId×cn)→Prop
 |[]=>True
 |p::l=>Has P p.1 p.2∧gN P l
theorem H0 {P:Program}:∀{l:List (FuncId×cn)},gN P l→∀{f:FuncId}{c:cn},look l f=some c→Has P f c
 |[],_,f,c,h=>by cases h
 |p::l,hl,f,c,h=>by
  simp only [look] at h
  cases hb:Nat.beq p.1 f with
  |true=>
   rw [hb] at h
   have:p.1=f:=by simpa using hb
   cases h
   rw [←this];exact hl.1
  |false=>rw [hb] at h;exact H0 hl.2 h
def mkE (n:Nat) (l:List (FuncId×cn)) (ex wr pt:Nat→Bool):Env:=⟨n,tab,look l,ex,wr,pt⟩
theorem oF {n:Nat}{l:List (FuncId×cn)}{ex wr pt:Nat→Bool}(h:gN Tryz.prog l):AW Tryz.prog (mkE n l ex wr pt):=⟨acu,fun _ _ hc=>H0 h hc⟩
abbrev zT:Nat→Bool:=fun _=>true
abbrev Sq0:List fJ:=[.s 0]
abbrev Sq1:List fJ:=[.s 1]
abbrev Sq2:List fJ:=[.s 2]
abbrev Sq3:List fJ:=[.s 3]
abbrev Sq4:List fJ:=[.s 4]
abbrev Sq5:List fJ:=[.s 5]
abbrev Sq6:List fJ:=[.s 6]
abbrev Sq7:List fJ:=[.s 7]
abbrev Sq8:List fJ:=[.s 8]
abbrev Sq9:List fJ:=[.s 9]
abbrev Sq10:List fJ:=[.s 10]
abbrev Sq11:List fJ:=[.s 11]
abbrev Sq12:List fJ:=[.s 12]
abbrev Sq13:List fJ:=[.s 13]
abbrev Sq14:List fJ:=[.s 14]
abbrev Sq15:List fJ:=[.s 15]
abbrev Sq16:List fJ:=[.s 16]
abbrev Sq17:List fJ:=[.s 17]
abbrev Sq18:List fJ:=[.s 18]
abbrev Sq19:List fJ:=[.s 19]
abbrev Sq20:List fJ:=[.s 20]
abbrev Sq21:List fJ:=[.s 21]
abbrev Sq22:List fJ:=[.s 22]
abbrev Sq23:List fJ:=[.s 23]
abbrev Sq24:List fJ:=[.s 24]
abbrev Sq25:List fJ:=[.s 25]
abbrev Sq26:List fJ:=[.s 26]
abbrev Sq27:List fJ:=[.s 27]
abbrev Sq28:List fJ:=[.s 28]
abbrev Sq29:List fJ:=[.s 29]
abbrev Sq30:List fJ:=[.s 30]
abbrev Sq31:List fJ:=[.s 31]
abbrev Sq32:List fJ:=[.s 32]
abbrev Sq33:List fJ:=[.s 33]
abbrev Sq34:List fJ:=[.s 34]
abbrev Sq35:List fJ:=[.s 35]
abbrev Sq36:List fJ:=[.s 36]
abbrev Sq37:List fJ:=[.s 37]
abbrev Sq38:List fJ:=[.s 38]
abbrev Sq39:List fJ:=[.s 39]
abbrev Sq40:List fJ:=[.s 40]
abbrev Sq41:List fJ:=[.s 41]
abbrev Sq42:List fJ:=[.s 42]
abbrev Sq43:List fJ:=[.s 43]
abbrev Sq44:List fJ:=[.s 44]
abbrev Sq45:List fJ:=[.s 45]
abbrev Sq46:List fJ:=[.s 46]
abbrev Sq47:List fJ:=[.s 47]
abbrev Sq48:List fJ:=[.s 48]
abbrev Sq49:List fJ:=[.s 49]
abbrev Sq50:List fJ:=[.s 50]
abbrev Sq51:List fJ:=[.s 51]
abbrev Sq52:List fJ:=[.s 52]
abbrev Sq53:List fJ:=[.s 53]
abbrev Sq54:List fJ:=[.s 54]
abbrev Sq55:List fJ:=[.s 55]
abbrev Sq56:List fJ:=[.s 56]
abbrev Sq57:List fJ:=[.s 57]
abbrev Sq58:List fJ:=[.s 58]
abbrev Sq59:List fJ:=[.s 59]
abbrev Sq60:List fJ:=[.s 60]
abbrev Sq61:List fJ:=[.s 61]
abbrev Sq62:List fJ:=[.s 62]
abbrev Sq63:List fJ:=[.s 63]
abbrev Sq64:List fJ:=[.s 64]
abbrev Sq65:List fJ:=[.s 65]
abbrev Sq66:List fJ:=[.s 66]
abbrev Sq67:List fJ:=[.s 67]
abbrev Sq68:List fJ:=[.s 68]
abbrev Sq69:List fJ:=[.s 69]
abbrev Sq70:List fJ:=[.s 70]
abbrev Sq71:List fJ:=[.s 71]
abbrev Sq72:List fJ:=[.s 72]
abbrev Sq73:List fJ:=[.s 73]
abbrev Sq74:List fJ:=[.s 74]
abbrev Sq75:List fJ:=[.s 75]
abbrev Sq76:List fJ:=[.s 76]
abbrev Sq77:List fJ:=[.s 77]
abbrev Sq78:List fJ:=[.s 78]
abbrev Sq79:List fJ:=[.s 79]
abbrev Sq80:List fJ:=[.s 80]
abbrev Sq81:List fJ:=[.s 81]
abbrev Sq82:List fJ:=[.s 82]
abbrev Sq83:List fJ:=[.s 83]
abbrev Sq84:List fJ:=[.s 84]
abbrev Sq85:List fJ:=[.s 85]
abbrev Sq86:List fJ:=[.s 86]
abbrev Sq87:List fJ:=[.s 87]
abbrev Sq88:List fJ:=[.s 88]
abbrev Sq89:List fJ:=[.s 89]
abbrev Sq90:List fJ:=[.s 90]
abbrev Sq91:List fJ:=[.s 91]
abbrev Sq93:List fJ:=[.s 93]
abbrev Sq94:List fJ:=[.s 94]
abbrev Sq113:List fJ:=[.s 113]
abbrev Sq114:List fJ:=[.s 114]
abbrev Sq115:List fJ:=[.s 115]
abbrev Sq116:List fJ:=[.s 116]
abbrev Sq117:List fJ:=[.s 117]
abbrev Sq118:List fJ:=[.s 118]
abbrev Sq119:List fJ:=[.s 119]
abbrev Sq120:List fJ:=[.s 120]
abbrev Sq121:List fJ:=[.s 121]
abbrev Sq122:List fJ:=[.s 122]
abbrev Sq123:List fJ:=[.s 123]
abbrev Sq124:List fJ:=[.s 124]
abbrev Sq125:List fJ:=[.s 125]
abbrev Sq126:List fJ:=[.s 126]
abbrev Sq127:List fJ:=[.s 127]
abbrev Sq128:List fJ:=[.s 128]
abbrev Sq129:List fJ:=[.s 129]
abbrev Sq130:List fJ:=[.s 130]
abbrev Sq131:List fJ:=[.s 131]
abbrev Sq132:List fJ:=[.s 132]
abbrev Sq133:List fJ:=[.s 133]
abbrev Sq134:List fJ:=[.s 134]
abbrev Sq135:List fJ:=[.s 135]
abbrev Sq136:List fJ:=[.s 136]
abbrev Sq137:List fJ:=[.s 137]
abbrev Sq138:List fJ:=[.s 138]
abbrev Sq139:List fJ:=[.s 139]
abbrev Sq140:List fJ:=[.s 140]
abbrev Sq141:List fJ:=[.s 141]
abbrev Sq142:List fJ:=[.s 142]
abbrev Sq143:List fJ:=[.s 143]
abbrev Sq144:List fJ:=[.s 144]
abbrev zF:Nat→Bool:=fun _=>false
theorem Has.fm (ex wr pt:Nat→Bool) {l:List (FuncId×cn)}(hl:gN Tryz.prog l) {f:FuncId}{fn:Func}{cd:Code}{C:cn}(hf:Tryz.prog.funcs[f]?=some fn)
  (h : ∀ x y, C.pre x y → vc Tryz.prog fn.ntmps (sem (mkE fn.ntmps l ex wr pt)) cd (entry (APs.avs C.A x) (APs.avs C.B y)) (endQ (mkE fn.ntmps l ex wr pt).sh fn.results.toList C.B.length C.mv (fun r os => ∃ z, C.φ x y z ∧ r = C.r x y z ∧ os = C.o x y z ∧ os.length = C.B.length + C.nf))) (hb : fn.body = some cd := by exact rfl) (hnm : fn.name ≠ "runtime.NumGoroutine" := by decide) (hlen : C.A.length ≤ fn.ntmps := by exact zqNlb rfl) : Has Tryz.prog f C :=
 ⟨wj.of (oF hl) mixed hf hb rfl hlen h,fn,hf,by rw [hb];rfl,hnm⟩
theorem Has.of {l:List (FuncId×cn)}(hl:gN Tryz.prog l) {f:FuncId}{fn:Func}{cd:Code}{C:cn}(hf:Tryz.prog.funcs[f]?=some fn)
  (h : ∀ x y, C.pre x y → vc Tryz.prog fn.ntmps (sem (mkE fn.ntmps l (fun _ => true) (fun _ => false) (fun _ => false))) cd (entry (APs.avs C.A x) (APs.avs C.B y)) (endQ (mkE fn.ntmps l (fun _ => true) (fun _ => false) (fun _ => false)).sh fn.results.toList C.B.length C.mv (fun r os => ∃ z, C.φ x y z ∧ r = C.r x y z ∧ os = C.o x y z ∧ os.length = C.B.length + C.nf))) (hb : fn.body = some cd := by exact rfl) (hnm : fn.name ≠ "runtime.NumGoroutine" := by decide) (hlen : C.A.length ≤ fn.ntmps := by exact zqNlb rfl) : Has Tryz.prog f C :=
 Has.fm _ _ _ hl hf h hb hnm hlen
def cn.below (C:cn) (μ:APs.Ty C.A→APs.Ty C.B→Nat) (n:Nat):cn:= { C with pre:=fun x y=>C.pre x y∧μ x y<n }
theorem Has.akC (ex wr pt:Nat→Bool) {f:FuncId}{fn:Func}{cd:Code}{C:cn}(μ:APs.Ty C.A→APs.Ty C.B→Nat) {l:List (FuncId×cn)}(hl:gN Tryz.prog l) (hf:Tryz.prog.funcs[f]?=some fn)
  (h : ∀ x y, C.pre x y → Has Tryz.prog f (C.below μ (μ x y)) → vc Tryz.prog fn.ntmps (sem (mkE fn.ntmps ((f, C.below μ (μ x y)) :: l) ex wr pt)) cd (entry (APs.avs C.A x) (APs.avs C.B y)) (endQ (mkE fn.ntmps l ex wr pt).sh fn.results.toList C.B.length C.mv (fun r os => ∃ z, C.φ x y z ∧ r = C.r x y z ∧ os = C.o x y z ∧ os.length = C.B.length + C.nf))) (hb : fn.body = some cd := by exact rfl) (hnm : fn.name ≠ "runtime.NumGoroutine" := by decide) (hlen : C.A.length ≤ fn.ntmps := by exact zqNlb rfl) : Has Tryz.prog f C := by
 have hE:Enters Tryz.prog f:=⟨fn,hf,by rw [hb];rfl,hnm⟩
 have key:∀n,wj Tryz.prog f (C.below μ n):=by
  intro n
  induction n with
  |zero=>intro x y hp;exact absurd hp.2 (by omega)
  |succ n ih=>
   intro (x:APs.Ty C.A) (y:APs.Ty C.B) (hp:C.pre x y∧μ x y<n+1)
   have hm:Has Tryz.prog f (C.below μ (μ x y)):=⟨fun x' y' hp'=>ih x' y' ⟨hp'.1,by have:=hp.2;have h2:μ x' y' < μ x y:=hp'.2;omega⟩,hE⟩
   have hl':gN Tryz.prog ((f,C.below μ (μ x y))::l):=⟨hm,hl⟩
   have hx:(APs.avs C.A x).length≤fn.ntmps:=by rw [APs.fE];exact hlen
   have hy:(APs.avs C.B y).length=C.B.length:=APs.fE C.B y
   exact TC.tv (P:=Tryz.prog) (N:=fn.ntmps) (S:=sem (mkE fn.ntmps ((f,C.below μ (μ x y))::l) ex wr pt)) (sh:=(mkE fn.ntmps l ex wr pt).sh) (f:=f) (fn:=fn) (cd:=cd) (args:=APs.avs C.A x) (bs:=APs.avs C.B y) (mv:=C.mv) (post:=fun r os=>∃z,C.φ x y z∧r=C.r x y z∧os=C.o x y z∧os.length=C.B.length+C.nf) mixed (oz (oF (n:=fn.ntmps) (ex:=ex) (wr:=wr) (pt:=pt) hl')) (Env.DO (oF (n:=fn.ntmps) (ex:=ex) (wr:=wr) (pt:=pt) hl)) hf hb rfl hx (by rw [hy];exact h x y hp.1 hm)
 exact⟨fun x y hp=>key (μ x y+1) x y ⟨hp,by omega⟩,hE⟩
theorem TC.Y4 {P:Program}{f:FuncId}{mv:Bool}{args bs:List AV}{post zv:AV→List AV→Prop}(h:TC P f mv args bs post) (hp:∀r os,post r os→∃j,zv r (os++List.replicate j .zz)):TC P f mv args bs zv:=by
 intro W T β vs h1 h2 h3 h4 h5
 refine (h W T β vs h1 h2 h3 h4 h5).mono fun e w' ⟨v,r,os,T',β',e1,e2,e3,e4,e5,e6⟩=>?_
 obtain⟨j,hj⟩:=hp _ _ e2
 have tN:∀(i:Nat) (av:AV),(os++List.replicate j AV.zz)[i]?=some av→av≠.zz→os[i]?=some av:=by
  intro i av hi hz
  by_cases bU:i<os.length
  ·rwa [ZC2 bU] at hi
  ·rw [ZC6 (by omega)] at hi
   have:=ZB6 hi
   exact absurd (ZD6.1 this).2 hz
 have hlen:os.length≤(os++List.replicate j AV.zz).length:=by rw [ZA0];omega
 exact⟨v,r,_,T',β',e1,hj,e3,⟨fun i hi=>ZG3 (e4.1 i hi) hlen,e4.2⟩,e5,{
  len:=ZB0 e6.len hlen
  same:=e6.same
  at_:=fun i av hi hz=>by
   obtain⟨g1,g2,g3,g4,g5⟩:=e6.at_ i av (tN i av hi hz) hz
   exact⟨g1,g2,g3,fun j hj=>ZG3 (g4 j hj) hlen,g5⟩
  inj:=fun i k av av' hi hz hk hz' e=>e6.inj i k av av' (tN i av hi hz) hz (tN k av' hk hz') hz' e }⟩
theorem Has.ofZ (ex wr pt:Nat→Bool) {l:List (FuncId×cn)}(hl:gN Tryz.prog l) {f:FuncId}{fn:Func}{cd:Code}{C:cn}(hf:Tryz.prog.funcs[f]?=some fn)
  (h : ∀ x y, C.pre x y → vc Tryz.prog fn.ntmps (sem (mkE fn.ntmps l ex wr pt)) cd (entry (APs.avs C.A x) (APs.avs C.B y)) (endQ (mkE fn.ntmps l ex wr pt).sh fn.results.toList C.B.length C.mv (fun r os => ∃ z j, C.φ x y z ∧ r = C.r x y z ∧ os ++ List.replicate j .zz = C.o x y z ∧ (C.o x y z).length = C.B.length + C.nf))) (hb : fn.body = some cd := by exact rfl) (hnm : fn.name ≠ "runtime.NumGoroutine" := by decide) (hlen : C.A.length ≤ fn.ntmps := by exact zqNlb rfl) : Has Tryz.prog f C := by
 refine⟨fun x y hp=>?_,fn,hf,by rw [hb];rfl,hnm⟩
 have hx:(APs.avs C.A x).length≤fn.ntmps:=by rw [APs.fE];exact hlen
 have hy:(APs.avs C.B y).length=C.B.length:=APs.fE C.B y
 refine TC.Y4 (TC.tv (P:=Tryz.prog) (N:=fn.ntmps) (S:=sem (mkE fn.ntmps l ex wr pt)) (sh:=(mkE fn.ntmps l ex wr pt).sh) (f:=f) (fn:=fn) (cd:=cd) (args:=APs.avs C.A x) (bs:=APs.avs C.B y) (mv:=C.mv) (post:=fun r os=>∃z j,C.φ x y z∧r=C.r x y z∧os++List.replicate j .zz=C.o x y z∧(C.o x y z).length=C.B.length+C.nf) mixed (oz (oF (n:=fn.ntmps) (ex:=ex) (wr:=wr) (pt:=pt) hl)) (Env.DO (oF (n:=fn.ntmps) (ex:=ex) (wr:=wr) (pt:=pt) hl)) hf hb rfl hx (by rw [hy];exact h x y hp)) ?_
 rintro r os ⟨z,j,h1,h2,h3,h4⟩
 exact⟨j,z,h1,h2,h3,by rw [h3];exact h4⟩
def Wk (r' r:AV):Prop:=(∀(T:bb) (β:Nat→Nat) (v:Value),r.rel T β v→r'.rel T β v)∧(∀i∈r'.boxes,i∈r.boxes)∧(r.od=true→r'.od=true)
theorem Wk.refl (r:AV):Wk r r:=⟨fun _ _ _ h=>h,fun _ h=>h,fun h=>h⟩
theorem Wk.of_eq {r' r:AV}(h:r'=r):Wk r' r:=h ▸ Wk.refl _
theorem Wk.nil (ek:EK):Wk (.s (.vw ek [])) (.s (.v (.slice none 0 0))):=⟨fun _ _ v h=>.inl ⟨rfl,none,0,h⟩,fun i h=>by simp [AV.boxes,A0.boxes,SV.boxes] at h,fun _=>rfl⟩
def WkT:List A0→List A0→Prop
 |[],[]=>True
 |x::l,y::m=>Wk (.o x) (.o y)∧WkT l m
 |_,_=>False
theorem WkT.all:∀{l m:List A0},WkT l m→(∀(T:bb) (β:Nat→Nat) (vs:List Value),uD T β m vs→uD T β l vs)∧(∀i∈eS l,i∈eS m)∧(uB m=true→uB l=true)
 |[],[],_=>⟨fun _ _ _ h=>h,fun _ h=>h,fun h=>h⟩
 |[],_::_,h=>h.elim
 |_::_,[],h=>h.elim
 |x::l,y::m,h=>by
  obtain⟨a1,a2,a3⟩:=h.1
  obtain⟨b1,b2,b3⟩:=WkT.all h.2
  refine⟨fun T β vs hr=>?_,fun i hi=>?_,fun hf=>?_⟩
  ·cases vs with
   |nil=>exact hr.elim
   |cons v vs=>exact⟨a1 T β v hr.1,b1 T β vs hr.2⟩
  ·simp only [eS,ZB4] at hi ⊢
   rcases hi with hi |hi
   ·exact .inl (a2 i hi)
   ·exact .inr (b2 i hi)
  ·simp only [uB,ZA9] at hf ⊢
   exact⟨a3 hf.1,b3 hf.2⟩
theorem Wk.tup {l m:List A0}(h:WkT l m):Wk (.t l) (.t m):=
 ⟨fun T β v hr=>by obtain⟨vs,e,hl⟩:=hr;exact⟨vs,e,h.all.1 T β _ hl⟩,h.all.2.1,h.all.2.2⟩
theorem TC.aiA {P:Program}{f:FuncId}{mv:Bool}{args bs:List AV}{post zv:AV→List AV→Prop}(h:TC P f mv args bs post) (hp:∀r os,post r os→∃r' j,Wk r' r∧zv r' (os++List.replicate j .zz)):TC P f mv args bs zv:=by
 refine TC.Y4 (post:=fun r os=>∃j,zv r (os++List.replicate j .zz)) ?_ (fun r os h=>h)
 intro W T β vs h1 h2 h3 h4 h5
 refine (h W T β vs h1 h2 h3 h4 h5).mono fun e w' ⟨v,r,os,T',β',e1,e2,e3,e4,e5⟩=>?_
 obtain⟨r',j,hw,hj⟩:=hp _ _ e2
 exact⟨v,r',os,T',β',e1,⟨j,hj⟩,hw.1 _ _ _ e3,⟨fun i hi=>e4.1 i (hw.2.1 i hi),hw.2.2 e4.2⟩,e5⟩
theorem Has.ofW (ex wr pt:Nat→Bool) {l:List (FuncId×cn)}(hl:gN Tryz.prog l) {f:FuncId}{fn:Func}{cd:Code}{C:cn}(hf:Tryz.prog.funcs[f]?=some fn)
  (h : ∀ x y, C.pre x y → vc Tryz.prog fn.ntmps (sem (mkE fn.ntmps l ex wr pt)) cd (entry (APs.avs C.A x) (APs.avs C.B y)) (endQ (mkE fn.ntmps l ex wr pt).sh fn.results.toList C.B.length C.mv (fun r os => ∃ z j, C.φ x y z ∧ Wk (C.r x y z) r ∧ os ++ List.replicate j .zz = C.o x y z ∧ (C.o x y z).length = C.B.length + C.nf))) (hb : fn.body = some cd := by exact rfl) (hnm : fn.name ≠ "runtime.NumGoroutine" := by decide) (hlen : C.A.length ≤ fn.ntmps := by exact zqNlb rfl) : Has Tryz.prog f C := by
 refine⟨fun x y hp=>?_,fn,hf,by rw [hb];rfl,hnm⟩
 have hx:(APs.avs C.A x).length≤fn.ntmps:=by rw [APs.fE];exact hlen
 have hy:(APs.avs C.B y).length=C.B.length:=APs.fE C.B y
 refine TC.aiA (TC.tv (P:=Tryz.prog) (N:=fn.ntmps) (S:=sem (mkE fn.ntmps l ex wr pt)) (sh:=(mkE fn.ntmps l ex wr pt).sh) (f:=f) (fn:=fn) (cd:=cd) (args:=APs.avs C.A x) (bs:=APs.avs C.B y) (mv:=C.mv) (post:=fun r os=>∃z j,C.φ x y z∧Wk (C.r x y z) r∧os++List.replicate j .zz=C.o x y z∧(C.o x y z).length=C.B.length+C.nf) mixed (oz (oF (n:=fn.ntmps) (ex:=ex) (wr:=wr) (pt:=pt) hl)) (Env.DO (oF (n:=fn.ntmps) (ex:=ex) (wr:=wr) (pt:=pt) hl)) hf hb rfl hx (by rw [hy];exact h x y hp)) ?_
 rintro r os ⟨z,j,h1,h2,h3,h4⟩
 exact⟨C.r x y z,j,h2,z,h1,rfl,h3,by rw [h3];exact h4⟩
theorem aw {P:Program}{n:Nat}{S:Sm}{cd:Code}{τ:St}{Q':o6}(h:vc P n S cd τ Q'):vc P n S cd τ Q':=h
theorem ax {F:Oper→Q Rs}{l:List Oper}{τ:St}{K:St→Prop}(h:vcT F l τ K):vcT F l τ K:=h
theorem cN {l:List (FuncId×cn)}{n:Nat}{ex wr pt:Nat→Bool}(hl:gN Tryz.prog l) {τ:St}{Q':o6}{cd:Code}{ι:Type}(bZ:List fJ) (J:ι→AO) (φ:ι→Prop) (μ:ι→Nat) (x0:ι) (sg0:List (Nat×Nat)) (h0:φ x0) (hs:EO sg0 τ τ bZ (J x0))
  (tL:∀x,φ x→vc Tryz.prog n (sem (mkE n l ex wr pt)) cd ((oM τ bZ).ap (J x)) (zd (fun τ'=>∃y sg,φ y∧μ y < μ x∧EO sg τ τ' bZ (J y)) Q')):TW Tryz.prog n (.loop cd) τ Q':=
 agK (E:=mkE n l ex wr pt) (oF hl) mixed bZ J φ μ x0 sg0 h0 hs tL
abbrev X3 (A:List AP) (pre:APs.Ty A→Prop) (r:APs.Ty A→AV):cn where
 A:=A
 B:=[]
 pre:=fun x _=>pre x
 α:=fun _ _=>Unit
 φ:=fun _ _ _=>True
 r:=fun x _ _=>r x
 o:=fun _ _ _=>[]
 nf:=0
def ik (n lo hi:Int):Bool:=decide (lo≤n)&&decide (n≤hi)
theorem cC {n lo hi:Int}:ik n lo hi=true↔lo≤n∧n≤hi:=by simp [ik]
def hZ:cn:=X3 [.s .int,.s .int,.s .int] (fun _=>True) fun (n,lo,hi)=>.q (ik n lo hi)
theorem iA:Has Tryz.prog 35 hZ:=by
 refine Has.of (l:=[]) trivial Tryz.func35 ?_
 rintro⟨n,lo,hi⟩ _ _
 refine⟨aa,fun h1=>⟨[],[],_,_,_,rfl,⟨tv2,aa⟩,(),aa,?_,rfl,rfl⟩,fun h1=>⟨[],[],_,_,_,rfl,⟨tv2,aa⟩,(),aa,?_,rfl,rfl⟩⟩
 ·have h2:lo≤n:=by simpa using h1
  show AV.q (decide (n≤hi))=AV.q (decide (lo≤n)&&decide (n≤hi))
  simp [h2]
 ·have h2:¬lo≤n:=by simpa using h1
  show AV.q false=AV.q (decide (lo≤n)&&decide (n≤hi))
  simp [h2]
abbrev Pt:=Int×Int×Int×Int×Int
abbrev PtS:List SP:=[.int,.int,.int,.int,.int]
def au (p:Pt):Bool:=decide (p.1=0)&&(decide (p.2.1=0)&&(decide (p.2.2.1=0)&&(decide (p.2.2.2.1=0)&&decide (p.2.2.2.2=0))))
def cx:cn:=X3 [.a PtS] (fun _=>True) fun p=>.q (au p)
theorem cz:Has Tryz.prog 81 cx:=by
 refine Has.of (l:=[]) trivial Tryz.func81 ?_
 rintro⟨a,b,c,d,e⟩ _ _
 refine⟨[],[],_,_,_,rfl,⟨tv2,aa⟩,(),aa,?_,rfl,rfl⟩
 rfl
end GL
namespace GL
def vcP (P:Program) (N:Nat) (S:Sm) (Q':o6):Nat→Code→St→Prop
 |0,cd,τ=>TW P N cd τ Q'
 |n+1,.seq x y,τ=>vc P N S x τ (zd (fun τ'=>vcP P N S Q' n y τ') Q')
 |_+1,_,_=>False
theorem K7 {P:Program}{N:Nat}{S:Sm}{Q':o6}(hm:P.follows .mixedOrders=true) (hS:UP P N S):∀(n:Nat) (cd:Code) (τ:St),vcP P N S Q' n cd τ→TW P N cd τ Q'
 |0,cd,τ,h=>h
 |n+1,.seq x y,τ,h=>TW.seq ((gp hm hS x τ _ h).mono fun e τ' hq=>by
  cases e with
  |normal=>exact K7 hm hS n y τ' hq
  |_=>exact hq)
 |n+1,.skip,τ,h=>h.elim
 |n+1,.region _ _ _,τ,h=>h.elim
 |n+1,.cond _ _ _,τ,h=>h.elim
 |n+1,.block _ _,τ,h=>h.elim
 |n+1,.loop _,τ,h=>h.elim
 |n+1,.scope _,τ,h=>h.elim
 |n+1,.exit _,τ,h=>h.elim
 |n+1,.label _,τ,h=>h.elim
 |n+1,.ret,τ,h=>h.elim
 |n+1,.rangeFunc _ _ _ _,τ,h=>h.elim
 |n+1,.goto _,τ,h=>h.elim
 |n+1,.refuse _,τ,h=>h.elim
theorem TC.aiU {P:Program}{N:Nat}{sh:TypeId→Option (Bool×Nat)}{f:FuncId}{fn:Func}{cd:Code}{args bs:List AV}{mv:Bool}{post:AV→List AV→Prop}(hsh:∀t x,sh t=some x→Sh P t=some x)
  (hf:P.funcs[f]?=some fn) (hb:fn.body=some cd) (hN:fn.ntmps=N) (hlen:args.length≤N)
  (h:TW P N cd (entry args bs) (endQ sh fn.results.toList bs.length mv post)):TC P f mv args bs post:=by
 intro W T β0 vs hT hnf c6 hbx qo
 refine calls_of_wp hf hb ?_
 have hvl:=G0 c6
 let c:Ctx:=⟨W,T,(cD 0 bs.length).map β0⟩
 have hlb:∀i,live (entry args bs) i→i<bs.length:=fun i hi=>by
  obtain⟨av,hav⟩:=Option.ne_none_iff_exists'.1 (kD hi)
  rcases jB hav with ⟨j,e,_⟩ |⟨j,e,hj⟩
  ·cases e
  ·cases e;exact (ZC0.1 hj).1
 have ahX:Holds N c T β0 (entry args bs) { tmps:=vs.toArray++Array.replicate (fn.ntmps-vs.toArray.size) undef,defers:=[] } W:= {
  defs:=rfl
  size:=by simp;omega
  EB:=by show ((cD 0 bs.length).map β0).length≤1000;rw [ZG5,kI];exact qo.EB
  iJ:=fun i av hi=>by
   rcases jB hi with ⟨j,e,hj⟩ |⟨j,e,_⟩
   ·cases e
    obtain⟨v,hv,hr⟩:=N9 c6 hj
    refine⟨v,?_,hr⟩
    have CX:i<vs.length:=(ZC0.1 hv).1
    rw [Array.getElem?_append_left (by simpa using CX)]
    simpa using hv
   ·cases e
  boxes:=fun i av hi hz=>by
   rcases jB hi with ⟨j,e,_⟩ |⟨j,e,hj⟩
   ·cases e
   ·cases e;exact (qo.at_ i av hj).2.2.1
  apart:=fun i hi=>by
   have bU:=hlb i hi
   obtain⟨_,h1,_⟩:=qo.at_ i _ (ZB1 bU)
   have cm:β0 i∈(cD 0 bs.length).map β0:=List.mem_map.2 ⟨i,fY.2 ⟨by omega,by omega⟩,rfl⟩
   exact⟨h1,fun _=>cm,fun h=>absurd qo.EB (by omega),.inr cm⟩
  handed:=fun i b hb hi=>by
   have bU:=hlb i hi
   have hb':((cD 0 bs.length).map β0)[i]?=some b:=hb
   rw [List.getElem?_map,jO _ _ _ bU] at hb'
   simpa using hb'
  inj:=fun i j hi hj e=>qo.inj i j (hlb i hi) (hlb j hj) e
  named:=fun r av hr i hi=>by
   rcases jB hr with ⟨j,rfl,hj⟩ |⟨j,rfl,hj⟩
   ·exact xa (hbx av (ZB6 hj) i hi)
   ·exact xa ((qo.at_ j av hj).2.2.2 i hi)
  typed:=hT
  old:=fun b hb=>by
   show (T b).map BK.un=T b
   cases hk:T b with
   |none=>rfl
   |some k=>
    cases k with
    |fz ek n cs=>exact absurd hk (hnf.no b ek n cs)
    |_=>rfl
  frame:=fun _ _ _ _=>rfl
  gd:=ZB5 _
  os:=rfl
  tape:=rfl
  output:=rfl
  oV:=hnf.oV }
 refine Code.wp_mono ?_ (h c _ W ⟨T,_,ahX⟩)
 rintro e a w ⟨τ,hr,hq⟩
 have hd:a.defers=[]:=by obtain⟨_,_,hh⟩:=hr;exact hh.defs
 cases e with
 |normal=>
  obtain⟨v,hv,r,os,T',β',h1⟩:=tT (args:=args) hsh hnf qo.EB hr hq
  exact⟨hd,v,hv,v,r,os,T',β',rfl,h1⟩
 |ret=>
  obtain⟨v,hv,r,os,T',β',h1⟩:=tT (args:=args) hsh hnf qo.EB hr hq
  exact⟨hd,v,hv,v,r,os,T',β',rfl,h1⟩
 |_=>exact hq.elim
theorem Has.ofP (k:Nat) (ex wr pt:Nat→Bool) {l:List (FuncId×cn)}(hl:gN Tryz.prog l) {f:FuncId}{fn:Func}{cd:Code}{C:cn}(hf:Tryz.prog.funcs[f]?=some fn)
  (h : ∀ x y, C.pre x y → vcP Tryz.prog fn.ntmps (sem (mkE fn.ntmps l ex wr pt)) (endQ (mkE fn.ntmps l ex wr pt).sh fn.results.toList C.B.length C.mv (fun r os => ∃ z j, C.φ x y z ∧ r = C.r x y z ∧ os ++ List.replicate j .zz = C.o x y z ∧ (C.o x y z).length = C.B.length + C.nf)) k cd (entry (APs.avs C.A x) (APs.avs C.B y))) (hb : fn.body = some cd := by exact rfl) (hnm : fn.name ≠ "runtime.NumGoroutine" := by decide) (hlen : C.A.length ≤ fn.ntmps := by exact zqNlb rfl) : Has Tryz.prog f C := by
 refine⟨fun x y hp=>?_,fn,hf,by rw [hb];rfl,hnm⟩
 have hx:(APs.avs C.A x).length≤fn.ntmps:=by rw [APs.fE];exact hlen
 have hy:(APs.avs C.B y).length=C.B.length:=APs.fE C.B y
 refine TC.Y4 (TC.aiU (P:=Tryz.prog) (N:=fn.ntmps) (sh:=(mkE fn.ntmps l ex wr pt).sh) (f:=f) (fn:=fn) (cd:=cd) (args:=APs.avs C.A x) (bs:=APs.avs C.B y) (mv:=C.mv) (post:=fun r os=>∃z j,C.φ x y z∧r=C.r x y z∧os++List.replicate j .zz=C.o x y z∧(C.o x y z).length=C.B.length+C.nf) (Env.DO (oF (n:=fn.ntmps) (ex:=ex) (wr:=wr) (pt:=pt) hl)) hf hb rfl hx (by rw [hy];exact K7 mixed (oz (oF hl)) k cd _ (h x y hp))) ?_
 rintro r os ⟨z,j,h1,h2,h3,h4⟩
 exact⟨j,z,h1,h2,h3,by rw [h3];exact h4⟩
def xc:Nat→Code→Code
 |0,cd=>cd
 |n+1,.seq _ y=>xc n y
 |_+1,cd=>cd
def J9 (fn:Func):Code:=fn.body.getD .skip
theorem zb {l:List (FuncId×cn)}{n:Nat}{ex wr pt:Nat→Bool}(hl:gN Tryz.prog l) {k:Nat}{τ:St}{Q':o6}{cd:Code}{ι:Type}(J:ι→AO) (φ:ι→Prop) (rest:Code)
  (ht:∀x,φ x→vc Tryz.prog n (sem (mkE n l ex wr pt)) rest (DX.ap (J x)) Q')
  (hk:(∀x,φ x→TW Tryz.prog n rest (DX.ap (J x)) Q')→vcP Tryz.prog n (sem (mkE n l ex wr pt)) Q' k cd τ):vcP Tryz.prog n (sem (mkE n l ex wr pt)) Q' k cd τ:=
 hk fun x hx=>gp mixed (oz (oF hl)) _ _ _ (ht x hx)
theorem joinTail {n:Nat}{τ:St}{Q':o6}{rest:Code}{ι:Type}{J:ι→AO}{φ:ι→Prop}(tail:∀x,φ x→TW Tryz.prog n rest (DX.ap (J x)) Q') (x:ι) (sg:List (Nat×Nat)) (h:φ x) (hs:EO sg τ τ [] (J x)):TW Tryz.prog n rest τ Q':=
 TW.agc [] (J x) sg hs (tail x h)
end GL
namespace GL
def vcR (P:Program) (N:Nat) (S:Sm) (Q':o6):Nat→Code→St→Prop
 |0,_,_=>False
 |n+1,cd,τ=>vc P N S cd τ (zd (fun τ'=>vcR P N S Q' n cd τ') Q')
theorem A5 {P:Program}{N:Nat}{S:Sm}{Q':o6}(hm:P.follows .mixedOrders=true) (hS:UP P N S):∀(n:Nat) (cd:Code) (τ:St),vcR P N S Q' n cd τ→∀c a w,Rel N c τ a w→Code.rounds P cd (lift N c Q') n a w
 |0,_,_,h,_,_,_,_=>h.elim
 |n+1,cd,τ,h,c,a,w,hr=>by
  rw [rounds_succ]
  refine Code.wp_mono ?_ (gp hm hS cd τ _ h c a w hr)
  rintro e a2 w2 ⟨τ2,hr2,hq⟩
  cases e with
  |normal=>exact A5 hm hS n cd τ2 hq c a2 w2 hr2
  |_=>exact⟨τ2,hr2,hq⟩
theorem alz {l:List (FuncId×cn)}{n:Nat}{ex wr pt:Nat→Bool}(hl:gN Tryz.prog l) {τ:St}{Q':o6}{cd:Code}(k:Nat) (h:vcR Tryz.prog n (sem (mkE n l ex wr pt)) Q' k cd τ):TW Tryz.prog n (.loop cd) τ Q':=fun c a w hr=>
 wp_loop_rounds k (A5 mixed (oz (oF (n:=n) (ex:=ex) (wr:=wr) (pt:=pt) hl)) k cd τ h c a w hr)
end GL
namespace GL
abbrev bf:=Int×Int×Int×Int×Int×Int×Int
abbrev fu:=Int×Int×Int×Int×Int×Int×Int×Int×Int×Int
abbrev Opr:=Int×ByteArray×ByteArray×Int×ByteArray
abbrev eU:=ByteArray×Int
abbrev ay:=List ByteArray×List Int×List Int×Int×List Pt×Int×List Pt×Bool
abbrev ay.rows (s:ay):List ByteArray:=s.1
abbrev ay.refs (s:ay):List Int:=s.2.1
abbrev ay.last (s:ay):List Int:=s.2.2.1
abbrev ay.cg (s:ay):Int:=s.2.2.2.1
abbrev ay.gone (s:ay):List Pt:=s.2.2.2.2.1
abbrev ay.bZ (s:ay):Int:=s.2.2.2.2.2.1
abbrev ay.dead (s:ay):List Pt:=s.2.2.2.2.2.2.1
abbrev ay.same (s:ay):Bool:=s.2.2.2.2.2.2.2
abbrev stB (b0 b1 b2 b3 b4:Nat):List SP:=[.xb b0 ab,.xb b1 ag,.xb b2 ag,.int,.xb b3 ae,.int,.xb b4 ae,.bool]
abbrev xv:List SP:=[.vz ab,.vz ag,.vz ag,.int,.vz ae,.int,.vz ae,.bool]
def kW (b0 b1 b2 b3 b4:Nat) (s:ay):List SV:=[.xs b0 1 0 s.rows.length,.xs b1 1 0 s.refs.length,.xs b2 1 0 s.last.length,.int s.cg,.xs b3 5 0 s.gone.length,.int s.bZ,.xs b4 5 0 s.dead.length,.q s.same]
def GF (s:ay):List AV:=[.rs ab s.rows,.rs ag s.refs,.rs ag s.last,.rs ae s.gone,.rs ae s.dead]
theorem uU {b0 b1 b2 b3 b4 m1 m2 m3 m4 m5:Nat}{tx kp:Int}{sm:Bool}{s:ay}(h1:m1=s.rows.length) (h2:m2=s.refs.length) (h3:m3=s.last.length) (h4:tx=s.cg) (h5:m4=s.gone.length) (h6:kp=s.bZ) (h7:m5=s.dead.length) (h8:sm=s.same):
  [SV.xs b0 1 0 m1,.xs b1 1 0 m2,.xs b2 1 0 m3,.int tx,.xs b3 5 0 m4,.int kp,.xs b4 5 0 m5,.q sm]=kW b0 b1 b2 b3 b4 s:=by
 subst h1 h2 h3 h4 h5 h6 h7 h8;rfl
theorem ahe {ro:List ByteArray}{rf la:List Int}{go de:List Pt}{s:ay}(h1:ro=s.rows) (h2:rf=s.refs) (h3:la=s.last) (h4:go=s.gone) (h5:de=s.dead):[AV.rs ab ro,.rs ag rf,.rs ag la,.rs ae go,.rs ae de]=GF s:=by
 subst h1 h2 h3 h4 h5;rfl
def whole (m1 m2 m3 m4 m5:Nat) (ro:List ByteArray) (rf la:List Int) (go de:List Pt):Prop:=m1=ro.length∧m2=rf.length∧m3=la.length∧m4=go.length∧m5=de.length
abbrev gP (x:Nat×Nat×Nat×Int×Nat×Int×Nat×Bool) (b:List ByteArray×List Int×List Int×List Pt×List Pt):ay:=(b.1,b.2.1,b.2.2.1,x.2.2.2.1,b.2.2.2.1,x.2.2.2.2.2.1,b.2.2.2.2,x.2.2.2.2.2.2.2)
abbrev stW (x:Nat×Nat×Nat×Int×Nat×Int×Nat×Bool) (b:List ByteArray×List Int×List Int×List Pt×List Pt):Prop:=whole x.1 x.2.1 x.2.2.1 x.2.2.2.2.1 x.2.2.2.2.2.2.1 b.1 b.2.1 b.2.2.1 b.2.2.2.1 b.2.2.2.2
def US {α:Type}(m:Nat) (l:List α):Prop:=m=l.length
abbrev xu (n:Int):Int:=IntKind.i64.wrap n
theorem aiV {ek:EK}(l:List (EK.Ty ek)) (k:Nat):nth ek l k=l.getD k (EK.zero ek):=by
 unfold nth
 cases h:l[k]?<;>simp [List.getD,h]
theorem nu {ek:EK}{l:List (EK.Ty ek)}{k:Nat}{x:EK.Ty ek}(h:k<l.length):nth ek (l.set k x) k=x:=by
 unfold nth
 rw [List.getElem?_set_self h]
theorem lx (k:Nat):agv 0 k=k:=rfl
theorem a7 {P:Prop}(h:P:=by first|exact⟨(),trivial⟩|(dsimp only [dC,lx];omega)|(simp only [Option.getD_some,Option.getD_none,dC,lx,List.length_append,List.length_cons,List.length_nil];omega)|(simp only [decide_eq_true_eq,decide_eq_false_iff_not,dC,lx,gK,imax,Int.toNat_natCast,Option.getD_some,Option.getD_none,List.length_append,List.length_cons,List.length_nil] at *;omega)):P:=h
theorem cf {P:Prop}(h:P:=by repeat' (first|exact trivial|apply And.intro|exact Nat.le_of_eq (Nat.zero_add _)|(simp only [Option.getD_some,Option.getD_none,dC,lx,List.length_append,List.length_cons,List.length_nil];omega))):P:=h
def zV (rf la:List Int) (k:Nat):List Int×List Int:=
 (rf.set k (xu (nth ag rf k-1)),if xu (nth ag rf k-1)=0 then la.set k 0 else la)
def yg (sp:List Int×List Int) (k:Int):Prop:=0≤k∧k<sp.1.length∧k<sp.2.length
def VH (sp:List Int×List Int) (k:Int):AV:=.a [.xs 0 1 0 sp.1.length,.xs 1 1 0 sp.2.length]
def abe (sp:List Int×List Int) (k:Int):List AV:=[.rs ag (zV sp.1 sp.2 k.toNat).1,.rs ag (zV sp.1 sp.2 k.toNat).2]
def JZ:cn where
 A:=[.a [.xb 0 ag,.xb 1 ag],.s .int]
 B:=[.r ag,.r ag]
 pre:=fun x b=>US x.1.1 (b.1)∧US x.1.2 (b.2)∧yg ((b.1,b.2)) (x.2)
 r:=fun x b _=>VH ((b.1,b.2)) (x.2)
 o:=fun x b _=>abe ((b.1,b.2)) (x.2)
theorem adW:Has Tryz.prog 146 JZ:=by
 refine Has.fm zT (fun d=>Nat.beq d 13) zF (l:=[]) trivial Tryz.func146 ?_
 rintro⟨⟨(akw:Nat),(akv:Nat)⟩,(k:Int)⟩ ⟨(dA:List Int),(eI:List Int)⟩ ⟨(ahL:akw=List.length dA),(ahK:akv=List.length eI),(hp:yg (dA,eI) k)⟩
 subst ahL ahK
 show vc _ _ _ _ (entry [.a [.xs 0 1 0 dA.length,.xs 1 1 0 eI.length],.int k] [.rs ag dA,.rs ag eI]) _
 obtain⟨h3,h4,h5⟩:=hp
 dsimp only at h4 h5
 have hk:k.toNat<dA.length:=by omega
 refine⟨Sq2,Sq5,rfl,[.s 5,.b 1002],Sq6,rfl,Sq1,Sq7,rfl,Sq2,Sq8,rfl,[.s 8,.b 1002],Sq9,rfl,Sq1,Sq10,rfl,[.s 9,.s 10],Sq11,rfl,⟨?_,?_⟩,[.s 11,.b 0],Sq12,rfl,?_,Sq12,Sq13,rfl,[.s 6,.s 7],Sq14,rfl,⟨?_,?_⟩,[.s 14,.s 13,.b 0],[.b 0],rfl,?_,⟨?_,?_⟩,?_,fun w1=>⟨⟨?_,?_⟩,?_,?_⟩,fun w2=>?_⟩
 all_goals first|refine aw ?_|refine ax ?_|exact a8|exact a7|(simp only [lx,ZC3];omega)|skip
 ·have h:nth ag (dA.set k.toNat _) k.toNat=0:=aJ w1
  rw [nu hk] at h
  refine⟨[],[],_,_,_,rfl,az,(),aa,?_,?_,rfl⟩
  ·rfl
  ·show [AV.rs ag (dA.set _ _),AV.rs ag (eI.set _ _)]=[AV.rs ag (dA.set _ _),AV.rs ag (if _ then _ else _)]
   simp only [lx] at h ⊢
   rw [if_pos h]
 ·have h:¬nth ag (dA.set k.toNat _) k.toNat=0:=aA w2
  rw [nu hk] at h
  refine⟨[],[],_,_,_,rfl,az,(),aa,?_,?_,rfl⟩
  ·rfl
  ·show [AV.rs ag (dA.set _ _),AV.rs ag eI]=[AV.rs ag (dA.set _ _),AV.rs ag (if _ then _ else _)]
   simp only [lx] at h ⊢
   rw [if_neg h]
def ay.n64 (s:ay):Prop:=s.rows.length=64∧s.refs.length=64∧s.last.length=64
def uC (s:ay) (k:Nat):Bool:=decide (nth ag (zV s.refs s.last k).1 k=0)
def gf (s:ay) (k:Nat):ay:=
 (bif uC s k then s.rows.set k ByteArray.empty else s.rows,(zV s.refs s.last k).1,(zV s.refs s.last k).2,s.cg,s.gone,s.bZ,s.dead,s.same)
theorem CZ (rf la:List Int) (k:Nat):(zV rf la k).1.length=rf.length∧(zV rf la k).2.length=la.length:=by
 unfold zV
 refine⟨ZC3,?_⟩
 show List.length (if _ then _ else _)=_
 split<;>simp
theorem xd (s:ay) (k:Nat):(gf s k).rows.length=s.rows.length∧(gf s k).refs.length=s.refs.length∧(gf s k).last.length=s.last.length:=by
 refine⟨?_,(CZ s.refs s.last k).1,(CZ s.refs s.last k).2⟩
 show List.length (bif _ then _ else _)=_
 cases uC s k<;>simp
def pW (S:ay) (k:Int):Prop:=S.n64∧0≤k∧k<64
def VD (S:ay) (k:Int):AV:=.a (kW 0 1 2 3 4 (gf S k.toNat))
def aba (S:ay) (k:Int):List AV:=GF (gf S k.toNat)
def qx:cn where
 A:=[.a (stB 0 1 2 3 4),.s .int]
 B:=[.r ab,.r ag,.r ag,.r ae,.r ae]
 pre:=fun x b=>stW x.1 b∧pW (gP x.1 b) (x.2)
 r:=fun x b _=>VD (gP x.1 b) (x.2)
 o:=fun x b _=>aba (gP x.1 b) (x.2)
theorem IG:Has Tryz.prog 96 qx:=by
 refine Has.fm zT zF zF (l:=[(146,JZ)]) ⟨adW,aa⟩ Tryz.func96 ?_
 rintro⟨⟨(AU:Nat),(AT:Nat),(AS:Nat),(ao:Int),(AR:Nat),(aq:Int),(AQ:Nat),(ar:Bool)⟩,(k:Int)⟩ ⟨(aj:List ByteArray),(ak:List Int),(an:List Int),(ah:List Pt),(ai:List Pt)⟩ ⟨⟨(gC:AU=List.length aj),(gB:AT=List.length ak),(gA:AS=List.length an),(gz:AR=List.length ah),(gy:AQ=List.length ai)⟩,(hp:pW (aj,ak,an,ao,ah,aq,ai,ar) k)⟩
 subst gC gB gA gz gy
 show vc _ _ _ _ (entry [.a [.xs 0 1 0 aj.length,.xs 1 1 0 ak.length,.xs 2 1 0 an.length,.int ao,.xs 3 5 0 ah.length,.int aq,.xs 4 5 0 ai.length,.q ar],.int k] [.rs ab aj,.rs ag ak,.rs ag an,.rs ae ah,.rs ae ai]) _
 let g':=(aj,ak,an,ao,ah,aq,ai,ar)
 obtain⟨⟨l1,l2,l3⟩,h6,h7⟩:=hp
 dsimp only [ay.rows,ay.refs,ay.last] at l1 l2 l3
 have hk:k.toNat<ak.length:=by omega
 have hk2:k.toNat<(zV ak an k.toNat).1.length:=by rw [(CZ _ _ _).1];exact hk
 have hD:=xd g' k.toNat
 refine⟨⟨⟨tv3,tv2⟩,?_,?_,?_,?_,?_⟩,fun x1 w2=>⟨⟨?_,?_⟩,?_,fun w3=>⟨⟨?_,?_⟩,?_,?_⟩,fun w4=>?_⟩⟩
 all_goals first|refine aw ?_|refine ax ?_|exact a8|(dsimp only [JZ,yg];omega)|exact a7|exact hk2|skip
 all_goals
  refine⟨[],[],_,_,_,rfl,az,(),aa,?_,?_,rfl⟩
  ·exact congrArg AV.a (uU (s:=gf g' k.toNat) hD.1.symm hD.2.1.symm hD.2.2.symm rfl rfl rfl rfl rfl)
  ·refine ahe (s:=gf g' k.toNat) ?_ rfl rfl rfl rfl
   show _=bif _ then _ else _
   first
    |rw [show uC g' k.toNat=true from w3];rfl
    |rw [show uC g' k.toNat=false from w4];rfl
def cM (s:ay) (p:Pt):ay:=
 bif au p then s else
 bif decide (p.2.1≤s.bZ) then (s.rows,s.refs,s.last,s.cg,s.gone,s.bZ,s.dead++[p],s.same) else
 bif decide (p.2.1<s.cg) then (s.rows,s.refs,s.last,s.cg,s.gone++[p],s.bZ,s.dead,s.same) else gf s p.1.toNat
theorem yO {s:ay}{p:Pt}(h:au p=true):cM s p=s:=by unfold cM;rw [h];rfl
theorem yR {s:ay}{p:Pt}(h:au p=false) (h1:decide (p.2.1≤s.bZ)=true):cM s p=(s.rows,s.refs,s.last,s.cg,s.gone,s.bZ,s.dead++[p],s.same):=by unfold cM;rw [h,h1];rfl
theorem yP {s:ay}{p:Pt}(h:au p=false) (h1:decide (p.2.1≤s.bZ)=false) (h2:decide (p.2.1<s.cg)=true):cM s p=(s.rows,s.refs,s.last,s.cg,s.gone++[p],s.bZ,s.dead,s.same):=by unfold cM;rw [h,h1,h2];rfl
theorem yQ {s:ay}{p:Pt}(h:au p=false) (h1:decide (p.2.1≤s.bZ)=false) (h2:decide (p.2.1<s.cg)=false):cM s p=gf s p.1.toNat:=by unfold cM;rw [h,h1,h2];rfl
def dH (S:ay) (p:Pt):Prop:=S.n64∧0≤p.1∧p.1<64∧S.gone.length≤1048000∧S.dead.length≤1048000
def VC (S:ay) (p:Pt):AV:=.a (kW 0 1 2 5 6 (cM S p))
def jR (S:ay) (p:Pt):List AV:=[.rs ab (cM S p).rows,.rs ag (cM S p).refs,.rs ag (cM S p).last,.zz,.zz,.rs ae (cM S p).gone,.rs ae (cM S p).dead]
def cJ:cn where
 A:=[.a (stB 0 1 2 3 4),.a [.int,.int,.int,.int,.int]]
 B:=[.r ab,.r ag,.r ag,.r ae,.r ae]
 pre:=fun x b=>stW x.1 b∧dH (gP x.1 b) (x.2)
 r:=fun x b _=>VC (gP x.1 b) (x.2)
 o:=fun x b _=>jR (gP x.1 b) (x.2)
 nf:=2
 mv:=true
theorem gx:Has Tryz.prog 95 cJ:=by
 refine Has.fm zT zF zF (l:=[(81,cx),(96,qx)]) ⟨cz,IG,aa⟩ Tryz.func95 ?_
 rintro⟨⟨(AU:Nat),(AT:Nat),(AS:Nat),(ao:Int),(AR:Nat),(aq:Int),(AQ:Nat),(ar:Bool)⟩,⟨(p1:Int),(p2:Int),(p3:Int),(p4:Int),(p5:Int)⟩⟩ ⟨(aj:List ByteArray),(ak:List Int),(an:List Int),(ah:List Pt),(ai:List Pt)⟩ ⟨⟨(gC:AU=List.length aj),(gB:AT=List.length ak),(gA:AS=List.length an),(gz:AR=List.length ah),(gy:AQ=List.length ai)⟩,(hp:dH (aj,ak,an,ao,ah,aq,ai,ar) (p1,p2,p3,p4,p5))⟩
 subst gC gB gA gz gy
 show vc _ _ _ _ (entry [.a [.xs 0 1 0 aj.length,.xs 1 1 0 ak.length,.xs 2 1 0 an.length,.int ao,.xs 3 5 0 ah.length,.int aq,.xs 4 5 0 ai.length,.q ar],.a [.int p1,.int p2,.int p3,.int p4,.int p5]] [.rs ab aj,.rs ag ak,.rs ag an,.rs ae ah,.rs ae ai]) _
 let g':=(aj,ak,an,ao,ah,aq,ai,ar)
 let A':=(p1,p2,p3,p4,p5)
 obtain⟨⟨l1,l2,l3⟩,(h6:0≤p1),(h7:p1<64),h8,h9⟩:=hp
 dsimp only [ay.rows,ay.refs,ay.last,ay.gone,ay.dead] at l1 l2 l3 h8 h9
 refine⟨⟨⟨tv6,aa⟩,aa⟩,fun x1 w2=>⟨fun w3=>?_,fun w4=>⟨fun w5=>⟨aa,⟨⟨?_,?_⟩,?_,?_⟩,?_⟩,fun w6=>⟨fun w7=>⟨aa,⟨⟨?_,?_⟩,?_,?_⟩,?_⟩,fun w8=>⟨⟨⟨tv9,tv2⟩,⟨?_,?_,?_,?_,?_⟩,⟨?_,?_,?_⟩,?_,?_⟩,fun x9 dy=>?_⟩⟩⟩⟩⟩
 all_goals first|refine aw ?_|refine ax ?_|exact a8|(dsimp only [qx,pW,gP];omega)|exact a7|(simp only [dC,ZA1,ZA4];omega)|exact l1|exact l2|exact l3|skip
 ·refine⟨[3,4],[],_,_,_,rfl,az,(),aa,?_,?_,rfl⟩
  ·show _=AV.a (kW 0 1 2 5 6 (cM g' A'));rw [yO w3];rfl
  ·show _=jR g' A';unfold jR;rw [yO w3];rfl
 ·refine⟨[3,1000000023],[],_,_,_,rfl,az,(),aa,?_,?_,rfl⟩
  ·show _=AV.a (kW 0 1 2 5 6 (cM g' A'));rw [yR w4 w5]
   exact congrArg AV.a (uU rfl rfl rfl rfl rfl rfl ZA0.symm rfl)
  ·show _=jR g' A';unfold jR;rw [yR w4 w5];rfl
 ·refine⟨[1000000035,4],[],_,_,_,rfl,az,(),aa,?_,?_,rfl⟩
  ·show _=AV.a (kW 0 1 2 5 6 (cM g' A'));rw [yP w4 w6 w7]
   exact congrArg AV.a (uU rfl rfl rfl rfl ZA0.symm rfl rfl rfl)
  ·show _=jR g' A';unfold jR;rw [yP w4 w6 w7];rfl
 ·refine⟨[3,4],[],_,_,_,rfl,az,(),aa,?_,?_,rfl⟩
  ·show _=AV.a (kW 0 1 2 5 6 (cM g' A'));rw [yQ w4 w6 w8];rfl
  ·show _=jR g' A';unfold jR;rw [yQ w4 w6 w8];rfl
end GL
end Go.Proofs.YtnkbdhldiinfdaaGreatDoor
