/- Part 4 of the proof of a drawn law. -/
import Derived.Laws.Tables
import Derived.Test.YtnkbdhldiinfdaaGreatDoorPac
set_option maxHeartbeats 20000000
set_option maxRecDepth 100000
set_option linter.all false
namespace Go.Proofs.YtnkbdhldiinfdaaGreatDoor
namespace GL
section
variable {P:Program}{N:Nat}{τ:St}
variable {d:Nat}{x y z:Operand}{t u ty:TypeId}{pos:String}{af:Array Edge}{g:Option (Nat×Bool)}
def ae2 (k:IntKind):AV→V1
 |.o (.s (.v (.int _ n)))=>match k with
  |.i64=>.mZ (gK≤n∧n≤imax) (.int n)
  |.u8=>.mZ (0≤n∧n≤255) (.byte n)
  |_=>.no
 |_=>.no
theorem aij (k:IntKind) (ht:(P.underlying t).isSome=true) (hu:P.underlying u=some (.int k)) (hd:d<N):fv P N ⟨some d,.convert t u x,ty,pos,af,g⟩ (bY x λv=>.ret ((ae2 k v).rs d)):=
 fv.uu rfl hd λc T β τ a w hh v hv r hr=>by
  unfold ae2 at hr
  split at hr
  ·rename_i k' n
   obtain⟨dd,hdd⟩:=Option.isSome_iff_exists.1 ht
   have e:a.eval x= .int k' n:=hv
   split at hr
   ·obtain⟨hp,rfl⟩:=hr
    have hw:=oQ hp.1 hp.2
    exact⟨nob _ _,.int .i64 n,by simp [execOp,e,convert,run_underlying hdd,run_underlying hu,Conv.intToInt,hw],rfl⟩
   ·obtain⟨hp,rfl⟩:=hr
    have hw:=wrap_u8 hp.1 hp.2
    exact⟨nob _ _,.int .u8 n,by simp [execOp,e,convert,run_underlying hdd,run_underlying hu,Conv.intToInt,hw],rfl⟩
   ·exact hr.elim
  ·exact hr.elim
def XT (off:Nat):AV→V1
 |.o (.s (.bp i o))=>.go (.s (.bp i (o+off)))
 |.o (.s (.xp i sz k j))=>bif Nat.blt (j+off) sz then .go (.s (.xp i sz k (j+off))) else .no
 |.o (.s (.ep ek j))=>bif Nat.blt (j+off) ek.length then .go (.s (.ep ek (j+off))) else .no
 |.o (.s (.vp ek x j))=>bif Nat.blt (j+off) ek.length then .go (.s (.vp ek x (j+off))) else .no
 |.o (.s (.vs l j))=>.go (.s (.vs l (j+off)))
 |_=>.no
def kn (P:Program) (t:TypeId) (f:Nat):Option (Nat×Bool×Nat):=
 match P.underlying t with
 |some (.struct fs)=>match fs[f]? with
  |some fd=>match Sh P fd.type with
   |some (b,n)=>if n=0 then none else some (fd.offset,b,n)
   |none=>none
  |none=>none
 |_=>none
theorem zX {f off n:Nat}{b:Bool}(h:kn P t f=some (off,b,n)):∃fs fd,P.underlying t=some (.struct fs)∧fs[f]?=some fd∧fd.offset=off∧Sh P fd.type=some (b,n)∧n≠0:=by
 unfold kn at h
 split at h
 ·rename_i fs hu
  split at h
  ·rename_i fd hf
   split at h
   ·rename_i b' n' hS
    split at h
    ·cases h
    ·rename_i hz;cases h;exact⟨fs,fd,hu,hf,rfl,hS,hz⟩
   ·cases h
  ·cases h
 ·cases h
theorem nF {f off n:Nat}{b:Bool}(h:kn P t f=some (off,b,n)) (ad:Addr) (w:World):(Instr.fieldAt t (.pointer (some ad)) f).run P w= .ok (.pointer (some (ad.add off))) w:=by
 obtain⟨fs,fd,hu,hf,rfl,hS,hz⟩:=zX h
 have h2:=(jJ hS w).2
 simp [Instr.fieldAt,run_underlying hu,hf,Instr.sureAddr,fieldPlace,h2,hz]
theorem mc {m n:Nat}:Nat.blt m n=true↔m<n:=by simp [Nat.blt_eq]
theorem agp {off n:Nat}{b:Bool}{f:Nat}(h:kn P t f=some (off,b,n)) (hd:d<N):fv P N ⟨some d,.fieldAddr t x f,ty,pos,af,g⟩ (bY x λv=>.ret ((XT off v).rs d)):=
 fv.uu rfl hd λc T β τ a w hh v hv r hr=>by
  unfold XT at hr
  split at hr
  ·rename_i i o
   cases hr
   have e:a.eval x= .pointer (some ⟨β i,o,none⟩):=hv
   refine⟨λk hk=>hk,.pointer (some ⟨β i,o+off,none⟩),?_,ζ⟩
   have:=nF (P:=P) h ⟨β i,o,none⟩ w
   rw [ga] at this
   simp [execOp,e,this]
  ·rename_i i sz k j
   cases hb:Nat.blt (j+off) sz with
   |false=>rw [hb] at hr;exact hr.elim
   |true=>
    rw [hb] at hr;cases hr
    obtain⟨e,_⟩:=hv
    refine⟨λk hk=>hk,.pointer (some ⟨β i,k*sz+(j+off),none⟩),?_,ζ,mc.1 hb⟩
    have:=nF (P:=P) h ⟨β i,k*sz+j,none⟩ w
    rw [ga] at this
    simp [execOp,e,this,ZF7]
  ·rename_i ek j
   cases hb:Nat.blt (j+off) ek.length with
   |false=>rw [hb] at hr;exact hr.elim
   |true=>
    rw [hb] at hr;cases hr
    obtain⟨b,o,n,e,hT,ho,hj⟩:=hv
    refine⟨λk hk=>hk,.pointer (some ⟨b,o*ek.length+(j+off),none⟩),?_,b,o,n,ζ,hT,ho,mc.1 hb⟩
    have:=nF (P:=P) h ⟨b,o*ek.length+j,none⟩ w
    rw [ga] at this
    simp [execOp,e,this,ZF7]
  ·rename_i ek rec j
   cases hb:Nat.blt (j+off) ek.length with
   |false=>rw [hb] at hr;exact hr.elim
   |true=>
    rw [hb] at hr;cases hr
    obtain⟨b,o,cs,e,hj,hT⟩:=hv
    refine⟨λk hk=>hk,.pointer (some ⟨b,o+(j+off),none⟩),?_,b,o,cs,ζ,mc.1 hb,hT⟩
    have:=nF (P:=P) h ⟨b,o+j,none⟩ w
    rw [ga] at this
    simp [execOp,e,this,ZF7]
  ·rename_i l j
   cases hr
   obtain⟨b,cs,e,h2⟩:=hv
   refine⟨λk hk=>hk,.pointer (some ⟨b,j+off,none⟩),?_,b,cs,ζ,h2⟩
   have:=nF (P:=P) h ⟨b,j,none⟩ w
   rw [ga] at this
   simp [execOp,e,this]
  ·exact hr.elim
def XK (off:Nat) (b:Bool) (n:Nat):AV→V1
 |.o (.a l)=>match b with
  |true=>bif Nat.ble (off+n) l.length then .go (.a ((l.drop off).take n)) else .no
  |false=>match l[off]? with
   |some y=>.go (.s y)
   |none=>.no
 |_=>.no
theorem nj {i o n:Nat}{l:List SV}(h:i∈cc ((l.drop o).take n)):i∈cc l:=by
 rw [gJ] at h ⊢
 obtain⟨x,hx,hi⟩:=h
 exact⟨x,ZF2 (ZE6 hx),hi⟩
theorem ago {off n:Nat}{b:Bool}{f:Nat}(h:kn P t f=some (off,b,n)) (hd:d<N):fv P N ⟨some d,.field t x f,ty,pos,af,g⟩ (bY x λv=>.ret ((XK off b n v).rs d)):=
 fv.uu rfl hd λc T β τ a w hh v hv r hr=>by
  obtain⟨fs,fd,hu,hf,rfl,hS,hz⟩:=zX h
  obtain⟨h1,h2⟩:=jJ hS w
  unfold XK at hr
  split at hr
  ·rename_i l
   obtain⟨cs,e,hl⟩:=hv
   have hlen:=jj hl
   split at hr
   ·cases hb:Nat.ble (fd.offset+n) l.length with
    |false=>rw [hb] at hr;exact hr.elim
    |true=>
     rw [hb] at hr;cases hr
     refine⟨λi hi=>nj hi,.agg (cs.extract fd.offset (fd.offset+n)),?_,_,ζ,?_⟩
     ·simp [execOp,e,Instr.field,run_underlying hu,hf,asAgg,part,h1,h2]
     ·have:=wz n (wA fd.offset hl)
      simpa [Array.toList_extract,List.extract_eq_take_drop] using this
   ·split at hr
    ·rename_i y hy
     cases hr
     obtain⟨v,hv,hr⟩:=qU hl hy
     refine⟨λi hi=>gJ.2 ⟨y,ZB6 hy,hi⟩,v,?_,hr⟩
     have hv':cs[fd.offset]?=some v:=by simpa using hv
     simp [execOp,e,Instr.field,run_underlying hu,hf,asAgg,part,h1,hv']
    ·exact hr.elim
  ·exact hr.elim
def JK (i:Nat):AV→V1
 |.t l=>match l[i]? with
  |some y=>.go (.o y)
  |none=>.no
 |_=>.no
theorem acd {i:Nat}(hd:d<N):fv P N ⟨some d,.extract x i,ty,pos,af,g⟩ (bY x λv=>.ret ((JK i v).rs d)):=
 fv.uu rfl hd λc T β τ a w hh v hv r hr=>by
  unfold JK at hr
  split at hr
  ·rename_i l
   split at hr
   ·rename_i z hz
    cases hr
    obtain⟨vs,e,c6⟩:=hv
    obtain⟨v,hvi,hr⟩:=YZ c6 hz
    refine⟨λk hk=>HY.2 ⟨z,ZB6 hz,hk⟩,v,?_,hr⟩
    have akO:vs[i]?=some v:=by simpa using hvi
    simp [execOp,e,Instr.extract,akO]
   ·exact hr.elim
  ·exact hr.elim
def rL (P:Program) (t:TypeId):Option Nat:=
 match P.underlying t with
 |some (.slice e)=>(P.info? e).map (·.size)
 |_=>none
theorem tU {n:Nat}(h:rL P t=some n):∃e,P.underlying t=some (.slice e)∧∀w,(sizeOf e).run P w= .ok n w:=by
 unfold rL at h
 split at h
 ·rename_i e he
  obtain⟨i,hi,rfl⟩:=Option.map_eq_some_iff.1 h
  exact⟨e,he,λw=>by simp [sizeOf,typeInfo,hi]⟩
 ·cases h
def CP.zero:(c:CP)→c.Ty
 |.i64=>(0:Int)
 |.row=>(0:Int)
 |.u8=>(0:Int)
 |.str _=>ByteArray.empty
 |.bool=>false
def EK.zero:(ek:List CP)→EK.Ty ek
 |[]=>()
 |[c]=>c.zero
 |c::d::l=>(c.zero,EK.zero (d::l))
def nth (ek:EK) (l:List (EK.Ty ek)) (k:Nat):EK.Ty ek:=match l[k]? with
 |some x=>x
 |none=>EK.zero ek
theorem oD {ek:EK}{l:List (EK.Ty ek)}{k:Nat}(h:k<l.length):l[k]?=some (nth ek l k):=by
 unfold nth
 rw [ZB1 h]
def agv:Nat→Nat→Nat
 |0,k=>k
 |o+1,k=>o+1+k
theorem agu (o k:Nat):agv o k=o+k:=by cases o<;>simp [agv]
def PL (sz:Nat) (x y:AV):V1:=
 match x,y with
 |.o (.s (.sl ek len)),.o (.s (.v (.int .i64 n)))=>bif Nat.beq ek.length sz&&Nat.blt 0 sz then .mZ (0≤n∧n<len) (.s (.ep ek 0)) else .no
 |.o (.s (.vw ek l)),.o (.s (.v (.int .i64 n)))=>bif Nat.beq ek.length sz&&Nat.blt 0 sz then .mZ (0≤n∧n<l.length) (.s (.vp ek (nth ek l n.toNat) 0)) else .no
 |.o (.s (.vz ek l)),.o (.s (.v (.int .i64 n)))=>bif Nat.beq ek.length sz&&Nat.blt 0 sz then .mZ (0≤n∧n<l.length) (.s (.vp ek (nth ek l n.toNat) 0)) else .no
 |.o (.s (.xs i sz' o m)),.o (.s (.v (.int .i64 n)))=>bif Nat.beq sz' sz&&Nat.blt 0 sz then .mZ (0≤n∧n<m) (.s (.xp i sz' (agv o n.toNat) 0)) else .no
 |_,_=>.no
theorem qS {e:TypeId}{sz:Nat}(he:P.underlying t=some (.slice e)) (dj:∀w,(sizeOf e).run P w= .ok sz w) {b o len cap:Nat}{n:Int}(h0:0≤n) (h1:n<len) (w:World):
  (Instr.indexAt t (.slice (some ⟨b,o,none⟩) len cap) (.int .i64 n)).run P w= .ok (.pointer (some ⟨b,o+n.toNat*sz,none⟩)) w:=by
 simp [Instr.indexAt,asIntOf,run_underlying he,h0,h1,dj,ga]
theorem E3 {cs:Array Value}{o:Nat}{ek:EK}{l:List (EK.Ty ek)}(h:win cs o (flat ek l)) {k:Nat}(hk:k<l.length):win cs (o+k*ek.length) (EK.cells ek (nth ek l k)):=by
 intro j v hj
 have bU:j<ek.length:=by
  have:=(ZC0.1 hj).1
  rwa [EK.bK] at this
 rw [←TY ek l k j _ (oD hk) bU] at hj
 rw [ZF7]
 exact h _ _ hj
theorem aaw {sz:Nat}(h:rL P t=some sz) (hd:d<N):fv P N ⟨some d,.indexAddr t x y,ty,pos,af,g⟩ (bY x λv=>bY y λu=>.ret ((PL sz v u).rs d)):=
 fv.DS rfl hd λc T β τ a w hh v u hv hu r hr=>by
  obtain⟨e,he,dj⟩:=tU h
  unfold PL at hr
  split at hr
  ·rename_i ek len n
   cases hb:Nat.beq ek.length sz&&Nat.blt 0 sz with
   |false=>rw [hb] at hr;exact hr.elim
   |true=>
    rw [hb] at hr
    obtain⟨⟨h0,h1⟩,rfl⟩:=hr
    simp only [ZA9] at hb
    have hs:ek.length=sz:=by simpa using hb.1
    have oU:=mc.1 hb.2
    have e2:a.eval y= .int .i64 n:=hu
    rcases hv with ⟨hl,_⟩ |⟨b,o,cap,m,e1,hlc,hT,hle⟩
    ·subst hl;omega
    ·refine⟨λk hk=>by simp [AV.boxes,A0.boxes,SV.boxes] at hk,.pointer (some ⟨b,o*ek.length+n.toNat*sz,none⟩),?_,b,o+n.toNat,m,?_,hT,by omega,by omega⟩
     ·have:=qS (P:=P) he dj (b:=b) (o:=o*ek.length) (len:=len) (cap:=cap) h0 h1 w
      simp [execOp,e1,e2,this]
     ·rw [←hs,ZE3,Nat.add_zero]
  ·rename_i ek l n
   cases hb:Nat.beq ek.length sz&&Nat.blt 0 sz with
   |false=>rw [hb] at hr;exact hr.elim
   |true=>
    rw [hb] at hr
    obtain⟨⟨h0,h1⟩,rfl⟩:=hr
    simp only [ZA9] at hb
    have hs:ek.length=sz:=by simpa using hb.1
    have oU:=mc.1 hb.2
    have e2:a.eval y= .int .i64 n:=hu
    rcases hv with ⟨hl,_⟩ |⟨b,o,cap,cs,te,fr,e1,hlc,hT,hw⟩
    ·subst hl;simp at h1;omega
    ·refine⟨λk hk=>by simp [AV.boxes,A0.boxes,SV.boxes] at hk,.pointer (some ⟨b,o+n.toNat*sz,none⟩),?_,b,o+n.toNat*sz,cs,ζ,by omega,.inl ⟨te,fr,hT⟩,?_⟩
     ·have:=qS (P:=P) he dj (b:=b) (o:=o) (len:=l.length) (cap:=cap) h0 h1 w
      simp [execOp,e1,e2,this]
     ·rw [←hs];exact E3 hw (by omega)
  ·rename_i ek l n
   cases hb:Nat.beq ek.length sz&&Nat.blt 0 sz with
   |false=>rw [hb] at hr;exact hr.elim
   |true=>
    rw [hb] at hr
    obtain⟨⟨h0,h1⟩,rfl⟩:=hr
    simp only [ZA9] at hb
    have hs:ek.length=sz:=by simpa using hb.1
    have oU:=mc.1 hb.2
    have e2:a.eval y= .int .i64 n:=hu
    rcases hv with ⟨hl,_⟩ |⟨b,o,cap,cs,e1,hlc,hT,hw⟩
    ·subst hl;simp at h1;omega
    ·refine⟨λk hk=>by simp [AV.boxes,A0.boxes,SV.boxes] at hk,.pointer (some ⟨b,o+n.toNat*sz,none⟩),?_,b,o+n.toNat*sz,cs,ζ,by omega,hT,?_⟩
     ·have:=qS (P:=P) he dj (b:=b) (o:=o) (len:=l.length) (cap:=cap) h0 h1 w
      simp [execOp,e1,e2,this]
     ·rw [←hs];exact E3 hw (by omega)
  ·rename_i i sz' o m n
   cases hb:Nat.beq sz' sz&&Nat.blt 0 sz with
   |false=>rw [hb] at hr;exact hr.elim
   |true=>
    rw [hb] at hr
    obtain⟨⟨h0,h1⟩,rfl⟩:=hr
    simp only [ZA9] at hb
    have hs:sz'=sz:=by simpa using hb.1
    have oU:=mc.1 hb.2
    have e2:a.eval y= .int .i64 n:=hu
    rcases hv with ⟨hl,_⟩ |⟨cap,k,e1,hlc,hT,hle⟩
    ·subst hl;omega
    ·rw [agu]
     refine⟨λk hk=>.inl hk,.pointer (some ⟨β i,o*sz'+n.toNat*sz,none⟩),?_,?_,by omega⟩
     ·have:=qS (P:=P) he dj (b:=β i) (o:=o*sz') (len:=m) (cap:=cap) h0 h1 w
      simp [execOp,e1,e2,this]
     ·rw [hs,ZE3,Nat.add_zero]
  ·exact hr.elim
def bL (s:ByteArray) (k:Nat):Int:=match s[k]? with
 |some b=>b.toNat
 |none=>0
theorem xf (s:ByteArray) (k:Nat):0≤bL s k∧bL s k≤255:=by
 unfold bL
 split
 ·rename_i b _;have:=b.toNat_lt;omega
 ·omega
def XE (x y:AV):V1:=
 match x,y with
 |.o (.s (.v (.string s))),.o (.s (.v (.int .i64 n)))=>.mZ (0≤n∧n<s.size) (.byte (bL s n.toNat))
 |_,_=>.no
theorem agn (h:P.underlying t=some .string) (hd:d<N):fv P N ⟨some d,.index t x y,ty,pos,af,g⟩ (bY x λv=>bY y λu=>.ret ((XE v u).rs d)):=
 fv.DS rfl hd λc T β τ a w hh v u hv hu r hr=>by
  unfold XE at hr
  split at hr
  ·rename_i s n
   obtain⟨⟨h0,h1⟩,rfl⟩:=hr
   have e1:a.eval x= .string s:=hv
   have e2:a.eval y= .int .i64 n:=hu
   have bU:n.toNat<s.size:=by omega
   have hs:s[n.toNat]?=some s[n.toNat]:=by simp [bU]
   refine⟨adv _ _ _,.int .u8 (bL s n.toNat),?_,ζ⟩
   have hb:bL s n.toNat=s[n.toNat].toNat:=by unfold bL;rw [hs]
   rw [hb]
   simp [execOp,e1,e2,Instr.index,asIntOf,run_underlying h,h0,hs]
  ·exact hr.elim
def S3 (strs:Bool):AV→V1
 |.o (.s (.v (.string s)))=>match strs with
  |true=>.go (.int (s.size:Int))
  |false=>.no
 |.o (.s (.sl _ n))=>match strs with
  |false=>.go (.int (n:Int))
  |true=>.no
 |.o (.s (.vw _ l))=>match strs with
  |false=>.go (.int (l.length:Int))
  |true=>.no
 |.o (.s (.vz _ l))=>match strs with
  |false=>.go (.int (l.length:Int))
  |true=>.no
 |.o (.s (.xs _ _ _ m))=>match strs with
  |false=>.go (.int (m:Int))
  |true=>.no
 |.o (.s (.v (.slice none 0 0)))=>match strs with
  |false=>.go (.int 0)
  |true=>.no
 |_=>.no
theorem aif (ht:P.underlying t=some .string) (hd:d<N):fv P N ⟨some d,.call ⟨.builtin .len,#[x],#[t]⟩,ty,pos,af,g⟩ (bY x λv=>.ret ((S3 true v).rs d)):=
 fv.uu rfl hd λc T β τ a w hh v hv r hr=>by
  unfold S3 at hr
  split at hr
  ·rename_i s
   cases hr
   have e:a.eval x= .string s:=hv
   exact⟨nob _ _,.int .i64 s.size,by simp [execOp,resolve,invoke,builtin,Builtin.len_,e,run_underlying ht,goInt],rfl⟩
  all_goals exact hr.elim
theorem X9 {n:Nat}(ht:rL P t=some n) (hd:d<N):fv P N ⟨some d,.call ⟨.builtin .len,#[x],#[t]⟩,ty,pos,af,g⟩ (bY x λv=>.ret ((S3 false v).rs d)):=
 fv.uu rfl hd λc T β τ a w hh v hv r hr=>by
  obtain⟨e,he,_⟩:=tU ht
  have fin:∀(p:Option Addr) (len cap:Nat),a.eval x= .slice p len cap→(execOp a.eval ⟨some d,.call ⟨.builtin .len,#[x],#[t]⟩,ty,pos,af,g⟩).run P w= .ok (.value (.int .i64 len)) w:=λp len cap e1=>by
   simp [execOp,resolve,invoke,builtin,Builtin.len_,e1,run_underlying he,goInt]
  unfold S3 at hr
  split at hr
  ·exact hr.elim
  ·rename_i ek len
   cases hr
   rcases hv with ⟨hl,p,e1⟩ |⟨b,o,cap,m,e1,_⟩
   ·subst hl;exact⟨nob _ _,_,fin _ _ _ e1,rfl⟩
   ·exact⟨nob _ _,_,fin _ _ _ e1,rfl⟩
  ·rename_i ek l
   cases hr
   rcases hv with ⟨hl,p,cap,e1⟩ |⟨b,o,cap,cs,te,fr,e1,_⟩
   ·subst hl;exact⟨nob _ _,_,fin _ _ _ e1,rfl⟩
   ·exact⟨nob _ _,_,fin _ _ _ e1,rfl⟩
  ·rename_i ek l
   cases hr
   rcases hv with ⟨hl,p,cap,e1⟩ |⟨b,o,cap,cs,e1,_⟩
   ·subst hl;exact⟨nob _ _,_,fin _ _ _ e1,rfl⟩
   ·exact⟨nob _ _,_,fin _ _ _ e1,rfl⟩
  ·rename_i i sz o m
   cases hr
   rcases hv with ⟨hl,p,e1⟩ |⟨cap,n,e1,_⟩
   ·subst hl;exact⟨nob _ _,_,fin _ _ _ e1,rfl⟩
   ·exact⟨nob _ _,_,fin _ _ _ e1,rfl⟩
  ·cases hr
   exact⟨nob _ _,_,fin none 0 0 hv,rfl⟩
  ·exact hr.elim
def mmV (isMax:Bool) (x y:AV):V1:=
 match x,y with
 |.o (.s (.v (.int .i64 m))),.o (.s (.v (.int .i64 n)))=>match isMax with
  |true=>.go (.int (max m n))
  |false=>.go (.int (min m n))
 |_,_=>.no
theorem aj0 {ts:Array TypeId}(hd:d<N):fv P N ⟨some d,.call ⟨.builtin .max,#[x,y],ts⟩,ty,pos,af,g⟩ (bY x λv=>bY y λu=>.ret ((mmV true v u).rs d)):=
 fv.DS rfl hd λc T β τ a w hh v u hv hu r hr=>by
  unfold mmV at hr
  split at hr
  ·rename_i m n
   cases hr
   have e1:a.eval x= .int .i64 m:=hv
   have e2:a.eval y= .int .i64 n:=hu
   refine⟨adv _ _ _,.int .i64 (max m n),?_,ζ⟩
   have:=run_max_int2 (P:=P) w ts ty .i64 .i64 m n
   have hm:(if m<n then n else m)=max m n:=by split<;>omega
   simp [execOp,resolve,invoke,builtin,e1,e2,this,hm]
  ·exact hr.elim
theorem ajZ {ts:Array TypeId}(hd:d<N):fv P N ⟨some d,.call ⟨.builtin .min,#[x,y],ts⟩,ty,pos,af,g⟩ (bY x λv=>bY y λu=>.ret ((mmV false v u).rs d)):=
 fv.DS rfl hd λc T β τ a w hh v u hv hu r hr=>by
  unfold mmV at hr
  split at hr
  ·rename_i m n
   cases hr
   have e1:a.eval x= .int .i64 m:=hv
   have e2:a.eval y= .int .i64 n:=hu
   refine⟨adv _ _ _,.int .i64 (min m n),?_,ζ⟩
   have:=run_min_int2 (P:=P) w ts ty .i64 .i64 m n
   have hm:(if n<m then n else m)=min m n:=by split<;>omega
   simp [execOp,resolve,invoke,builtin,e1,e2,this,hm]
  ·exact hr.elim
end
end GL
namespace GL
section
variable {P:Program}{N:Nat}{τ:St}
variable {d:Nat}{x y z:Operand}{t u ty:TypeId}{pos:String}{af:Array Edge}{g:Option (Nat×Bool)}
def qG (x:Option Operand) (k:Option Int→Q Rs):Q Rs:=
 match x with
 |none=>k none
 |some x=>bY x fun
  |.o (.s (.v (.int .i64 n)))=>k (some n)
  |_=>.ret .no
def evI (τ:St):Option Operand→Option (Option Int)
 |none=>some none
 |some x=>match ev τ x with
  |some (.o (.s (.v (.int .i64 n))))=>some (some n)
  |_=>none
theorem wc (τ:St) (x:Option Operand) (k:Option Int→Q Rs):(qG x k).run τ=match evI τ x with
  |some v=>(k v).run τ
  |none=>.no:=by
 cases x with
 |none=>rfl
 |some x=>
  simp only [qG,c8,evI]
  cases h:ev τ x with
  |none=>rfl
  |some v=>
   simp only
   split
   ·rfl
   ·rename_i fA
    split
    ·rename_i hv
     split at hv
     ·rename_i hv'
      cases hv'
      exact absurd rfl (fA _)
     ·cases hv
    ·rfl
theorem z6 {c:Ctx}{T:bb}{β:Nat→Nat}{a:Act}{w:World}(h:Holds N c T β τ a w) {x:Option Operand}{n:Option Int}(hx:evI τ x=some n):x.map a.eval=n.map (Value.int .i64):=by
 cases x with
 |none=>simp only [evI] at hx;cases hx;rfl
 |some x=>
  simp only [evI] at hx
  split at hx
  ·rename_i m hm
   cases hx
   have e:a.eval x= .int .i64 m:=eP h hm
   simp [e]
  ·cases hx
def X1 (strs:Bool) (sz:Nat) (x:AV) (l h:Option Int):V1:=
 match x with
 |.o (.s (.v (.string s)))=>match strs with
  |true=>.mZ (0≤l.getD 0∧l.getD 0≤h.getD s.size∧h.getD s.size≤s.size) (.str (s.extract (l.getD 0).toNat (h.getD s.size).toNat))
  |false=>.no
 |.o (.s (.sl ek n))=>match strs with
  |false=>bif Nat.beq ek.length sz then .mZ (0≤l.getD 0∧l.getD 0≤h.getD n∧h.getD n≤n) (.s (.sl ek ((h.getD n).toNat-(l.getD 0).toNat))) else .no
  |true=>.no
 |.o (.s (.vw ek v))=>match strs with
  |false=>bif Nat.beq ek.length sz then .mZ (0≤l.getD 0∧l.getD 0≤h.getD v.length∧h.getD v.length≤v.length) (.s (.vw ek ((v.drop (l.getD 0).toNat).take ((h.getD v.length).toNat-(l.getD 0).toNat)))) else .no
  |true=>.no
 |.o (.s (.vz ek v))=>match strs with
  |false=>bif Nat.beq ek.length sz then .mZ (0≤l.getD 0∧l.getD 0≤h.getD v.length∧h.getD v.length≤v.length) (.s (.vz ek ((v.drop (l.getD 0).toNat).take ((h.getD v.length).toNat-(l.getD 0).toNat)))) else .no
  |true=>.no
 |.o (.s (.xs i sz' o m))=>match strs with
  |false=>bif Nat.beq sz' sz then .mZ (0≤l.getD 0∧l.getD 0≤h.getD m∧h.getD m≤m) (.s (.xs i sz' (o+(l.getD 0).toNat) ((h.getD m).toNat-(l.getD 0).toNat))) else .no
  |true=>.no
 |_=>.no
theorem xS (isS:Bool) (len cap:Nat) (l h:Option Int) (za:0≤l.getD 0) (hlh:l.getD 0≤h.getD len) (hh:h.getD len≤cap) (w:World):
  (Instr.sliceBounds isS len cap (l.map (Value.int .i64)) (h.map (Value.int .i64)) none).run P w= .ok ((l.getD 0).toNat,(h.getD len).toNat,cap) w:=by
 have hb:∀(i:Int) (y:Nat) (code:BoundsCode),0≤i→i≤y→(Instr.sliceBound (.int .i64 i) y code).run P w= .ok i.toNat w:=λi y code h0 h1=>run_sliceBound (P:=P) (w:=w) .i64 i y code h0 h1
 cases h with
 |none=>
  cases l with
  |none=>simp [Instr.sliceBounds]
  |some l=>
   simp only [ZA2,ZA3] at za hlh hh
   simp [Instr.sliceBounds,hb l len .sliceB za (by omega)]
 |some h=>
  simp only [ZA2] at hlh hh
  have h1:(Instr.sliceBound (.int .i64 h) cap (if isS=true then BoundsCode.sliceAcap else BoundsCode.sliceAlen)).run P w= .ok h.toNat w:=hb h cap _ (by omega) hh
  cases l with
  |none=>simp [Instr.sliceBounds,h1]
  |some l=>
   simp only [ZA2] at za hlh
   have h2:(Instr.sliceBound (.int .i64 l) h.toNat BoundsCode.sliceB).run P w= .ok l.toNat w:=hb l h.toNat _ za (by omega)
   simp [Instr.sliceBounds,h1,h2]
theorem fv.cut {o:Oper}{l h:Option Operand}{f:AV→Option Int→Option Int→V1}(ho:o.dst=some d) (hd:d<N)
  (hs:∀c T β τ a w,Holds N c T β τ a w→∀v l' h',v.rel T β (a.eval x)→l.map a.eval=l'.map (Value.int .i64)→h.map a.eval=h'.map (Value.int .i64)→∀r,(f v l' h').vF r→(∀i∈r.boxes,i∈v.boxes)∧∃val,(execOp a.eval o).run P w= .ok (.value val) w∧r.rel T β val):
  fv P N o (bY x λv=>qG l λl'=>qG h λh'=>.ret ((f v l' h').rs d)):=by
 intro c τ a w hr hp K Q' hK
 obtain⟨T,β,hh⟩:=hr
 rw [c8] at hp hK
 cases hx:ev τ x with
 |none=>rw [hx] at hp;exact hp.elim
 |some v=>
  rw [hx] at hp hK
  simp only [wc] at hp hK
  cases hl:evI τ l with
  |none=>rw [hl] at hp;exact hp.elim
  |some l'=>
   rw [hl] at hp hK
   simp only [wc] at hp hK
   cases hh':evI τ h with
   |none=>rw [hh'] at hp;exact hp.elim
   |some h'=>
    rw [hh'] at hp hK
    refine V1.put hh hd hp ho (λr hr=>?_) hK
    obtain⟨h1,h2⟩:=hs c T β τ a w hh v l' h' (eP hh hx) (z6 hh hl) (z6 hh hh') r hr
    exact⟨λi hi=>gY hh hx i (h1 i hi),h2⟩
theorem aih {l h:Option Operand}(ht:P.underlying t=some .string) (hd:d<N):fv P N ⟨some d,.slice t x l h none,ty,pos,af,g⟩ (bY x λv=>qG l λl'=>qG h λh'=>.ret ((X1 true 0 v l' h').rs d)):=
 fv.cut rfl hd λc T β τ a w hh v l' h' hv e2 e3 r hr=>by
  unfold X1 at hr
  split at hr
  ·rename_i s
   obtain⟨⟨h0,h1,h2⟩,rfl⟩:=hr
   have e1:a.eval x= .string s:=hv
   refine⟨nob _ _,.string (s.extract (l'.getD 0).toNat (h'.getD s.size).toNat),?_,ζ⟩
   have hbd:=xS (P:=P) false s.size s.size l' h' h0 h1 h2 w
   simp [execOp,e1,e2,e3,Instr.sliceAt,Instr.slice,run_underlying ht,hbd]
  all_goals exact hr.elim
theorem E6 {e:TypeId}{sz:Nat}(he:P.underlying t=some (.slice e)) (dj:∀w,(sizeOf e).run P w= .ok sz w) {b o len cap:Nat}{l h:Option Int}(h0:0≤l.getD 0) (h1:l.getD 0≤h.getD len) (h2:h.getD len≤len) (hc:len≤cap) (w:World):
  (Instr.slice t (.slice (some ⟨b,o,none⟩) len cap) (l.map (Value.int .i64)) (h.map (Value.int .i64)) none).run P w=
   .ok (.slice (some ⟨b,if cap=(l.getD 0).toNat then o else o+(l.getD 0).toNat*sz,none⟩) ((h.getD len).toNat-(l.getD 0).toNat) (cap-(l.getD 0).toNat)) w:=by
 have hbd:=xS (P:=P) true len cap l h h0 h1 (by omega) w
 by_cases EY:cap=(l.getD 0).toNat
 ·simp [Instr.slice,run_underlying he,hbd,dj,←EY]
 ·simp [Instr.slice,run_underlying he,hbd,dj,EY,ga]
theorem zl {e:TypeId}{sz:Nat}(he:P.underlying t=some (.slice e)) (dj:∀w,(sizeOf e).run P w= .ok sz w) {p:Option Addr}{cap:Nat}{l h:Option Int}(h0:0≤l.getD 0) (h1:l.getD 0≤h.getD ((0:Nat):Int)) (h2:h.getD ((0:Nat):Int)≤((0:Nat):Int)) (w:World):
  ∃p',(Instr.slice t (.slice p 0 cap) (l.map (Value.int .i64)) (h.map (Value.int .i64)) none).run P w= .ok (.slice p' 0 cap) w:=by
 have hbd:=xS (P:=P) true 0 cap l h h0 h1 (by omega) w
 have hz1:(l.getD 0).toNat=0:=by omega
 have hz2:(h.getD ((0:Nat):Int)).toNat=0:=by omega
 simp only [Int.ofNat_zero] at hbd hz2
 exact⟨if cap=0 then p else p.map (·.add 0),by simp [Instr.slice,run_underlying he,hbd,dj,hz1,hz2]⟩
theorem wq {cs:Array Value}{o:Nat}{ek:EK}{l:List (EK.Ty ek)}(h:win cs o (flat ek l)) (a b:Nat):win cs (o+a*ek.length) (flat ek ((l.drop a).take b)):=by
 intro j v hj
 have h1:(flat ek ((l.drop a).take b))[j]?=((flat ek l).drop (a*ek.length))[j]?:=by
  rw [ph,←mX,List.getElem?_take]
  split
  ·rfl
  ·rename_i bU
   exfalso
   have:=(ZC0.1 hj).1
   rw [←mX,ZB9] at this
   omega
 rw [h1,List.getElem?_drop] at hj
 rw [ZF7]
 exact h _ _ hj
theorem afo {sz:Nat}{l h:Option Operand}(ht:rL P t=some sz) (hd:d<N):fv P N ⟨some d,.slice t x l h none,ty,pos,af,g⟩ (bY x λv=>qG l λl'=>qG h λh'=>.ret ((X1 false sz v l' h').rs d)):=
 fv.cut rfl hd λc T β τ a w hh v l' h' hv e2 e3 r hr=>by
  obtain⟨e,he,dj⟩:=tU ht
  have fin:∀{v1 v2:Value},a.eval x=v1→(Instr.slice t v1 (l'.map (Value.int .i64)) (h'.map (Value.int .i64)) none).run P w= .ok v2 w→(v1 matches .slice _ _ _)=true→(execOp a.eval ⟨some d,.slice t x l h none,ty,pos,af,g⟩).run P w= .ok (.value v2) w:=by
   intro v1 v2 e1 fk hm
   cases v1<;>first|cases hm|skip
   simp [execOp,e1,e2,e3,Instr.sliceAt,run_underlying he,fk]
  unfold X1 at hr
  split at hr
  ·exact hr.elim
  ·rename_i ek n
   cases hb:Nat.beq ek.length sz with
   |false=>rw [hb] at hr;exact hr.elim
   |true=>
    rw [hb] at hr
    obtain⟨⟨h0,h1,h2⟩,rfl⟩:=hr
    have hs:ek.length=sz:=by simpa using hb
    refine⟨λk hk=>by simp [AV.boxes,A0.boxes,SV.boxes] at hk,?_⟩
    rcases hv with ⟨hl,p,e1⟩ |⟨b,o,cap,m,e1,hlc,hT,hle⟩
    ·subst hl
     obtain⟨p',fk⟩:=zl (P:=P) he dj (p:=p) (cap:=0) h0 h1 h2 w
     exact⟨_,fin e1 fk rfl,.inl ⟨by omega,p',rfl⟩⟩
    ·have fk:=E6 (P:=P) he dj (b:=b) (o:=o*ek.length) (len:=n) (cap:=cap) h0 h1 h2 hlc w
     refine⟨_,fin e1 fk rfl,?_⟩
     by_cases hc:cap=(l'.getD 0).toNat
     ·refine .inl ⟨by omega,some ⟨b,o*ek.length,none⟩,?_⟩
      rw [if_pos hc]
      congr 1<;>omega
     ·refine .inr ⟨b,o+(l'.getD 0).toNat,cap-(l'.getD 0).toNat,m,?_,by omega,hT,by omega⟩
      rw [if_neg hc,ZE3,hs]
  ·rename_i ek vs
   cases hb:Nat.beq ek.length sz with
   |false=>rw [hb] at hr;exact hr.elim
   |true=>
    rw [hb] at hr
    obtain⟨⟨h0,h1,h2⟩,rfl⟩:=hr
    have hs:ek.length=sz:=by simpa using hb
    refine⟨λk hk=>by simp [AV.boxes,A0.boxes,SV.boxes] at hk,?_⟩
    rcases hv with ⟨hl,p,cap,e1⟩ |⟨b,o,cap,cs,te,fr,e1,hlc,hT,hw⟩
    ·subst hl
     obtain⟨p',fk⟩:=zl (P:=P) he dj (p:=p) (cap:=cap) h0 h1 h2 w
     exact⟨_,fin e1 fk rfl,.inl ⟨by simp,p',cap,rfl⟩⟩
    ·have fk:=E6 (P:=P) he dj (b:=b) (o:=o) (len:=vs.length) (cap:=cap) h0 h1 h2 hlc w
     refine⟨_,fin e1 fk rfl,?_⟩
     have hlen:((vs.drop (l'.getD 0).toNat).take ((h'.getD (vs.length:Int)).toNat-(l'.getD 0).toNat)).length=(h'.getD (vs.length:Int)).toNat-(l'.getD 0).toNat:=by
      rw [ZB9,ZC8];omega
     by_cases hc:cap=(l'.getD 0).toNat
     ·refine .inl ⟨?_,some ⟨b,o,none⟩,cap-(l'.getD 0).toNat,?_⟩
      ·rw [←ZD4,hlen];omega
      ·rw [if_pos hc];congr 1;omega
     ·refine .inr ⟨b,o+(l'.getD 0).toNat*ek.length,cap-(l'.getD 0).toNat,cs,te,fr,?_,by omega,hT,wq hw _ _⟩
      rw [if_neg hc,hlen,hs]
  ·rename_i ek vs
   cases hb:Nat.beq ek.length sz with
   |false=>rw [hb] at hr;exact hr.elim
   |true=>
    rw [hb] at hr
    obtain⟨⟨h0,h1,h2⟩,rfl⟩:=hr
    have hs:ek.length=sz:=by simpa using hb
    refine⟨λk hk=>by simp [AV.boxes,A0.boxes,SV.boxes] at hk,?_⟩
    rcases hv with ⟨hl,p,cap,e1⟩ |⟨b,o,cap,cs,e1,hlc,hT,hw⟩
    ·subst hl
     obtain⟨p',fk⟩:=zl (P:=P) he dj (p:=p) (cap:=cap) h0 h1 h2 w
     exact⟨_,fin e1 fk rfl,.inl ⟨by simp,p',cap,rfl⟩⟩
    ·have fk:=E6 (P:=P) he dj (b:=b) (o:=o) (len:=vs.length) (cap:=cap) h0 h1 h2 hlc w
     refine⟨_,fin e1 fk rfl,?_⟩
     have hlen:((vs.drop (l'.getD 0).toNat).take ((h'.getD (vs.length:Int)).toNat-(l'.getD 0).toNat)).length=(h'.getD (vs.length:Int)).toNat-(l'.getD 0).toNat:=by
      rw [ZB9,ZC8];omega
     by_cases hc:cap=(l'.getD 0).toNat
     ·refine .inl ⟨?_,some ⟨b,o,none⟩,cap-(l'.getD 0).toNat,?_⟩
      ·rw [←ZD4,hlen];omega
      ·rw [if_pos hc];congr 1;omega
     ·refine .inr ⟨b,o+(l'.getD 0).toNat*ek.length,cap-(l'.getD 0).toNat,cs,?_,by omega,hT,wq hw _ _⟩
      rw [if_neg hc,hlen,hs]
  ·rename_i i sz' o m
   cases hb:Nat.beq sz' sz with
   |false=>rw [hb] at hr;exact hr.elim
   |true=>
    rw [hb] at hr
    obtain⟨⟨h0,h1,h2⟩,rfl⟩:=hr
    have hs:sz'=sz:=by simpa using hb
    refine⟨λk hk=>hk,?_⟩
    rcases hv with ⟨hl,p,e1⟩ |⟨cap,n,e1,hlc,hT,hle⟩
    ·subst hl
     obtain⟨p',fk⟩:=zl (P:=P) he dj (p:=p) (cap:=0) h0 h1 h2 w
     exact⟨_,fin e1 fk rfl,.inl ⟨by omega,p',rfl⟩⟩
    ·have fk:=E6 (P:=P) he dj (b:=β i) (o:=o*sz') (len:=m) (cap:=cap) h0 h1 h2 hlc w
     refine⟨_,fin e1 fk rfl,?_⟩
     by_cases hc:cap=(l'.getD 0).toNat
     ·refine .inl ⟨by omega,some ⟨β i,o*sz',none⟩,?_⟩
      rw [if_pos hc]
      congr 1<;>omega
     ·refine .inr ⟨cap-(l'.getD 0).toNat,n,?_,by omega,hT,?_⟩
      ·rw [if_neg hc,ZE3,hs]
      ·have:o+(l'.getD 0).toNat+(cap-(l'.getD 0).toNat)=o+cap:=by omega
       rw [this];exact hle
  ·exact hr.elim
end
end GL
namespace GL
section
variable {P:Program}{N:Nat}{τ:St}
variable {d:Nat}{x y z:Operand}{t u ty:TypeId}{pos:String}{af:Array Edge}{g:Option (Nat×Bool)}
def sR (i:Nat) (k:AV→Q Rs):Q Rs:=.ask (.b i) fun
 |some v=>k v
 |none=>.ret .no
def adD (agg:Bool) (n d:Nat) (v:AV):Q Rs:=
 match v with
 |.o (.s (.bp i o))=>sR i fun
  |.o (.a l)=>match agg with
   |true=>.ret (bif Nat.ble (o+n) l.length then .go [(.s d,.a ((l.drop o).take n))] else .no)
   |false=>match l[o]? with
    |some y=>.ret (.go [(.s d,.s y)])
    |none=>.ret .no
  |_=>.ret .no
 |.o (.s (.xp i sz k j))=>sR i fun
  |.rs ek l=>bif Nat.beq ek.length sz then (match agg with
   |true=>.ret (bif Nat.ble (j+n) sz then .mZ (k<l.length) [(.s d,.a (((EK.AX ek (nth ek l k)).drop j).take n))] else .no)
   |false=>match (EK.AX ek (nth ek l k))[j]? with
    |some y=>.ret (.mZ (k<l.length) [(.s d,.s y)])
    |none=>.ret .no) else .ret .no
  |.o (.a l)=>bif Nat.beq sz 1&&Nat.beq j 0 then (match agg with
   |true=>.ret .no
   |false=>match l[k]? with
    |some y=>.ret (.go [(.s d,.s y)])
    |none=>.ret .no) else .ret .no
  |_=>.ret .no
 |.o (.s (.ep ek j))=>match agg with
  |true=>.ret (bif Nat.ble (j+n) ek.length then .ex True (EK.Ty ek) (EK.ok ek) [(.s d,λx=>.a (((EK.AX ek x).drop j).take n))] else .no)
  |false=>match ek[j]? with
   |some c=>.ret (.ex True c.Ty c.ok [(.s d,λx=>.s (c.sv x))])
   |none=>.ret .no
 |.o (.s (.vp ek x j))=>match agg with
  |true=>.ret (bif Nat.ble (j+n) ek.length then .go [(.s d,.a (((EK.AX ek x).drop j).take n))] else .no)
  |false=>match (EK.AX ek x)[j]? with
   |some y=>.ret (.go [(.s d,.s y)])
   |none=>.ret .no
 |.o (.s (.vs l j))=>match agg with
  |true=>.ret (bif Nat.ble (j+n) l.length then .go [(.s d,.a (cvs ((l.drop j).take n)))] else .no)
  |false=>match l[j]? with
   |some y=>.ret (.go [(.s d,.s y.sv)])
   |none=>.ret .no
 |_=>.ret .no
theorem run_load {agg:Bool}{n:Nat}(hS:Sh P t=some (agg,n)) {w:World}{b o:Nat}{cs:Array Value}{e:TypeId}{fr:Nat×Nat}(hb:w.heap[b]?=some (.cells cs e fr)) {ρ:Operand→Value}(hx:ρ x= .pointer (some ⟨b,o,none⟩)) {dst:Option Nat}:
  (agg=true→∀vs:List Value,vs.length=n→win cs o vs→(execOp ρ ⟨dst,.load t x,ty,pos,af,g⟩).run P w= .ok (.value (.agg vs.toArray)) w)∧
  (agg=false→∀v,cs[o]?=some v→(execOp ρ ⟨dst,.load t x,ty,pos,af,g⟩).run P w= .ok (.value v) w):=by
 refine⟨λh vs hl hw=>?_,λh v hv=>?_⟩
 ·subst h
  have:=ur (P:=P) hS (w:=w) (a:=⟨b,o,none⟩) (cs:=vs) hl (λj v hj=>by rw [ga,rr hb];exact hw j v hj)
  simp [execOp,hx,Instr.loadAt,Instr.sureAddr,this]
 ·subst h
  have:=uq (P:=P) hS (w:=w) (a:=⟨b,o,none⟩) (v:=v) (by rw [rr hb];exact hv)
  simp [execOp,hx,Instr.loadAt,Instr.sureAddr,this]
theorem fv.value {c:Ctx}{T:bb}{β:Nat→Nat}{a:Act}{w:World}{o:Oper}(hh:Holds N c T β τ a w) (ho:o.dst=some d) (hd:d<N) {av:AV}{v:Value}(hex:(execOp a.eval o).run P w= .ok (.value v) w) (c6:av.rel T β v) (hnm:∀i∈av.boxes,τ (.b i)≠none)
  {K:Act→World→Prop} {Q':Exit→Act→World→Prop} (hK:∀a',Rel N c (τ.ap [(.s d,av)]) a' w→K a' w):o.wp P a w K Q':=by
 unfold Oper.wp
 rw [hex]
 show K (a.put o.dst v) w
 rw [ho]
 exact hK _ ⟨T,β,hh.put hd c6 hnm⟩
theorem GC {T:bb}{β:Nat→Nat}(ek:EK) (x:EK.Ty ek) (j n:Nat):dN T β (((EK.AX ek x).drop j).take n) (((EK.cells ek x).drop j).take n):=wz n (wA j (EK.E4 ek x))
theorem F0 {cs:Array Value}{o:Nat}{l:List Value}(h:win cs o l) (j n:Nat):win cs (o+j) ((l.drop j).take n):=by
 intro k v hk
 rw [List.getElem?_take] at hk
 split at hk
 ·rw [List.getElem?_drop] at hk
  rw [ZF7];exact h _ _ hk
 ·cases hk
theorem FY {cs:Array Value}{l:List Value}{o:Nat}(h:(cs.toList.drop o).take l.length=l):win cs o l:=by
 intro j v hj
 have bU:=(ZC0.1 hj).1
 rw [←h,List.getElem?_take,if_pos bU,List.getElem?_drop] at hj
 simpa using hj
theorem ahz {ek:EK}{x:EK.Ty ek}{j n i:Nat}(h:i∈cc (((EK.AX ek x).drop j).take n)):False:=by
 have:=nj h
 rw [EK.A9] at this
 cases this
theorem aiX {ek:EK}{x:EK.Ty ek}{j i:Nat}{y:SV}(hy:(EK.AX ek x)[j]?=some y) (h:i∈y.boxes):False:=by
 have:i∈cc (EK.AX ek x):=gJ.2 ⟨y,ZB6 hy,h⟩
 rw [EK.A9] at this
 cases this
theorem UR {cs:Array Value}{ek:EK}{l z:List (EK.Ty ek)}(h:cs.toList=flat ek (l++z)):win cs 0 (flat ek l):=by
 intro j v hj
 rw [ZA6]
 have h2:cs.toList[j]?=some v:=by
  rw [h,gD]
  exact ZC2 (ZC0.1 hj).1 ▸ hj
 simpa using h2
theorem FZ {cs:Array Value}{ek:EK}{n:Nat}{l:List (EK.Ty ek)}(h:agy ek n l cs):win cs 0 (flat ek l):=UR (z:=[]) (by simpa using h.2.2)
theorem ae8 (ek:EK):∀(x:EK.Ty ek) (j:Nat) (c:CP),ek[j]?=some c→∃v:c.Ty,(EK.cells ek x)[j]?=some (c.val v)∧(EK.ok ek x→c.ok v):=by
 induction ek with
 |nil=>intro x j c h;simp at h
 |cons c0 l ih=>
  intro x j c h
  cases l with
  |nil=>
   cases j with
   |zero=>simp at h;subst h;exact⟨x,rfl,λh=>h⟩
   |succ j=>simp at h
  |cons c1 l=>
   cases j with
   |zero=>simp at h;subst h;exact⟨x.1,rfl,λh=>h.1⟩
   |succ j=>
    obtain⟨v,h1,h2⟩:=ih x.2 j c (by simpa using h)
    exact⟨v,by simpa [EK.cells] using h1,λh=>h2 h.2⟩
theorem aaq:∀l:List CV,(cvs l).length=l.length
 |[]=>rfl
 |_::l=>by simp [cvs,aaq l]
theorem LN {T:bb}:∀{l:List CV}{cs:List Value}(n:Nat),xl T l cs→xl T (l.take n) (cs.take n)
 |_,_,0,_=>by simp [xl]
 |[],[],_,_=>by simp [xl]
 |_::_,[],_,h=>h.elim
 |[],_::_,_,h=>h.elim
 |_::l,_::cs,n+1,h=>⟨h.1,LN n h.2⟩
theorem LO {T:bb}:∀{l:List CV}{cs:List Value}(n:Nat),xl T l cs→xl T (l.drop n) (cs.drop n)
 |_,_,0,h=>by simpa using h
 |[],[],_,_=>by simp [xl]
 |_::_,[],_,h=>h.elim
 |[],_::_,_,h=>h.elim
 |_::l,_::cs,n+1,h=>by simpa using LO n h.2
theorem Y0 {T:bb}:∀{l:List CV}{cs:List Value},xl T l cs→∀{i:Nat}{x:CV},l[i]?=some x→∃v,cs[i]?=some v∧x.rel T v
 |[],[],_,i,x,hx=>by simp at hx
 |_::_,[],h,_,_,_=>h.elim
 |[],_::_,h,_,_,_=>h.elim
 |y::l,v::cs,h,i,x,hx=>by
  cases i with
  |zero=>simp at hx;subst hx;exact⟨v,by simp,h.1⟩
  |succ i=>simpa using Y0 h.2 (by simpa using hx)
theorem agI {x:CV}{i:Nat}(h:i∈x.sv.boxes):False:=by cases x<;>simp [CV.sv,SV.boxes] at h
theorem aiY {i:Nat}:∀{l:List CV},i∈cc (cvs l)→False
 |[],h=>by simp [cvs,cc] at h
 |x::l,h=>by
  simp only [cvs,cc,ZB4] at h
  rcases h with h |h
  ·exact agI h
  ·exact aiY h
theorem aie {agg:Bool}{n:Nat}(hS:Sh P t=some (agg,n)) (hd:d<N):fv P N ⟨some d,.load t x,ty,pos,af,g⟩ (bY x λv=>adD agg n d v):=by
 intro c τ a w hr hp K Q' hK
 obtain⟨T,β,hh⟩:=hr
 rw [c8] at hp hK
 cases hx:ev τ x with
 |none=>rw [hx] at hp;exact hp.elim
 |some v=>
  rw [hx] at hp hK
  have hv:=eP hh hx
  simp only at hp hK
  unfold adD at hp hK
  split at hp
  ·rename_i i o
   simp only [sR,Q.run] at hp hK
   have e:a.eval x= .pointer (some ⟨β i,o,none⟩):=hv
   cases hb:τ (.b i) with
   |none=>rw [hb] at hp;exact hp.elim
   |some av=>
    rw [hb] at hp hK
    simp only at hp hK
    split at hp
    ·rename_i l
     obtain⟨cs,te,hc,c6⟩:=hh.boxes i _ hb (by intro e;cases e)
     have vC:dN T β l cs.toList:=c6
     have hlen:=jj vC
     have hld:=run_load (x:=x) (ty:=ty) (pos:=pos) (af:=af) (g:=g) hS hc e (dst:=some d)
     cases agg with
     |true=>
      simp only [Q.run] at hp hK
      cases qp:Nat.ble (o+n) l.length with
      |false=>rw [qp] at hp;exact hp.elim
      |true=>
       rw [qp] at hp hK
       have hle:=zqNlb qp
       refine fv.value (av:=.a ((l.drop o).take n)) hh rfl hd (hld.1 rfl ((cs.toList.drop o).take n) (by rw [ZB9,ZC8];omega) (FY (by rw [ZB9,ZC8];congr 1;omega))) ⟨_,rfl,wz n (wA o vC)⟩ (λk hk=>hh.named (.b i) _ hb k (nj hk)) (λa' h=>hK _ _ _ rfl h)
     |false=>
      simp only at hp hK
      split at hp
      ·rename_i y hy
       simp only [hy] at hK
       obtain⟨v,hv',uK⟩:=qU vC hy
       exact fv.value (av:=.s y) hh rfl hd (hld.2 rfl v (by simpa using hv')) uK (λk hk=>hh.named (.b i) _ hb k (gJ.2 ⟨y,ZB6 hy,hk⟩)) (λa' h=>hK _ _ _ rfl h)
      ·exact hp.elim
    ·exact hp.elim
  ·rename_i i sz k j
   simp only [sR,Q.run] at hp hK
   obtain⟨e,hj⟩:=hv
   cases hb:τ (.b i) with
   |none=>rw [hb] at hp;exact hp.elim
   |some av=>
    rw [hb] at hp hK
    simp only at hp hK
    split at hp
    ·rename_i ek l
     obtain⟨cs,te,hc,fA,zz,mq,hz⟩:=hh.boxes i _ hb (by intro e;cases e)
     have hld:=run_load (x:=x) (ty:=ty) (pos:=pos) (af:=af) (g:=g) hS hc e (dst:=some d)
     simp only at hK
     cases hq:Nat.beq ek.length sz with
     |false=>rw [hq] at hp;exact hp.elim
     |true=>
      rw [hq] at hp hK
      have dj:ek.length=sz:=by simpa using hq
      subst dj
      have hw:∀hk:k<l.length,win cs (k*ek.length) (EK.cells ek (nth ek l k)):=λhk=>by
       have:=E3 (UR mq) hk
       rwa [ZA6] at this
      cases agg with
      |true=>
       simp only [cond_true,Q.run] at hp hK
       cases qp:Nat.ble (j+n) ek.length with
       |false=>rw [qp] at hp;exact hp.elim
       |true=>
        rw [qp] at hp hK
        have hle:=zqNlb qp
        have hk:k<l.length:=hp
        refine fv.value (av:=.a (((EK.AX ek (nth ek l k)).drop j).take n)) hh rfl hd (hld.1 rfl (((EK.cells ek (nth ek l k)).drop j).take n) (by rw [ZB9,ZC8,EK.bK];omega) (F0 (hw hk) j n)) ⟨_,rfl,GC _ _ j n⟩ (λk hk=>(ahz hk).elim) (λa' h=>hK _ _ _ rfl h)
      |false=>
       simp only [cond_true] at hp hK
       split at hp
       ·rename_i y hy
        simp only [hy] at hK
        have hk:k<l.length:=hp
        obtain⟨v,hv',uK⟩:=qU (EK.E4 (T:=T) (β:=β) ek (nth ek l k)) hy
        exact fv.value (av:=.s y) hh rfl hd (hld.2 rfl v (hw hk j v hv')) uK (λk hk=>(aiX hy hk).elim) (λa' h=>hK _ _ _ rfl h)
       ·exact hp.elim
    ·rename_i l
     obtain⟨cs,te,hc,c6⟩:=hh.boxes i _ hb (by intro e;cases e)
     have vC:dN T β l cs.toList:=c6
     simp only at hK
     cases hq:Nat.beq sz 1&&Nat.beq j 0 with
     |false=>rw [hq] at hp;exact hp.elim
     |true=>
      rw [hq] at hp hK
      simp only [ZA9,Nat.beq_eq] at hq
      obtain⟨rfl,rfl⟩:=hq
      have hld:=run_load (x:=x) (ty:=ty) (pos:=pos) (af:=af) (g:=g) hS hc e (dst:=some d)
      simp only [cond_true] at hp hK
      cases agg with
      |true=>exact hp.elim
      |false=>
       simp only at hp hK
       split at hp
       ·rename_i y hy
        simp only [hy] at hK
        obtain⟨v,hv',uK⟩:=qU vC hy
        exact fv.value (av:=.s y) hh rfl hd (hld.2 rfl v (by simpa using hv')) uK (λk hk=>hh.named (.b i) _ hb k (gJ.2 ⟨y,ZB6 hy,hk⟩)) (λa' h=>hK _ _ _ rfl h)
       ·exact hp.elim
    ·exact hp.elim
  ·rename_i ek j
   obtain⟨b,o,m,e,hT,ho,hj⟩:=hv
   obtain⟨fA,cs,te,fr,l,hc,ke,l5⟩:=hh.typed b _ hT
   have hld:=run_load (x:=x) (ty:=ty) (pos:=pos) (af:=af) (g:=g) hS hc e (dst:=some d)
   have hol:o<l.length:=by rw [l5.1];exact ho
   have hw:win cs (o*ek.length) (EK.cells ek (nth ek l o)):=by
    have:=E3 (FZ l5) hol
    rwa [ZA6] at this
   have cG:EK.ok ek (nth ek l o):=l5.2.1 _ (ZB6 (oD hol))
   cases agg with
   |true=>
    simp only [Q.run] at hp hK
    cases qp:Nat.ble (j+n) ek.length with
    |false=>rw [qp] at hp;exact hp.elim
    |true=>
     rw [qp] at hp hK
     have hle:=zqNlb qp
     refine fv.value (av:=.a (((EK.AX ek (nth ek l o)).drop j).take n)) hh rfl hd (hld.1 rfl (((EK.cells ek (nth ek l o)).drop j).take n) (by rw [ZB9,ZC8,EK.bK];omega) (F0 hw j n)) ⟨_,rfl,GC _ _ j n⟩ (λk hk=>(ahz hk).elim) (λa' h=>hK _ _ _ ⟨_,cG,rfl⟩ h)
   |false=>
    simp only at hp hK
    split at hp
    ·rename_i cp hcp
     simp only [hcp] at hK
     obtain⟨v,h1,h2⟩:=ae8 ek (nth ek l o) j cp hcp
     exact fv.value (av:=.s (cp.sv v)) hh rfl hd (hld.2 rfl _ (hw j _ h1)) (cp.UX v) (λk hk=>by cases cp<;>simp [CP.sv,AV.boxes,A0.boxes,SV.boxes] at hk) (λa' h=>hK _ _ _ ⟨v,h2 cG,rfl⟩ h)
    ·exact hp.elim
  ·rename_i ek rec j
   obtain⟨b,o,cs,e,hj,hT,hw⟩:=hv
   obtain⟨te,fr,hc⟩:=FA hh.typed hT
   have hld:=run_load (x:=x) (ty:=ty) (pos:=pos) (af:=af) (g:=g) hS hc e (dst:=some d)
   cases agg with
   |true=>
    simp only [Q.run] at hp hK
    cases qp:Nat.ble (j+n) ek.length with
    |false=>rw [qp] at hp;exact hp.elim
    |true=>
     rw [qp] at hp hK
     have hle:=zqNlb qp
     refine fv.value (av:=.a (((EK.AX ek rec).drop j).take n)) hh rfl hd (hld.1 rfl (((EK.cells ek rec).drop j).take n) (by rw [ZB9,ZC8,EK.bK];omega) (F0 hw j n)) ⟨_,rfl,GC _ _ j n⟩ (λk hk=>(ahz hk).elim) (λa' h=>hK _ _ _ rfl h)
   |false=>
    simp only at hp hK
    split at hp
    ·rename_i y hy
     simp only [hy] at hK
     obtain⟨v,hv',uK⟩:=qU (EK.E4 (T:=T) (β:=β) ek rec) hy
     exact fv.value (av:=.s y) hh rfl hd (hld.2 rfl v (hw j v hv')) uK (λk hk=>(aiX hy hk).elim) (λa' h=>hK _ _ _ rfl h)
    ·exact hp.elim
  ·rename_i l j
   obtain⟨b,cs,e,hT,hC⟩:=hv
   obtain⟨te,fr,hc⟩:=FA hh.typed hT
   have vC:dN T β (cvs l) cs.toList:=zo hC
   have hlen:=jj vC
   rw [aaq] at hlen
   have hld:=run_load (x:=x) (ty:=ty) (pos:=pos) (af:=af) (g:=g) hS hc e (dst:=some d)
   cases agg with
   |true=>
    simp only [Q.run] at hp hK
    cases qp:Nat.ble (j+n) l.length with
    |false=>rw [qp] at hp;exact hp.elim
    |true=>
     rw [qp] at hp hK
     have hle:=zqNlb qp
     refine fv.value (av:=.a (cvs ((l.drop j).take n))) hh rfl hd (hld.1 rfl ((cs.toList.drop j).take n) (by rw [ZB9,ZC8];omega) (FY (by rw [ZB9,ZC8];congr 1;omega))) ⟨_,rfl,zo (LN n (LO j hC))⟩ (λk hk=>(aiY hk).elim) (λa' h=>hK _ _ _ rfl h)
   |false=>
    simp only at hp hK
    split at hp
    ·rename_i y hy
     simp only [hy] at hK
     obtain⟨v,hv',uK⟩:=Y0 hC hy
     exact fv.value (av:=.s y.sv) hh rfl hd (hld.2 rfl v (by simpa using hv')) (CV.acM.1 uK) (λk hk=>(agI hk).elim) (λa' h=>hK _ _ _ rfl h)
    ·exact hp.elim
  ·exact hp.elim
