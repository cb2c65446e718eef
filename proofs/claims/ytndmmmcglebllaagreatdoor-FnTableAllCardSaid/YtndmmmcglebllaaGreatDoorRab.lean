/- Part 2 of the proof of a drawn law. -/
import Derived.Laws.Append
import Derived.Laws.BytesString
import Derived.Laws.Concat
import Derived.Laws.MakeOwn
import Derived.Laws.Strings
import Derived.Laws.StructEq
import Derived.Laws.Tables
import Derived.WalkLawsBesides
import Derived.Test.YtndmmmcglebllaaGreatDoorRaa
set_option maxHeartbeats 20000000
set_option maxRecDepth 100000
set_option linter.all false
namespace Go.Proofs.YtndmmmcglebllaaGreatDoor
namespace GL
inductive V1 where
 |no
 |go (v:AV)
 |oJ (p:Prop) (v:AV)
def V1.rs (d:Nat):V1->Rs
 |.no=>.no
 |.go v=>.go [(.s d,v)]
 |.oJ p v=>.oJ p [(.s d,v)]
def V1.yy:V1->AV->Prop
 |.no,_=>False
 |.go v,r=>r=v
 |.oJ p v,r=>p/\r=v
def ev (τ:St):Operand->Option AV
 |.tmp t=>τ (.s t)
 |.const v=>some (.s (.v v))
 |.func f=>some (.fn f [])
 |.global g=>some (.s (.v (.pointer (some ⟨g,0,none⟩))))
def cq (x:Operand) (k:AV->Q Rs):Q Rs:=
 match x with
 |.tmp t=>.ask (.s t) fun
  |some v=>k v
  |none=>.ret .no
 |.const v=>k (.s (.v v))
 |.func f=>k (.fn f [])
 |.global g=>k (.s (.v (.pointer (some ⟨g,0,none⟩))))
theorem dJ (τ:St) (x:Operand) (k:AV->Q Rs):(cq x k).run τ=match ev τ x with
  |some v=>(k v).run τ
  |none=>.no:=by
 cases x with
 |tmp t=>
  simp only [cq,Q.run,ev]
  cases τ (.s t)<;>rfl
 |_=>rfl
section
variable {P:Program}{N:Nat}{τ:St}
def fA {c:Ctx}{T:a8}{β:Nat->Nat}{a:Act}{w:World}(h:Holds N c T β τ a w) {x:Operand}{av:AV}(hx:ev τ x=some av):av.rel T β (a.eval x):=by
 cases x with
 |tmp t=>
  obtain⟨v,hv,hr⟩:=h.jD t av hx
  have:a.eval (.tmp t)=v:=by
   show a.tmps.getD t undef=v
   rw [ZF7,hv];rfl
  rw [this];exact hr
 |const v=>cases hx;rfl
 |func f=>cases hx;exact⟨#[],rfl,rfl⟩
 |global g=>cases hx;rfl
def jb {c:Ctx}{T:a8}{β:Nat->Nat}{a:Act}{w:World}(h:Holds N c T β τ a w) {x:Operand}{av:AV}(hx:ev τ x=some av):∀i∈av.boxes,τ (.b i)≠none:=by
 cases x with
 |tmp t=>exact h.named (.s t) av hx
 |const v=>cases hx;intro i hi;simp [AV.boxes,A0.boxes,SV.boxes] at hi
 |func f=>cases hx;intro i hi;simp [AV.boxes,kz] at hi
 |global g=>cases hx;intro i hi;simp [AV.boxes,A0.boxes,SV.boxes] at hi
def gl (P:Program) (N:Nat) (o:Oper) (q:Q Rs):Prop:=
 ∀c τ a w,Rel N c τ a w->(q.run τ).pre->∀(K:Act->World->Prop) (Q':Exit->Act->World->Prop),
  (∀u a' w',(q.run τ).out u->Rel N c (τ.ap u) a' w'->K a' w')->o.wp P a w K Q'
def V1.put {c:Ctx}{T:a8}{β:Nat->Nat}{a:Act}{w w':World}{r:V1}{d:Nat}(hh:Holds N c T β τ a w') (hd:d<N) (hp:(r.rs d).pre) {o:Oper}(ho:o.dst=some d) {K:Act->World->Prop}{Q':Exit->Act->World->Prop}
  (h:∀v,r.yy v->(∀i∈v.boxes,τ (.b i)≠none)/\∃val,(execOp a.eval o).run P w= .ok (.value val) w'/\v.rel T β val)
  (hK:∀u a' w',(r.rs d).out u->Rel N c (τ.ap u) a' w'->K a' w'):o.wp P a w K Q':=by
 have key:∀v,r.yy v->(r.rs d).out [(.s d,v)]->o.wp P a w K Q':=by
  intro v hv ho'
  obtain⟨h1,val,h2,h3⟩:=h v hv
  unfold Oper.wp
  rw [h2]
  show K (a.put o.dst val) w'
  rw [ho]
  exact hK _ _ _ ho' ⟨T,β,hh.put hd h3 h1⟩
 cases r with
 |no=>exact hp.elim
 |go v=>exact key v rfl rfl
 |oJ p v=>exact key v ⟨hp,rfl⟩ rfl
def gl.wS {o:Oper}{d:Nat}{x:Operand}{f:AV->V1}(ho:o.dst=some d) (hd:d<N)
  (h:∀c T β τ a w,Holds N c T β τ a w->∀v,v.rel T β (a.eval x)->∀r,(f v).yy r->(∀i∈r.boxes,i∈v.boxes)/\∃val,(execOp a.eval o).run P w= .ok (.value val) w/\r.rel T β val):
  gl P N o (cq x λv=>.ret ((f v).rs d)):=by
 intro c τ a w hr hp K Q' hK
 obtain⟨T,β,hh⟩:=hr
 rw [dJ] at hp hK
 cases hx:ev τ x with
 |none=>rw [hx] at hp;exact hp.elim
 |some v=>
  rw [hx] at hp hK
  refine V1.put hh hd hp ho (λr hr=>?_) hK
  obtain⟨h1,h2⟩:=h c T β τ a w hh v (fA hh hx) r hr
  exact⟨λi hi=>jb hh hx i (h1 i hi),h2⟩
def gl.I2 {o:Oper}{d:Nat}{x y:Operand}{f:AV->AV->V1}(ho:o.dst=some d) (hd:d<N)
  (h:∀c T β τ a w,Holds N c T β τ a w->∀v u,v.rel T β (a.eval x)->u.rel T β (a.eval y)->∀r,(f v u).yy r->(∀i∈r.boxes,i∈v.boxes\/i∈u.boxes)/\∃val,(execOp a.eval o).run P w= .ok (.value val) w/\r.rel T β val):
  gl P N o (cq x λv=>cq y λu=>.ret ((f v u).rs d)):=by
 intro c τ a w hr hp K Q' hK
 obtain⟨T,β,hh⟩:=hr
 rw [dJ] at hp hK
 cases hx:ev τ x with
 |none=>rw [hx] at hp;exact hp.elim
 |some v=>
  rw [hx] at hp hK
  simp only [dJ] at hp hK
  cases hy:ev τ y with
  |none=>rw [hy] at hp;exact hp.elim
  |some u=>
   rw [hy] at hp hK
   refine V1.put hh hd hp ho (λr hr=>?_) hK
   obtain⟨h1,h2⟩:=h c T β τ a w hh v u (fA hh hx) (fA hh hy) r hr
   refine⟨λi hi=>?_,h2⟩
   rcases h1 i hi with h |h
   ·exact jb hh hx i h
   ·exact jb hh hy i h
def gl.aoC {o:Oper}{d:Nat}{x y z:Operand}{f:AV->AV->AV->V1}(ho:o.dst=some d) (hd:d<N)
  (h:∀c T β τ a w,Holds N c T β τ a w->∀v u s,v.rel T β (a.eval x)->u.rel T β (a.eval y)->s.rel T β (a.eval z)->∀r,(f v u s).yy r->(∀i∈r.boxes,i∈v.boxes\/i∈u.boxes\/i∈s.boxes)/\∃val,(execOp a.eval o).run P w= .ok (.value val) w/\r.rel T β val):
  gl P N o (cq x λv=>cq y λu=>cq z λs=>.ret ((f v u s).rs d)):=by
 intro c τ a w hr hp K Q' hK
 obtain⟨T,β,hh⟩:=hr
 rw [dJ] at hp hK
 cases hx:ev τ x with
 |none=>rw [hx] at hp;exact hp.elim
 |some v=>
  rw [hx] at hp hK
  simp only [dJ] at hp hK
  cases hy:ev τ y with
  |none=>rw [hy] at hp;exact hp.elim
  |some u=>
   rw [hy] at hp hK
   simp only [dJ] at hp hK
   cases hz:ev τ z with
   |none=>rw [hz] at hp;exact hp.elim
   |some s=>
    rw [hz] at hp hK
    refine V1.put hh hd hp ho (λr hr=>?_) hK
    obtain⟨h1,h2⟩:=h c T β τ a w hh v u s (fA hh hx) (fA hh hy) (fA hh hz) r hr
    refine⟨λi hi=>?_,h2⟩
    rcases h1 i hi with h |h |h
    ·exact jb hh hx i h
    ·exact jb hh hy i h
    ·exact jb hh hz i h
variable {d:Nat}{x y z:Operand}{t t' ty:TypeId}{pos:String}{af:Array Edge}{g:Option (Nat×Bool)}
def nob (v:Value) (l:List Nat):∀i∈(AV.s (.v v)).boxes,i∈l:=λi hi=>by simp [AV.boxes,A0.boxes,SV.boxes] at hi
def aiA (v:Bool) (l:List Nat):∀i∈(AV.s (.q v)).boxes,i∈l:=λi hi=>by simp [AV.boxes,A0.boxes,SV.boxes] at hi
def aiB (v:Value) (l m:List Nat):∀i∈(AV.s (.v v)).boxes,i∈l\/i∈m:=λi hi=>by simp [AV.boxes,A0.boxes,SV.boxes] at hi
def aen (v:Bool) (l m:List Nat):∀i∈(AV.s (.q v)).boxes,i∈l\/i∈m:=λi hi=>by simp [AV.boxes,A0.boxes,SV.boxes] at hi
def an3 (hd:d<N):gl P N ⟨some d,.move x,ty,pos,af,g⟩ (cq x λv=>.ret ((V1.go v).rs d)):=
 gl.wS rfl hd λc T β τ a w hh v hv r hr=>by
  cases hr;exact⟨λi hi=>hi,a.eval x,rfl,hv⟩
def akG (hd:d<N):gl P N ⟨some d,.assign x,ty,pos,af,g⟩ (cq x λv=>.ret ((V1.go v).rs d)):=
 gl.wS rfl hd λc T β τ a w hh v hv r hr=>by
  cases hr;exact⟨λi hi=>hi,a.eval x,rfl,hv⟩
def asB:AV->Option Bool
 |.o (.s (.q b))=>some b
 |.o (.s (.v (.bool b)))=>some b
 |_=>none
def FF {T:a8}{β:Nat->Nat}{v:AV}{b:Bool}(h:asB v=some b) {y:Value}(hr:v.rel T β y):y= .bool b:=by
 unfold asB at h
 split at h
 ·cases h;exact hr
 ·cases h;exact hr
 ·cases h
def ahT (c x y:AV):V1:=
 match c with
 |.o (.s (.v (.bool true)))=>.go x
 |.o (.s (.v (.bool false)))=>.go y
 |.o (.s (.q b))=>match asB x,asB y with
  |some p,some q=>.go (.q (bif b then p else q))
  |_,_=>.no
 |_=>.no
def an2 (hd:d<N):gl P N ⟨some d,.pick z x y,ty,pos,af,g⟩ (cq z λv=>cq x λu=>cq y λs=>.ret ((ahT v u s).rs d)):=
 gl.aoC rfl hd λc T β τ a w hh v u s hv hu hs r hr=>by
  unfold ahT at hr
  split at hr
  ·cases hr
   have e:a.eval z= .bool true:=hv
   exact⟨λi hi=>.inr (.inl hi),a.eval x,by simp [execOp,asBool,e],hu⟩
  ·cases hr
   have e:a.eval z= .bool false:=hv
   exact⟨λi hi=>.inr (.inr hi),a.eval y,by simp [execOp,asBool,e],hs⟩
  ·rename_i b
   split at hr
   ·rename_i p q h1 h2
    cases hr
    have e:a.eval z= .bool b:=hv
    have e2:=FF h1 hu
    have e3:=FF h2 hs
    refine⟨λi hi=>by simp [AV.boxes,A0.boxes,SV.boxes] at hi,.bool (bif b then p else q),?_,ζ⟩
    cases b<;>simp [execOp,asBool,e,e2,e3]
   ·exact hr.elim
  ·exact hr.elim
def anm:AV->V1
 |.o (.s (.bp i o))=>.go (.s (.bp i o))
 |.o (.s (.xp i sz k j))=>.go (.s (.xp i sz k j))
 |.o (.s (.ep ek j))=>.go (.s (.ep ek j))
 |.o (.s (.vp ek x j))=>.go (.s (.vp ek x j))
 |.o (.s (.vs l j))=>.go (.s (.vs l j))
 |_=>.no
def apN (hd:d<N):gl P N ⟨some d,.nilCheck x,ty,pos,af,g⟩ (cq x λv=>.ret ((anm v).rs d)):=
 gl.wS rfl hd λc T β τ a w hh v hv r hr=>by
  unfold anm at hr
  split at hr
  ·rename_i i o
   cases hr
   have e:a.eval x= .pointer (some ⟨β i,o,none⟩):=hv
   exact⟨λi hi=>hi,_,by simp [execOp,e],rfl⟩
  ·rename_i i sz k j
   cases hr
   obtain⟨e,hj⟩:=hv
   exact⟨λi hi=>hi,_,by simp [execOp,e],rfl,hj⟩
  ·rename_i ek j
   cases hr
   obtain⟨b,o,n,e,h2⟩:=hv
   exact⟨λi hi=>hi,_,by simp [execOp,e],b,o,n,rfl,h2⟩
  ·rename_i ek rec j
   cases hr
   obtain⟨b,o,cs,e,h2⟩:=hv
   exact⟨λi hi=>hi,_,by simp [execOp,e],b,o,cs,rfl,h2⟩
  ·rename_i l j
   cases hr
   obtain⟨b,cs,e,h2⟩:=hv
   exact⟨λi hi=>hi,_,by simp [execOp,e],b,cs,rfl,h2⟩
  ·exact hr.elim
abbrev gz:Int:= -9223372036854775808
abbrev imax:Int:=9223372036854775807
def qo {n:Int}(h1:gz<=n) (h2:n<=imax):IntKind.i64.wrap n=n:=IntWalk.i64_in n ⟨h1,h2⟩
def wrap_u8 {n:Int}(h1:0<=n) (h2:n<=255):IntKind.u8.wrap n=n:=by
 simp [IntKind.wrap,IntKind.signed,IntKind.bits]
 omega
def iop (op:BinOp) (x y:Int):V1:=
 match op with
 |.add=>.oJ (gz<=x+y/\x+y<=imax) (.int (x+y))
 |.sub=>.oJ (gz<=x-y/\x-y<=imax) (.int (x-y))
 |.mul=>.oJ (gz<=x*y/\x*y<=imax) (.int (x*y))
 |.quo=>.oJ (0<=x/\0<y/\x<=imax) (.int (x / y))
 |.rem=>.oJ (0<=x/\0<y) (.int (x % y))
 |.eql=>.go (.q (decide (x=y)))
 |.neq=>.go (.q (decide (x≠y)))
 |.lss=>.go (.q (decide (x<y)))
 |.leq=>.go (.q (decide (x<=y)))
 |.gtr=>.go (.q (decide (x>y)))
 |.geq=>.go (.q (decide (x>=y)))
 |.xor=>.oJ (0<=x/\0<=y/\x<=imax/\y<=imax) (.int ((x.toNat ^^^ y.toNat:Nat):Int))
 |_=>.no
def uop (op:BinOp) (x y:Int):V1:=
 match op with
 |.add=>.oJ (0<=x+y/\x+y<=255) (.byte (x+y))
 |.sub=>.oJ (0<=x-y/\x-y<=255) (.byte (x-y))
 |.mul=>.oJ (0<=x*y/\x*y<=255) (.byte (x*y))
 |.eql=>.go (.q (decide (x=y)))
 |.neq=>.go (.q (decide (x≠y)))
 |.lss=>.go (.q (decide (x<y)))
 |.leq=>.go (.q (decide (x<=y)))
 |.gtr=>.go (.q (decide (x>y)))
 |.geq=>.go (.q (decide (x>=y)))
 |_=>.no
def sop (op:BinOp) (x y:ByteArray):V1:=
 match op with
 |.add=>.oJ (((x.size+y.size:Nat):Int)<=imax) (.str (x++y))
 |.eql=>.go (.q (decide (x=y)))
 |.neq=>.go (.q (decide (x≠y)))
 |.lss=>.go (.q (Op.bytesLess x.toList y.toList))
 |.gtr=>.go (.q (!(Op.bytesLess x.toList y.toList||x.toList==y.toList)))
 |.geq=>.go (.q (!(Op.bytesLess x.toList y.toList)))
 |.leq=>.go (.q (Op.bytesLess x.toList y.toList||x.toList==y.toList))
 |_=>.no
def eqC:SV->SV->Option Bool
 |.v (.int .i64 m),.v (.int .i64 n)=>some (decide (m=n))
 |.v (.string m),.v (.string n)=>some (decide (m=n))
 |_,_=>none
def eqL:List SV->List SV->Option Bool
 |[],[]=>some true
 |[x],[y]=>eqC x y
 |x::l,y::m=>match eqC x y,eqL l m with
  |some p,some q=>some (p&&q)
  |_,_=>none
 |_,_=>none
def akB (op:BinOp) (x y:AV):V1:=
 match x,y with
 |.o (.s (.v (.int .i64 m))),.o (.s (.v (.int .i64 n)))=>iop op m n
 |.o (.s (.v (.int .u8 m))),.o (.s (.v (.int .u8 n)))=>uop op m n
 |.o (.s (.v (.string m))),.o (.s (.v (.string n)))=>sop op m n
 |_,_=>.no
def ag4 {a b:ByteArray}:a.toList=b.toList↔a=b:=by
 rw [ByteArray.toList_eq,ByteArray.toList_eq]
 constructor
 ·intro h
  cases a;cases b
  congr 1
  exact Array.ext' h
 ·intro h;rw [h]
def bytes_beq (a b:ByteArray):(a.toList==b.toList)=decide (a=b):=by
 rw [Bool.eq_iff_iff]
 simp [ag4]
end
end GL
namespace GL
section
variable {P:Program}{N:Nat}{τ:St}
variable {d:Nat}{x y z:Operand}{t t' ty:TypeId}{pos:String}{af:Array Edge}{g:Option (Nat×Bool)}
def I5 {m:Int}(h0:0<=m) (h1:m<=imax):(BitVec.ofInt 64 m).toNat=m.toNat:=by
 rw [BitVec.toNat_ofInt]
 congr 1
 exact Int.emod_eq_of_lt h0 (by simp only [imax] at h1;omega)
def agG {op:BinOp}{m n:Int}{r:AV}(hr:(iop op m n).yy r) (w:World) (t:TypeId):∃v,r= .s v/\(∃u,v= .v u\/∃b,v= .q b/\u= .bool b)/\∃val,(binOp op t (.int .i64 m) (.int .i64 n)).run P w= .ok val w/\∀T β,v.rel T β val:=by
 cases op<;>simp only [iop] at hr<;>(try (exact hr.elim))
 case add=>
  obtain⟨hp,rfl⟩:=hr
  refine⟨_,ζ,⟨_,.inl rfl⟩,.int .i64 (m+n),?_,λ_ _=>rfl⟩
  have:=qo hp.1 hp.2
  simp [binOp,Op.intArith,this]
 case sub=>
  obtain⟨hp,rfl⟩:=hr
  refine⟨_,ζ,⟨_,.inl rfl⟩,.int .i64 (m-n),?_,λ_ _=>rfl⟩
  have:=qo hp.1 hp.2
  simp [binOp,Op.intArith,this]
 case mul=>
  obtain⟨hp,rfl⟩:=hr
  refine⟨_,ζ,⟨_,.inl rfl⟩,.int .i64 (m*n),?_,λ_ _=>rfl⟩
  have:=qo hp.1 hp.2
  simp [binOp,Op.intArith,this]
 case quo=>
  obtain⟨⟨h1,h2,h3⟩,rfl⟩:=hr
  refine⟨_,ζ,⟨_,.inl rfl⟩,.int .i64 (m / n),?_,λ_ _=>rfl⟩
  have hd0:0<=m / n:=Int.ediv_nonneg h1 (by omega)
  have hd1:m / n<=m:=Int.ediv_le_self n h1
  have:=qo (n:=m / n) (by simp only [gz];omega) (by omega)
  have ht:m.tdiv n=m / n:=Int.tdiv_eq_ediv_of_nonneg h1
  have hn:¬n=0:=by omega
  simp [binOp,Op.intDiv,hn,ht,this]
 case rem=>
  obtain⟨⟨h1,h2⟩,rfl⟩:=hr
  refine⟨_,ζ,⟨_,.inl rfl⟩,.int .i64 (m % n),?_,λ_ _=>rfl⟩
  have ht:m.tmod n=m % n:=Int.tmod_eq_emod_of_nonneg h1
  have hn:¬n=0:=by omega
  simp [binOp,Op.intDiv,hn,ht]
 case xor=>
  obtain⟨⟨h1,h2,h3,h4⟩,rfl⟩:=hr
  refine⟨_,ζ,⟨_,.inl rfl⟩,.int .i64 ((m.toNat ^^^ n.toNat:Nat):Int),?_,λ_ _=>rfl⟩
  have hx:m.toNat ^^^ n.toNat<2 ^ 63:=Nat.xor_lt_two_pow (by simp only [imax] at h3;omega) (by simp only [imax] at h4;omega)
  have hw:IntKind.i64.wrap ((m.toNat ^^^ n.toNat:Nat):Int)=((m.toNat ^^^ n.toNat:Nat):Int):=qo (by simp only [gz];omega) (by simp only [imax];omega)
  have hb:(BitVec.ofInt 64 m ^^^ BitVec.ofInt 64 n).toNat=m.toNat ^^^ n.toNat:=by rw [BitVec.toNat_xor,I5 h1 h3,I5 h2 h4]
  simp only [binOp,Op.intBits]
  simp only [ne_eq,not_true_eq_false,if_false,Sem.run_pure]
  have J6:(BitVec.ofInt IntKind.i64.bits m ^^^ BitVec.ofInt IntKind.i64.bits n).toNat=m.toNat ^^^ n.toNat:=hb
  rw [J6,hw]
 all_goals
  cases hr
  refine⟨_,ζ,⟨_,.inr ⟨_,ζ,ζ⟩⟩,_,?_,λ_ _=>rfl⟩
  simp [binOp,Op.intCmp]
  try rfl
def afl {op:BinOp}{m n:Int}{r:AV}(hr:(uop op m n).yy r) (w:World) (t:TypeId):∃v,r= .s v/\(∃u,v= .v u\/∃b,v= .q b/\u= .bool b)/\∃val,(binOp op t (.int .u8 m) (.int .u8 n)).run P w= .ok val w/\∀T β,v.rel T β val:=by
 cases op<;>simp only [uop] at hr<;>(try (exact hr.elim))
 case add=>
  obtain⟨hp,rfl⟩:=hr
  refine⟨_,ζ,⟨_,.inl rfl⟩,.int .u8 (m+n),?_,λ_ _=>rfl⟩
  have:=wrap_u8 hp.1 hp.2
  simp [binOp,Op.intArith,this]
 case sub=>
  obtain⟨hp,rfl⟩:=hr
  refine⟨_,ζ,⟨_,.inl rfl⟩,.int .u8 (m-n),?_,λ_ _=>rfl⟩
  have:=wrap_u8 hp.1 hp.2
  simp [binOp,Op.intArith,this]
 case mul=>
  obtain⟨hp,rfl⟩:=hr
  refine⟨_,ζ,⟨_,.inl rfl⟩,.int .u8 (m*n),?_,λ_ _=>rfl⟩
  have:=wrap_u8 hp.1 hp.2
  simp [binOp,Op.intArith,this]
 all_goals
  cases hr
  refine⟨_,ζ,⟨_,.inr ⟨_,ζ,ζ⟩⟩,_,?_,λ_ _=>rfl⟩
  simp [binOp,Op.intCmp]
  try rfl
def afr {op:BinOp}{m n:ByteArray}{r:AV}(hr:(sop op m n).yy r) (w:World) (t:TypeId):∃v,r= .s v/\(∃u,v= .v u\/∃b,v= .q b/\u= .bool b)/\∃val,(binOp op t (.string m) (.string n)).run P w= .ok val w/\∀T β,v.rel T β val:=by
 cases op<;>simp only [sop] at hr<;>(try (exact hr.elim))
 case add=>
  obtain⟨hp,rfl⟩:=hr
  refine⟨_,ζ,⟨_,.inl rfl⟩,.string (m++n),?_,λ_ _=>rfl⟩
  have:=run_string_add_sum (P:=P) (w:=w) m n (by have h:=hp;simp only [imax] at h;omega)
  simp [binOp,this]
 case eql=>
  cases hr
  refine⟨_,ζ,⟨_,.inr ⟨_,ζ,ζ⟩⟩,_,?_,λ_ _=>rfl⟩
  simp [binOp,Op.stringOp,bytes_beq]
 case neq=>
  cases hr
  refine⟨_,ζ,⟨_,.inr ⟨_,ζ,ζ⟩⟩,_,?_,λ_ _=>rfl⟩
  simp only [binOp,Op.stringOp,bytes_beq]
  simp
 all_goals
  cases hr
  refine⟨_,ζ,⟨_,.inr ⟨_,ζ,ζ⟩⟩,_,?_,λ_ _=>rfl⟩
  simp [binOp,Op.stringOp]
  try rfl
def JS {op:BinOp}{c:Ctx}{T:a8}{β:Nat->Nat}{a:Act}{w:World}(hh:Holds N c T β τ a w) (v u:AV) (hv:v.rel T β (a.eval x)) (hu:u.rel T β (a.eval y)) (r:AV) (hr:(akB op v u).yy r):
  (∀i∈r.boxes,i∈v.boxes\/i∈u.boxes)/\∃val,(execOp a.eval ⟨some d,.binOp op t x y t',ty,pos,af,g⟩).run P w= .ok (.value val) w/\r.rel T β val:=by
  have fin:∀(v1 v2:Value),a.eval x=v1->a.eval y=v2->(eqGuard op t x y v1 v2).run P w= .ok () w->(∃v',r= .s v'/\(∃u,v'= .v u\/∃b,v'= .q b/\u= .bool b)/\∃val,(binOp op t v1 v2).run P w= .ok val w/\∀T β,v'.rel T β val)->
    (∀i∈r.boxes,i∈v.boxes\/i∈u.boxes)/\∃val,(execOp a.eval ⟨some d,.binOp op t x y t',ty,pos,af,g⟩).run P w= .ok (.value val) w/\r.rel T β val:=by
   rintro v1 v2 e1 e2 hg ⟨v',rfl,hu,val,fK,cB⟩
   refine⟨λi hi=>?_,val,?_,cB T β⟩
   ·obtain⟨u,rfl |⟨b,rfl,_⟩⟩:=hu<;>simp [AV.boxes,A0.boxes,SV.boxes] at hi
   ·simp [execOp,e1,e2,hg,fK]
  unfold akB at hr
  split at hr
  ·exact fin _ _ hv hu (by cases op<;>simp [eqGuard]) (agG hr w t)
  ·exact fin _ _ hv hu (by cases op<;>simp [eqGuard]) (afl hr w t)
  ·exact fin _ _ hv hu (by cases op<;>simp [eqGuard]) (afr hr w t)
  ·exact hr.elim
def apU {op:BinOp}(hd:d<N):gl P N ⟨some d,.binOp op t x y t',ty,pos,af,g⟩ (cq x λv=>cq y λu=>.ret ((akB op v u).rs d)):=
 gl.I2 rfl hd λc T β τ a w hh v u hv hu r hr=>JS hh v u hv hu r hr
def anY (wr:Bool) (op:BinOp) (x y:AV):V1:=
 match wr with
 |false=>akB op x y
 |true=>match op,x,y with
  |.add,.o (.s (.v (.int .i64 m))),.o (.s (.v (.int .i64 n)))=>.go (.int (IntKind.i64.wrap (m+n)))
  |.sub,.o (.s (.v (.int .i64 m))),.o (.s (.v (.int .i64 n)))=>.go (.int (IntKind.i64.wrap (m-n)))
  |_,_,_=>akB op x y
def aob {wr:Bool}{op:BinOp}(hd:d<N):gl P N ⟨some d,.binOp op t x y t',ty,pos,af,g⟩ (cq x λv=>cq y λu=>.ret ((anY wr op v u).rs d)):=by
 cases wr with
 |false=>exact apU hd
 |true=>
  refine gl.I2 rfl hd λc T β τ a w hh v u hv hu r hr=>?_
  unfold anY at hr
  simp only at hr
  split at hr
  ·cases hr
   refine⟨aiB _ _ _,.int .i64 _,?_,ζ⟩
   have e1:a.eval x=_:=hv
   have e2:a.eval y=_:=hu
   simp [execOp,e1,e2,eqGuard,binOp,Op.intArith]
  ·cases hr
   refine⟨aiB _ _ _,.int .i64 _,?_,ζ⟩
   have e1:a.eval x=_:=hv
   have e2:a.eval y=_:=hu
   simp [execOp,e1,e2,eqGuard,binOp,Op.intArith]
  ·exact JS hh v u hv hu r hr
def anZ (op:BinOp) (x y:AV):V1:=
 match asB x,asB y with
 |some m,some n=>match op with
  |.eql=>.go (.q (m==n))
  |.neq=>.go (.q (m !=n))
  |_=>.no
 |_,_=>.no
def apV {op:BinOp}(ht:P.underlying t=some .bool) (hd:d<N):gl P N ⟨some d,.binOp op t x y t',ty,pos,af,g⟩ (cq x λv=>cq y λu=>.ret ((anZ op v u).rs d)):=
 gl.I2 rfl hd λc T β τ a w hh v u hv hu r hr=>by
  unfold anZ at hr
  split at hr
  ·rename_i m n h1 h2
   have e1:=FF h1 hv
   have e2:=FF h2 hu
   split at hr
   ·cases hr
    refine⟨aen _ _ _,.bool (m==n),?_,ζ⟩
    have:=run_eql_bool (P:=P) w t m n ht
    simp [execOp,e1,e2,eqGuard,this]
   ·cases hr
    refine⟨aen _ _ _,.bool (m !=n),?_,ζ⟩
    have:=run_neq_bool (P:=P) w t m n ht
    simp [execOp,e1,e2,eqGuard,this]
    cases m<;>cases n<;>rfl
   ·exact hr.elim
  ·exact hr.elim
def FldsI (P:Program) (I:TypeId->Nat->Prop):List (String×TypeId×Nat)->Nat->Nat->Prop
 |[],k,n=>k=n
 | f :: fs, k, n => f.1 ≠ "_" ∧ f.2.2 = k ∧ ((P.underlying f.2.1 = some (.int .i64) ∧ Sh P f.2.1 = some (false, 1) ∧ FldsI P I fs (k + 1) n) ∨ ∃ m, Sh P f.2.1 = some (true, m) ∧ I f.2.1 m ∧ FldsI P I fs (k + m) n)
def IntsD (P:Program):Nat->TypeId->Nat->Prop
 |0,_,_=>False
 |d+1,t,n=>P.underlying t=some (.struct (P.fieldsOf t))/\P.stoodInHeld t=false/\∃L,(P.fieldsOf t).toList.map (λf=>(f.name,f.type,f.offset))=L/\FldsI P (IntsD P d) L 0 n
def aa0 {xs:Array Value}{l:List Int}(hx:xs.toList=l.map (Value.int .i64)) (k m:Nat):(xs.extract k (k+m)).toList=((l.drop k).take m).map (Value.int .i64):=by
 rw [Array.toList_extract,hx,List.extract_eq_take_drop,List.map_take,List.map_drop,ZG8]
def ad3 {P:Program}:∀{d:Nat}{t:TypeId}{n:Nat},IntsD P d t n->∀(w:World) (xs ys:Array Value) (l m:List Int),xs.toList=l.map (Value.int .i64)->ys.toList=m.map (Value.int .i64)->l.length=n->m.length=n->∀dd,d<dd->
  (Op.equalIn dd t (.agg xs) (.agg ys)).run P w= .ok (decide (l=m)) w
 |d+1,t,n,⟨hu,hh,L,hL,hF⟩,w,xs,ys,l,m,hx,hy,hl,hm,dd,hd=>by
  obtain⟨e,rfl⟩:∃e,dd=e+2:=⟨dd-2,by omega⟩
  rw [run_equalIn_struct (P:=P) w (e+1) t xs ys hu hh]
  have key:∀(fs:List Field) (L:List (String×TypeId×Nat)) (k:Nat),fs.map (λf=>(f.name,f.type,f.offset))=L->FldsI P (IntsD P d) L k n->k<=n->(Op.eqFields (e+1) xs ys fs).run P w= .ok (decide (l.drop k=m.drop k)) w:=by
   intro fs
   induction fs with
   |nil=>
    intro L k hL hF hk
    cases hL
    have hk':k=n:=hF
    rw [List.drop_of_length_le (by omega),List.drop_of_length_le (by omega)]
    simp [Op.eqFields]
   |cons f fs ih=>
    intro L k hL hF hk
    cases hL
    obtain⟨h1,h2,hF⟩:=hF
    have h1 : f.name ≠ "_" := h1
    have h2:f.offset=k:=h2
    rcases hF with ⟨h3,h4,hF⟩ |⟨j,h4,h3,hF⟩
    ·have hkn:k+1<=n:=by
      rcases Nat.lt_or_ge n (k+1) with h |h
      ·exact absurd (ih _ (k+1) rfl hF) (λ_=>by
        have:∀(L:List (String×TypeId×Nat)) (k:Nat),FldsI P (IntsD P d) L k n->k<=n:=by
         intro L
         induction L with
         |nil=>intro k h;exact ZA8 h
         |cons g L ih=>
          intro k h
          rcases h.2.2 with h |⟨j,_,_,h⟩
          ·have:=ih _ h.2.2;omega
          ·have:=ih _ h;omega
        have:=this _ _ hF;omega)
      ·exact h
     have hkl:k<l.length:=by omega
     have hkm:k<m.length:=by omega
     have p1:(part f.type xs f.offset).run P w= .ok (.int .i64 l[k]) w:=by
      have:xs[f.offset]?=some (.int .i64 l[k]):=by
       rw [h2,<-Array.getElem?_toList,hx];simp [hkl]
      simp [part,(kB h4 w).1,this]
     have p2:(part f.type ys f.offset).run P w= .ok (.int .i64 m[k]) w:=by
      have:ys[f.offset]?=some (.int .i64 m[k]):=by
       rw [h2,<-Array.getElem?_toList,hy];simp [hkm]
      simp [part,(kB h4 w).1,this]
     have p3:=run_equalIn_int (P:=P) w e f.type .i64 .i64 l[k] m[k] h3
     have p4:=ih _ (k+1) rfl hF hkn
     have e1:l.drop k=l[k]::l.drop (k+1):=ZH1 hkl
     have e2:m.drop k=m[k]::m.drop (k+1):=ZH1 hkm
     have hg:decide (l.drop k=m.drop k)=((l[k]==m[k])&&decide (l.drop (k+1)=m.drop (k+1))):=by
      rw [Bool.eq_iff_iff]
      simp only [decide_eq_true_eq,ZB1,beq_iff_eq]
      rw [e1,e2]
      exact List.cons_eq_cons
     rw [hg]
     simp only [Op.eqFields,h1,ne_eq,not_false_eq_true,if_true,Sem.run_bind,p1,p2,p3,Result.andThen_ok]
     cases l[k]==m[k] with
     |true=>simp [p4]
     |false=>simp
    ·have hkn:k+j<=n:=by
      have:∀(L:List (String×TypeId×Nat)) (k:Nat),FldsI P (IntsD P d) L k n->k<=n:=by
       intro L
       induction L with
       |nil=>intro k h;exact ZA8 h
       |cons g L ih=>
        intro k h
        rcases h.2.2 with h |⟨j,_,_,h⟩
        ·have:=ih _ h.2.2;omega
        ·have:=ih _ h;omega
      exact this _ _ hF
     have p1:(part f.type xs f.offset).run P w= .ok (.agg (xs.extract k (k+j))) w:=by
      simp [part,(kB h4 w).1,(kB h4 w).2,h2]
     have p2:(part f.type ys f.offset).run P w= .ok (.agg (ys.extract k (k+j))) w:=by
      simp [part,(kB h4 w).1,(kB h4 w).2,h2]
     have p3:=ad3 h3 w _ _ _ _ (aa0 hx k j) (aa0 hy k j) (by rw [ZB6,ZC8];omega) (by rw [ZB6,ZC8];omega) (e+1) (by omega)
     have p4:=ih _ (k+j) rfl hF hkn
     have hg:decide (l.drop k=m.drop k)=(decide ((l.drop k).take j=(m.drop k).take j)&&decide (l.drop (k+j)=m.drop (k+j))):=by
      rw [Bool.eq_iff_iff]
      simp only [decide_eq_true_eq,ZB1]
      constructor
      ·intro h
       rw [<-ZH0,<-ZH0,h];exact⟨rfl,rfl⟩
      ·rintro⟨h,h'⟩
       rw [<-ZF3 j (l.drop k),<-ZF3 j (m.drop k),h,ZH0,ZH0,h']
     rw [hg]
     simp only [Op.eqFields,h1,ne_eq,not_false_eq_true,if_true,Sem.run_bind,p1,p2,p3,Result.andThen_ok]
     cases decide ((l.drop k).take j=(m.drop k).take j) with
     |true=>simp [p4]
     |false=>simp
  have:=key (P.fieldsOf t).toList L 0 hL hF (ZA7 _)
  simpa using this
structure apY (P:Program) (t:TypeId) (n:Nat):Prop where
 ints:∃d,d<=100/\IntsD P d t n
 guard:P.eqGuardType P.depth t=false
def tj:List SV->Bool
 |[]=>true
 |.v (.int .i64 _)::l=>tj l
 |_::_=>false
def C2:∀{l:List SV},tj l=true->∀x∈l,∃n,x= .v (.int .i64 n)
 |[],_,x,h=>by cases h
 |y::l,h,x,hx=>by
  unfold tj at h
  split at h
  ·rename_i heq;cases heq
  ·rename_i n l' heq
   cases heq
   rcases ZB7.1 hx with rfl |hx
   ·exact⟨n,rfl⟩
   ·exact C2 h x hx
  ·cases h
def aa2 {T:a8}{β:Nat->Nat}:∀{l m:List SV}{xs ys:List Value}{b:Bool},eqL l m=some b->tj l=true->dY T β l xs->dY T β m ys->
  ∃p q:List Int,xs=p.map (Value.int .i64)/\ys=q.map (Value.int .i64)/\p.length=l.length/\q.length=l.length/\b=decide (p=q)
 |[],[],[],[],b,h,_,_,_=>by cases h;exact⟨[],[],rfl,rfl,rfl,rfl,by simp⟩
 |[],[],_::_,_,_,_,_,h,_=>h.elim
 |[],[],[],_::_,_,_,_,_,h=>h.elim
 |[],_::_,_,_,_,h,_,_,_=>by cases h
 |[x],[],_,_,_,h,_,_,_=>by cases h
 |x::x'::l,[],_,_,_,h,_,_,_=>by cases h
 |x::l,y::m,[],_,_,_,_,h,_=>h.elim
 |x::l,y::m,_::_,[],_,_,_,_,h=>h.elim
 |[x],[y],[v],[u],b,h,ha,h1,h2=>by
  obtain⟨n,rfl⟩:=C2 ha x (by simp)
  have h':eqC (.v (.int .i64 n)) y=some b:=h
  unfold eqC at h'
  split at h'
  ·rename_i k k' e1
   cases e1;cases h'
   have e1:v= .int .i64 n:=h1.1
   have e2:u= .int .i64 k':=h2.1
   exact⟨[n],[k'],by simp [e1],by simp [e2],rfl,rfl,by simp⟩
  ·rename_i e1;cases e1
  ·cases h'
 |[x],[y],_::_::_,_,_,_,_,h,_=>h.2.elim
 |[x],[y],[_],_::_::_,_,_,_,_,h=>h.2.elim
 |[x],y::y'::m,_,_,b,h,_,_,_=>by
  simp only [eqL] at h
  split at h
  ·rename_i _ q _ hq;cases hq
  ·cases h
 |x::x'::l,[y],_,_,b,h,_,_,_=>by
  simp only [eqL] at h
  split at h
  ·rename_i _ q _ hq;cases l<;>cases hq
  ·cases h
 |x::x'::l,y::y'::m,v::xs,u::ys,b,h,ha,h1,h2=>by
  obtain⟨n,rfl⟩:=C2 ha x (by simp)
  simp only [eqL] at h
  split at h
  ·rename_i p0 q0 hp hq
   cases h
   have ha':tj (x'::l)=true:=by simpa [tj] using ha
   obtain⟨p,q,e1,e2,l1,l2,e3⟩:=aa2 hq ha' h1.2 h2.2
   unfold eqC at hp
   split at hp
   ·rename_i k k' e4
    cases e4;cases hp
    have f1:v= .int .i64 n:=h1.1
    have f2:u= .int .i64 k':=h2.1
    refine⟨n::p,k'::q,by simp [f1,e1],by simp [f2,e2],by simp [l1],by simp [l2],?_⟩
    rw [e3]
    by_cases hx:n=k'<;>by_cases hy:p=q<;>simp [hx,hy]
   ·rename_i e4;cases e4
   ·cases hp
  ·cases h
def am1 (n:Nat) (op:BinOp) (x y:AV):V1:=
 match x,y with
 |.o (.a l),.o (.a m)=>bif tj l&&Nat.beq l.length n then (match eqL l m with
  |some b=>(match op with
   |.eql=>.go (.q b)
   |.neq=>.go (.q (!b))
   |_=>.no)
  |none=>.no) else .no
 |_,_=>.no
def apL {n:Nat}{op:BinOp}(hI:apY P t n) (hd:d<N):gl P N ⟨some d,.binOp op t x y t',ty,pos,af,g⟩ (cq x λv=>cq y λu=>.ret ((am1 n op v u).rs d)):=
 gl.I2 rfl hd λc T β τ a w hh v u hv hu r hr=>by
  unfold am1 at hr
  split at hr
  ·rename_i l m
   cases hb:tj l&&Nat.beq l.length n with
   |false=>rw [hb] at hr;exact hr.elim
   |true=>
    rw [hb] at hr
    simp only [ZB1] at hb
    have hl:l.length=n:=by simpa using hb.2
    simp only [cond_true] at hr
    split at hr
    ·rename_i b he
     obtain⟨xs,e1,h1⟩:=hv
     obtain⟨ys,e2,h2⟩:=hu
     obtain⟨p,q,f1,f2,l1,l2,rfl⟩:=aa2 he hb.1 h1 h2
     have hg:=run_eqGuard_agg (P:=P) w op t x y xs ys hI.guard
     obtain⟨dp,hdp,hD⟩:=hI.ints
     have hq:=ad3 hD w xs ys p q f1 f2 (by omega) (by omega) 10000 (by omega)
     split at hr
     ·cases hr
      refine⟨aen _ _ _,.bool (decide (p=q)),?_,ζ⟩
      have:=run_eql_struct (P:=P) w t xs ys
      rw [hq] at this
      simp [execOp,e1,e2,hg,this]
     ·cases hr
      refine⟨aen _ _ _,.bool (!decide (p=q)),?_,ζ⟩
      have:=run_neq_struct (P:=P) w t xs ys
      rw [hq] at this
      simp [execOp,e1,e2,hg,this]
     ·exact hr.elim
    ·exact hr.elim
  ·exact hr.elim
def ank (x:AV):V1:=
 match asB x with
 |some b=>.go (.q (!b))
 |none=>.no
def apM (hd:d<N):gl P N ⟨some d,.unOp .not t x,ty,pos,af,g⟩ (cq x λv=>.ret ((ank v).rs d)):=
 gl.wS rfl hd λc T β τ a w hh v hv r hr=>by
  unfold ank at hr
  split at hr
  ·rename_i b hb
   cases hr
   have e:=FF hb hv
   exact⟨aiA _ _,.bool (!b),by simp [execOp,e,Op.unary],rfl⟩
  ·exact hr.elim
def anp:AV->V1
 |.o (.s (.v (.int .i64 n)))=>.oJ (gz<n/\n<=imax) (.int (-n))
 |_=>.no
def apO (hd:d<N):gl P N ⟨some d,.unOp .neg t x,ty,pos,af,g⟩ (cq x λv=>.ret ((anp v).rs d)):=
 gl.wS rfl hd λc T β τ a w hh v hv r hr=>by
  unfold anp at hr
  split at hr
  ·rename_i n
   obtain⟨h1,rfl⟩:=hr
   have e:a.eval x= .int .i64 n:=hv
   refine⟨nob _ _,.int .i64 (-n),?_,ζ⟩
   have:=qo (n:= -n) (by have:=h1.2;simp only [gz,imax] at this ⊢;omega) (by have:=h1.1;simp only [gz,imax] at this ⊢;omega)
   simp [execOp,e,Op.unary,Op.intArith,this]
  ·exact hr.elim
end
end GL
namespace GL
section
variable {P:Program}{N:Nat}{τ:St}
variable {d:Nat}{x y z:Operand}{t u ty:TypeId}{pos:String}{af:Array Edge}{g:Option (Nat×Bool)}
def aki (k:IntKind):AV->V1
 |.o (.s (.v (.int _ n)))=>match k with
  |.i64=>.oJ (gz<=n/\n<=imax) (.int n)
  |.u8=>.oJ (0<=n/\n<=255) (.byte n)
  |_=>.no
 |_=>.no
def an9 (k:IntKind) (ht:(P.underlying t).isSome=true) (hu:P.underlying u=some (.int k)) (hd:d<N):gl P N ⟨some d,.convert t u x,ty,pos,af,g⟩ (cq x λv=>.ret ((aki k v).rs d)):=
 gl.wS rfl hd λc T β τ a w hh v hv r hr=>by
  unfold aki at hr
  split at hr
  ·rename_i k' n
   obtain⟨dd,hdd⟩:=Option.isSome_iff_exists.1 ht
   have e:a.eval x= .int k' n:=hv
   split at hr
   ·obtain⟨hp,rfl⟩:=hr
    have hw:=qo hp.1 hp.2
    exact⟨nob _ _,.int .i64 n,by simp [execOp,e,convert,run_underlying hdd,run_underlying hu,Conv.intToInt,hw],rfl⟩
   ·obtain⟨hp,rfl⟩:=hr
    have hw:=wrap_u8 hp.1 hp.2
    exact⟨nob _ _,.int .u8 n,by simp [execOp,e,convert,run_underlying hdd,run_underlying hu,Conv.intToInt,hw],rfl⟩
   ·exact hr.elim
  ·exact hr.elim
def adj (off:Nat):AV->V1
 |.o (.s (.bp i o))=>.go (.s (.bp i (o+off)))
 |.o (.s (.xp i sz k j))=>bif Nat.blt (j+off) sz then .go (.s (.xp i sz k (j+off))) else .no
 |.o (.s (.ep ek j))=>bif Nat.blt (j+off) ek.length then .go (.s (.ep ek (j+off))) else .no
 |.o (.s (.vp ek x j))=>bif Nat.blt (j+off) ek.length then .go (.s (.vp ek x (j+off))) else .no
 |.o (.s (.vs l j))=>.go (.s (.vs l (j+off)))
 |_=>.no
def lD (P:Program) (t:TypeId) (f:Nat):Option (Nat×Bool×Nat):=
 match P.underlying t with
 |some (.struct fs)=>match fs[f]? with
  |some fd=>match Sh P fd.type with
   |some (b,n)=>if n=0 then none else some (fd.offset,b,n)
   |none=>none
  |none=>none
 |_=>none
def EU {f off n:Nat}{b:Bool}(h:lD P t f=some (off,b,n)):∃fs fd,P.underlying t=some (.struct fs)/\fs[f]?=some fd/\fd.offset=off/\Sh P fd.type=some (b,n)/\n≠0:=by
 unfold lD at h
 split at h
 ·rename_i fs hu
  split at h
  ·rename_i fd hf
   split at h
   ·rename_i b' n' hS
    split at h
    ·cases h
    ·rename_i hz;cases h;exact⟨fs,fd,hu,hf,rfl,hS,hz⟩
   ·cases h
  ·cases h
 ·cases h
def pj {f off n:Nat}{b:Bool}(h:lD P t f=some (off,b,n)) (ad:Addr) (w:World):(Instr.fieldAt t (.pointer (some ad)) f).run P w= .ok (.pointer (some (ad.add off))) w:=by
 obtain⟨fs,fd,hu,hf,rfl,hS,hz⟩:=EU h
 have h2:=(kB hS w).2
 simp [Instr.fieldAt,run_underlying hu,hf,Instr.sureAddr,fieldPlace,h2,hz]
def nE {m n:Nat}:Nat.blt m n=true↔m<n:=by simp [Nat.blt_eq]
def alX {off n:Nat}{b:Bool}{f:Nat}(h:lD P t f=some (off,b,n)) (hd:d<N):gl P N ⟨some d,.fieldAddr t x f,ty,pos,af,g⟩ (cq x λv=>.ret ((adj off v).rs d)):=
 gl.wS rfl hd λc T β τ a w hh v hv r hr=>by
  unfold adj at hr
  split at hr
  ·rename_i i o
   cases hr
   have e:a.eval x= .pointer (some ⟨β i,o,none⟩):=hv
   refine⟨λk hk=>hk,.pointer (some ⟨β i,o+off,none⟩),?_,ζ⟩
   have:=pj (P:=P) h ⟨β i,o,none⟩ w
   rw [gV] at this
   simp [execOp,e,this]
  ·rename_i i sz k j
   cases hb:Nat.blt (j+off) sz with
   |false=>rw [hb] at hr;exact hr.elim
   |true=>
    rw [hb] at hr;cases hr
    obtain⟨e,_⟩:=hv
    refine⟨λk hk=>hk,.pointer (some ⟨β i,k*sz+(j+off),none⟩),?_,ζ,nE.1 hb⟩
    have:=pj (P:=P) h ⟨β i,k*sz+j,none⟩ w
    rw [gV] at this
    simp [execOp,e,this,ZG5]
  ·rename_i ek j
   cases hb:Nat.blt (j+off) ek.length with
   |false=>rw [hb] at hr;exact hr.elim
   |true=>
    rw [hb] at hr;cases hr
    obtain⟨b,o,n,e,hT,ho,hj⟩:=hv
    refine⟨λk hk=>hk,.pointer (some ⟨b,o*ek.length+(j+off),none⟩),?_,b,o,n,ζ,hT,ho,nE.1 hb⟩
    have:=pj (P:=P) h ⟨b,o*ek.length+j,none⟩ w
    rw [gV] at this
    simp [execOp,e,this,ZG5]
  ·rename_i ek rec j
   cases hb:Nat.blt (j+off) ek.length with
   |false=>rw [hb] at hr;exact hr.elim
   |true=>
    rw [hb] at hr;cases hr
    obtain⟨b,o,cs,e,hj,hT⟩:=hv
    refine⟨λk hk=>hk,.pointer (some ⟨b,o+(j+off),none⟩),?_,b,o,cs,ζ,nE.1 hb,hT⟩
    have:=pj (P:=P) h ⟨b,o+j,none⟩ w
    rw [gV] at this
    simp [execOp,e,this,ZG5]
  ·rename_i l j
   cases hr
   obtain⟨b,cs,e,h2⟩:=hv
   refine⟨λk hk=>hk,.pointer (some ⟨b,j+off,none⟩),?_,b,cs,ζ,h2⟩
   have:=pj (P:=P) h ⟨b,j,none⟩ w
   rw [gV] at this
   simp [execOp,e,this]
  ·exact hr.elim
def ac8 (off:Nat) (b:Bool) (n:Nat):AV->V1
 |.o (.a l)=>match b with
  |true=>bif Nat.ble (off+n) l.length then .go (.a ((l.drop off).take n)) else .no
  |false=>match l[off]? with
   |some y=>.go (.s y)
   |none=>.no
 |_=>.no
def oO {i o n:Nat}{l:List SV}(h:i∈ct ((l.drop o).take n)):i∈ct l:=by
 rw [iI] at h ⊢
 obtain⟨x,hx,hi⟩:=h
 exact⟨x,ZF5 (ZE5 hx),hi⟩
def alV {off n:Nat}{b:Bool}{f:Nat}(h:lD P t f=some (off,b,n)) (hd:d<N):gl P N ⟨some d,.field t x f,ty,pos,af,g⟩ (cq x λv=>.ret ((ac8 off b n v).rs d)):=
 gl.wS rfl hd λc T β τ a w hh v hv r hr=>by
  obtain⟨fs,fd,hu,hf,rfl,hS,hz⟩:=EU h
  obtain⟨h1,h2⟩:=kB hS w
  unfold ac8 at hr
  split at hr
  ·rename_i l
   obtain⟨cs,e,hl⟩:=hv
   have hlen:=lx hl
   split at hr
   ·cases hb:Nat.ble (fd.offset+n) l.length with
    |false=>rw [hb] at hr;exact hr.elim
    |true=>
     rw [hb] at hr;cases hr
     refine⟨λi hi=>oO hi,.agg (cs.extract fd.offset (fd.offset+n)),?_,_,ζ,?_⟩
     ·simp [execOp,e,Instr.field,run_underlying hu,hf,asAgg,part,h1,h2]
     ·have:=zn n (zo fd.offset hl)
      simpa [Array.toList_extract,List.extract_eq_take_drop] using this
   ·split at hr
    ·rename_i y hy
     cases hr
     obtain⟨v,hv,hr⟩:=vC hl hy
     refine⟨λi hi=>iI.2 ⟨y,ZB8 hy,hi⟩,v,?_,hr⟩
     have hv':cs[fd.offset]?=some v:=by simpa using hv
     simp [execOp,e,Instr.field,run_underlying hu,hf,asAgg,part,h1,hv']
    ·exact hr.elim
  ·exact hr.elim
def PE (i:Nat):AV->V1
 |.t l=>match l[i]? with
  |some y=>.go (.o y)
  |none=>.no
 |_=>.no
def ag6 {i:Nat}(hd:d<N):gl P N ⟨some d,.extract x i,ty,pos,af,g⟩ (cq x λv=>.ret ((PE i v).rs d)):=
 gl.wS rfl hd λc T β τ a w hh v hv r hr=>by
  unfold PE at hr
  split at hr
  ·rename_i l
   split at hr
   ·rename_i z hz
    cases hr
    obtain⟨vs,e,cB⟩:=hv
    obtain⟨v,hvi,hr⟩:=ad8 cB hz
    refine⟨λk hk=>NU.2 ⟨z,ZB8 hz,hk⟩,v,?_,hr⟩
    have aqI:vs[i]?=some v:=by simpa using hvi
    simp [execOp,e,Instr.extract,aqI]
   ·exact hr.elim
  ·exact hr.elim
def tL (P:Program) (t:TypeId):Option Nat:=
 match P.underlying t with
 |some (.slice e)=>(P.info? e).map (·.size)
 |_=>none
def wx {n:Nat}(h:tL P t=some n):∃e,P.underlying t=some (.slice e)/\∀w,(sizeOf e).run P w= .ok n w:=by
 unfold tL at h
 split at h
 ·rename_i e he
  obtain⟨i,hi,rfl⟩:=Option.map_eq_some_iff.1 h
  exact⟨e,he,λw=>by simp [sizeOf,typeInfo,hi]⟩
 ·cases h
def CP.zero:(c:CP)->c.Ty
 |.i64=>(0:Int)
 |.row=>(0:Int)
 |.u8=>(0:Int)
 |.str _=>ByteArray.empty
 |.bool=>false
def EK.zero:(ek:List CP)->EK.Ty ek
 |[]=>()
 |[c]=>c.zero
 |c::d::l=>(c.zero,EK.zero (d::l))
def nth (ek:EK) (l:List (EK.Ty ek)) (k:Nat):EK.Ty ek:=match l[k]? with
 |some x=>x
 |none=>EK.zero ek
def qe {ek:EK}{l:List (EK.Ty ek)}{k:Nat}(h:k<l.length):l[k]?=some (nth ek l k):=by
 unfold nth
 rw [ZB2 h]
def al5:Nat->Nat->Nat
 |0,k=>k
 |o+1,k=>o+1+k
def al4 (o k:Nat):al5 o k=o+k:=by cases o<;>simp [al5]
def WG (sz:Nat) (x y:AV):V1:=
 match x,y with
 |.o (.s (.sl ek len)),.o (.s (.v (.int .i64 n)))=>bif Nat.beq ek.length sz&&Nat.blt 0 sz then .oJ (0<=n/\n<len) (.s (.ep ek 0)) else .no
 |.o (.s (.vw ek l)),.o (.s (.v (.int .i64 n)))=>bif Nat.beq ek.length sz&&Nat.blt 0 sz then .oJ (0<=n/\n<l.length) (.s (.vp ek (nth ek l n.toNat) 0)) else .no
 |.o (.s (.vz ek l)),.o (.s (.v (.int .i64 n)))=>bif Nat.beq ek.length sz&&Nat.blt 0 sz then .oJ (0<=n/\n<l.length) (.s (.vp ek (nth ek l n.toNat) 0)) else .no
 |.o (.s (.xs i sz' o m)),.o (.s (.v (.int .i64 n)))=>bif Nat.beq sz' sz&&Nat.blt 0 sz then .oJ (0<=n/\n<m) (.s (.xp i sz' (al5 o n.toNat) 0)) else .no
 |_,_=>.no
def sL {e:TypeId}{sz:Nat}(he:P.underlying t=some (.slice e)) (db:∀w,(sizeOf e).run P w= .ok sz w) {b o len cap:Nat}{n:Int}(h0:0<=n) (h1:n<len) (w:World):
  (Instr.indexAt t (.slice (some ⟨b,o,none⟩) len cap) (.int .i64 n)).run P w= .ok (.pointer (some ⟨b,o+n.toNat*sz,none⟩)) w:=by
 simp [Instr.indexAt,asIntOf,run_underlying he,h0,h1,db,gV]
def DA {cs:Array Value}{o:Nat}{ek:EK}{l:List (EK.Ty ek)}(h:win cs o (flat ek l)) {k:Nat}(hk:k<l.length):win cs (o+k*ek.length) (EK.cells ek (nth ek l k)):=by
 intro j v hj
 have bR:j<ek.length:=by
  have:=(ZB9.1 hj).1
  rwa [EK.bV] at this
 rw [<-aaR ek l k j _ (qe hk) bR] at hj
 rw [ZG5]
 exact h _ _ hj
def afc {sz:Nat}(h:tL P t=some sz) (hd:d<N):gl P N ⟨some d,.indexAddr t x y,ty,pos,af,g⟩ (cq x λv=>cq y λu=>.ret ((WG sz v u).rs d)):=
 gl.I2 rfl hd λc T β τ a w hh v u hv hu r hr=>by
  obtain⟨e,he,db⟩:=wx h
  unfold WG at hr
  split at hr
  ·rename_i ek len n
   cases hb:Nat.beq ek.length sz&&Nat.blt 0 sz with
   |false=>rw [hb] at hr;exact hr.elim
   |true=>
    rw [hb] at hr
    obtain⟨⟨h0,h1⟩,rfl⟩:=hr
    simp only [ZB1] at hb
    have hs:ek.length=sz:=by simpa using hb.1
    have oC:=nE.1 hb.2
    have e2:a.eval y= .int .i64 n:=hu
    rcases hv with ⟨hl,_⟩ |⟨b,o,cap,m,e1,hlc,hT,hle⟩
    ·subst hl;omega
    ·refine⟨λk hk=>by simp [AV.boxes,A0.boxes,SV.boxes] at hk,.pointer (some ⟨b,o*ek.length+n.toNat*sz,none⟩),?_,b,o+n.toNat,m,?_,hT,by omega,by omega⟩
     ·have:=sL (P:=P) he db (b:=b) (o:=o*ek.length) (len:=len) (cap:=cap) h0 h1 w
      simp [execOp,e1,e2,this]
     ·rw [<-hs,ZF0,Nat.add_zero]
  ·rename_i ek l n
   cases hb:Nat.beq ek.length sz&&Nat.blt 0 sz with
   |false=>rw [hb] at hr;exact hr.elim
   |true=>
    rw [hb] at hr
    obtain⟨⟨h0,h1⟩,rfl⟩:=hr
    simp only [ZB1] at hb
    have hs:ek.length=sz:=by simpa using hb.1
    have oC:=nE.1 hb.2
    have e2:a.eval y= .int .i64 n:=hu
    rcases hv with ⟨hl,_⟩ |⟨b,o,cap,cs,te,fr,e1,hlc,hT,hw⟩
    ·subst hl;simp at h1;omega
    ·refine⟨λk hk=>by simp [AV.boxes,A0.boxes,SV.boxes] at hk,.pointer (some ⟨b,o+n.toNat*sz,none⟩),?_,b,o+n.toNat*sz,cs,ζ,by omega,.inl ⟨te,fr,hT⟩,?_⟩
     ·have:=sL (P:=P) he db (b:=b) (o:=o) (len:=l.length) (cap:=cap) h0 h1 w
      simp [execOp,e1,e2,this]
     ·rw [<-hs];exact DA hw (by omega)
  ·rename_i ek l n
   cases hb:Nat.beq ek.length sz&&Nat.blt 0 sz with
   |false=>rw [hb] at hr;exact hr.elim
   |true=>
    rw [hb] at hr
    obtain⟨⟨h0,h1⟩,rfl⟩:=hr
    simp only [ZB1] at hb
    have hs:ek.length=sz:=by simpa using hb.1
    have oC:=nE.1 hb.2
    have e2:a.eval y= .int .i64 n:=hu
    rcases hv with ⟨hl,_⟩ |⟨b,o,cap,cs,e1,hlc,hT,hw⟩
    ·subst hl;simp at h1;omega
    ·refine⟨λk hk=>by simp [AV.boxes,A0.boxes,SV.boxes] at hk,.pointer (some ⟨b,o+n.toNat*sz,none⟩),?_,b,o+n.toNat*sz,cs,ζ,by omega,hT,?_⟩
     ·have:=sL (P:=P) he db (b:=b) (o:=o) (len:=l.length) (cap:=cap) h0 h1 w
      simp [execOp,e1,e2,this]
     ·rw [<-hs];exact DA hw (by omega)
  ·rename_i i sz' o m n
   cases hb:Nat.beq sz' sz&&Nat.blt 0 sz with
   |false=>rw [hb] at hr;exact hr.elim
   |true=>
    rw [hb] at hr
    obtain⟨⟨h0,h1⟩,rfl⟩:=hr
    simp only [ZB1] at hb
    have hs:sz'=sz:=by simpa using hb.1
    have oC:=nE.1 hb.2
    have e2:a.eval y= .int .i64 n:=hu
    rcases hv with ⟨hl,_⟩ |⟨cap,k,e1,hlc,hT,hle⟩
    ·subst hl;omega
    ·rw [al4]
     refine⟨λk hk=>.inl hk,.pointer (some ⟨β i,o*sz'+n.toNat*sz,none⟩),?_,?_,by omega⟩
     ·have:=sL (P:=P) he db (b:=β i) (o:=o*sz') (len:=m) (cap:=cap) h0 h1 w
      simp [execOp,e1,e2,this]
     ·rw [hs,ZF0,Nat.add_zero]
  ·exact hr.elim
def bX (s:ByteArray) (k:Nat):Int:=match s[k]? with
 |some b=>b.toNat
 |none=>0
def zZ (s:ByteArray) (k:Nat):0<=bX s k/\bX s k<=255:=by
 unfold bX
 split
 ·rename_i b _;have:=b.toNat_lt;omega
 ·omega
def acY (x y:AV):V1:=
 match x,y with
 |.o (.s (.v (.string s))),.o (.s (.v (.int .i64 n)))=>.oJ (0<=n/\n<s.size) (.byte (bX s n.toNat))
 |_,_=>.no
def alU (h:P.underlying t=some .string) (hd:d<N):gl P N ⟨some d,.index t x y,ty,pos,af,g⟩ (cq x λv=>cq y λu=>.ret ((acY v u).rs d)):=
 gl.I2 rfl hd λc T β τ a w hh v u hv hu r hr=>by
  unfold acY at hr
  split at hr
  ·rename_i s n
   obtain⟨⟨h0,h1⟩,rfl⟩:=hr
   have e1:a.eval x= .string s:=hv
   have e2:a.eval y= .int .i64 n:=hu
   have bR:n.toNat<s.size:=by omega
   have hs:s[n.toNat]?=some s[n.toNat]:=by simp [bR]
   refine⟨aiB _ _ _,.int .u8 (bX s n.toNat),?_,ζ⟩
   have hb:bX s n.toNat=s[n.toNat].toNat:=by unfold bX;rw [hs]
   rw [hb]
   simp [execOp,e1,e2,Instr.index,asIntOf,run_underlying h,h0,hs]
  ·exact hr.elim
def aak (strs:Bool):AV->V1
 |.o (.s (.v (.string s)))=>match strs with
  |true=>.go (.int (s.size:Int))
  |false=>.no
 |.o (.s (.sl _ n))=>match strs with
  |false=>.go (.int (n:Int))
  |true=>.no
 |.o (.s (.vw _ l))=>match strs with
  |false=>.go (.int (l.length:Int))
  |true=>.no
 |.o (.s (.vz _ l))=>match strs with
  |false=>.go (.int (l.length:Int))
  |true=>.no
 |.o (.s (.xs _ _ _ m))=>match strs with
  |false=>.go (.int (m:Int))
  |true=>.no
 |.o (.s (.v (.slice none 0 0)))=>match strs with
  |false=>.go (.int 0)
  |true=>.no
 |_=>.no
def an6 (ht:P.underlying t=some .string) (hd:d<N):gl P N ⟨some d,.call ⟨.builtin .len,#[x],#[t]⟩,ty,pos,af,g⟩ (cq x λv=>.ret ((aak true v).rs d)):=
 gl.wS rfl hd λc T β τ a w hh v hv r hr=>by
  unfold aak at hr
  split at hr
  ·rename_i s
   cases hr
   have e:a.eval x= .string s:=hv
   exact⟨nob _ _,.int .i64 s.size,by simp [execOp,resolve,invoke,builtin,Builtin.len_,e,run_underlying ht,goInt],rfl⟩
  all_goals exact hr.elim
def adz {n:Nat}(ht:tL P t=some n) (hd:d<N):gl P N ⟨some d,.call ⟨.builtin .len,#[x],#[t]⟩,ty,pos,af,g⟩ (cq x λv=>.ret ((aak false v).rs d)):=
 gl.wS rfl hd λc T β τ a w hh v hv r hr=>by
  obtain⟨e,he,_⟩:=wx ht
  have fin:∀(p:Option Addr) (len cap:Nat),a.eval x= .slice p len cap->(execOp a.eval ⟨some d,.call ⟨.builtin .len,#[x],#[t]⟩,ty,pos,af,g⟩).run P w= .ok (.value (.int .i64 len)) w:=λp len cap e1=>by
   simp [execOp,resolve,invoke,builtin,Builtin.len_,e1,run_underlying he,goInt]
  unfold aak at hr
  split at hr
  ·exact hr.elim
  ·rename_i ek len
   cases hr
   rcases hv with ⟨hl,p,e1⟩ |⟨b,o,cap,m,e1,_⟩
   ·subst hl;exact⟨nob _ _,_,fin _ _ _ e1,rfl⟩
   ·exact⟨nob _ _,_,fin _ _ _ e1,rfl⟩
  ·rename_i ek l
   cases hr
   rcases hv with ⟨hl,p,cap,e1⟩ |⟨b,o,cap,cs,te,fr,e1,_⟩
   ·subst hl;exact⟨nob _ _,_,fin _ _ _ e1,rfl⟩
   ·exact⟨nob _ _,_,fin _ _ _ e1,rfl⟩
  ·rename_i ek l
   cases hr
   rcases hv with ⟨hl,p,cap,e1⟩ |⟨b,o,cap,cs,e1,_⟩
   ·subst hl;exact⟨nob _ _,_,fin _ _ _ e1,rfl⟩
   ·exact⟨nob _ _,_,fin _ _ _ e1,rfl⟩
  ·rename_i i sz o m
   cases hr
   rcases hv with ⟨hl,p,e1⟩ |⟨cap,n,e1,_⟩
   ·subst hl;exact⟨nob _ _,_,fin _ _ _ e1,rfl⟩
   ·exact⟨nob _ _,_,fin _ _ _ e1,rfl⟩
  ·cases hr
   exact⟨nob _ _,_,fin none 0 0 hv,rfl⟩
  ·exact hr.elim
def mmV (isMax:Bool) (x y:AV):V1:=
 match x,y with
 |.o (.s (.v (.int .i64 m))),.o (.s (.v (.int .i64 n)))=>match isMax with
  |true=>.go (.int (max m n))
  |false=>.go (.int (min m n))
 |_,_=>.no
def apR {ts:Array TypeId}(hd:d<N):gl P N ⟨some d,.call ⟨.builtin .max,#[x,y],ts⟩,ty,pos,af,g⟩ (cq x λv=>cq y λu=>.ret ((mmV true v u).rs d)):=
 gl.I2 rfl hd λc T β τ a w hh v u hv hu r hr=>by
  unfold mmV at hr
  split at hr
  ·rename_i m n
   cases hr
   have e1:a.eval x= .int .i64 m:=hv
   have e2:a.eval y= .int .i64 n:=hu
   refine⟨aiB _ _ _,.int .i64 (max m n),?_,ζ⟩
   have:=run_max_int2 (P:=P) w ts ty .i64 .i64 m n
   have hm:(if m<n then n else m)=max m n:=by split<;>omega
   simp [execOp,resolve,invoke,builtin,e1,e2,this,hm]
  ·exact hr.elim
def apQ {ts:Array TypeId}(hd:d<N):gl P N ⟨some d,.call ⟨.builtin .min,#[x,y],ts⟩,ty,pos,af,g⟩ (cq x λv=>cq y λu=>.ret ((mmV false v u).rs d)):=
 gl.I2 rfl hd λc T β τ a w hh v u hv hu r hr=>by
  unfold mmV at hr
  split at hr
  ·rename_i m n
   cases hr
   have e1:a.eval x= .int .i64 m:=hv
   have e2:a.eval y= .int .i64 n:=hu
   refine⟨aiB _ _ _,.int .i64 (min m n),?_,ζ⟩
   have:=run_min_int2 (P:=P) w ts ty .i64 .i64 m n
   have hm:(if n<m then n else m)=min m n:=by split<;>omega
   simp [execOp,resolve,invoke,builtin,e1,e2,this,hm]
  ·exact hr.elim
end
end GL
namespace GL
section
variable {P:Program}{N:Nat}{τ:St}
variable {d:Nat}{x y z:Operand}{t u ty:TypeId}{pos:String}{af:Array Edge}{g:Option (Nat×Bool)}
def sw (x:Option Operand) (k:Option Int->Q Rs):Q Rs:=
 match x with
 |none=>k none
 |some x=>cq x fun
  |.o (.s (.v (.int .i64 n)))=>k (some n)
  |_=>.ret .no
def evI (τ:St):Option Operand->Option (Option Int)
 |none=>some none
 |some x=>match ev τ x with
  |some (.o (.s (.v (.int .i64 n))))=>some (some n)
  |_=>none
theorem y8 (τ:St) (x:Option Operand) (k:Option Int->Q Rs):(sw x k).run τ=match evI τ x with
  |some v=>(k v).run τ
  |none=>.no:=by
 cases x with
 |none=>rfl
 |some x=>
  simp only [sw,dJ,evI]
  cases h:ev τ x with
  |none=>rfl
  |some v=>
   simp only
   split
   ·rfl
   ·rename_i ft
    split
    ·rename_i hv
     split at hv
     ·rename_i hv'
      cases hv'
      exact absurd rfl (ft _)
     ·cases hv
    ·rfl
def EY {c:Ctx}{T:a8}{β:Nat->Nat}{a:Act}{w:World}(h:Holds N c T β τ a w) {x:Option Operand}{n:Option Int}(hx:evI τ x=some n):x.map a.eval=n.map (Value.int .i64):=by
 cases x with
 |none=>simp only [evI] at hx;cases hx;rfl
 |some x=>
  simp only [evI] at hx
  split at hx
  ·rename_i m hm
   cases hx
   have e:a.eval x= .int .i64 m:=fA h hm
   simp [e]
  ·cases hx
def adr (strs:Bool) (sz:Nat) (x:AV) (l h:Option Int):V1:=
 match x with
 |.o (.s (.v (.string s)))=>match strs with
  |true=>.oJ (0<=l.getD 0/\l.getD 0<=h.getD s.size/\h.getD s.size<=s.size) (.str (s.extract (l.getD 0).toNat (h.getD s.size).toNat))
  |false=>.no
 |.o (.s (.sl ek n))=>match strs with
  |false=>bif Nat.beq ek.length sz then .oJ (0<=l.getD 0/\l.getD 0<=h.getD n/\h.getD n<=n) (.s (.sl ek ((h.getD n).toNat-(l.getD 0).toNat))) else .no
  |true=>.no
 |.o (.s (.vw ek v))=>match strs with
  |false=>bif Nat.beq ek.length sz then .oJ (0<=l.getD 0/\l.getD 0<=h.getD v.length/\h.getD v.length<=v.length) (.s (.vw ek ((v.drop (l.getD 0).toNat).take ((h.getD v.length).toNat-(l.getD 0).toNat)))) else .no
  |true=>.no
 |.o (.s (.vz ek v))=>match strs with
  |false=>bif Nat.beq ek.length sz then .oJ (0<=l.getD 0/\l.getD 0<=h.getD v.length/\h.getD v.length<=v.length) (.s (.vz ek ((v.drop (l.getD 0).toNat).take ((h.getD v.length).toNat-(l.getD 0).toNat)))) else .no
  |true=>.no
 |.o (.s (.xs i sz' o m))=>match strs with
  |false=>bif Nat.beq sz' sz then .oJ (0<=l.getD 0/\l.getD 0<=h.getD m/\h.getD m<=m) (.s (.xs i sz' (o+(l.getD 0).toNat) ((h.getD m).toNat-(l.getD 0).toNat))) else .no
  |true=>.no
 |_=>.no
def A4 (isS:Bool) (len cap:Nat) (l h:Option Int) (AG:0<=l.getD 0) (hlh:l.getD 0<=h.getD len) (hh:h.getD len<=cap) (w:World):
  (Instr.sliceBounds isS len cap (l.map (Value.int .i64)) (h.map (Value.int .i64)) none).run P w= .ok ((l.getD 0).toNat,(h.getD len).toNat,cap) w:=by
 have hb:∀(i:Int) (y:Nat) (code:BoundsCode),0<=i->i<=y->(Instr.sliceBound (.int .i64 i) y code).run P w= .ok i.toNat w:=λi y code h0 h1=>run_sliceBound (P:=P) (w:=w) .i64 i y code h0 h1
 cases h with
 |none=>
  cases l with
  |none=>simp [Instr.sliceBounds]
  |some l=>
   simp only [ZA2,ZA3] at AG hlh hh
   simp [Instr.sliceBounds,hb l len .sliceB AG (by omega)]
 |some h=>
  simp only [ZA2] at hlh hh
  have h1:(Instr.sliceBound (.int .i64 h) cap (if isS=true then BoundsCode.sliceAcap else BoundsCode.sliceAlen)).run P w= .ok h.toNat w:=hb h cap _ (by omega) hh
  cases l with
  |none=>simp [Instr.sliceBounds,h1]
  |some l=>
   simp only [ZA2] at AG hlh
   have h2:(Instr.sliceBound (.int .i64 l) h.toNat BoundsCode.sliceB).run P w= .ok l.toNat w:=hb l h.toNat _ AG (by omega)
   simp [Instr.sliceBounds,h1,h2]
def gl.cut {o:Oper}{l h:Option Operand}{f:AV->Option Int->Option Int->V1}(ho:o.dst=some d) (hd:d<N)
  (hs:∀c T β τ a w,Holds N c T β τ a w->∀v l' h',v.rel T β (a.eval x)->l.map a.eval=l'.map (Value.int .i64)->h.map a.eval=h'.map (Value.int .i64)->∀r,(f v l' h').yy r->(∀i∈r.boxes,i∈v.boxes)/\∃val,(execOp a.eval o).run P w= .ok (.value val) w/\r.rel T β val):
  gl P N o (cq x λv=>sw l λl'=>sw h λh'=>.ret ((f v l' h').rs d)):=by
 intro c τ a w hr hp K Q' hK
 obtain⟨T,β,hh⟩:=hr
 rw [dJ] at hp hK
 cases hx:ev τ x with
 |none=>rw [hx] at hp;exact hp.elim
 |some v=>
  rw [hx] at hp hK
  simp only [y8] at hp hK
  cases hl:evI τ l with
  |none=>rw [hl] at hp;exact hp.elim
  |some l'=>
   rw [hl] at hp hK
   simp only [y8] at hp hK
   cases hh':evI τ h with
   |none=>rw [hh'] at hp;exact hp.elim
   |some h'=>
    rw [hh'] at hp hK
    refine V1.put hh hd hp ho (λr hr=>?_) hK
    obtain⟨h1,h2⟩:=hs c T β τ a w hh v l' h' (fA hh hx) (EY hh hl) (EY hh hh') r hr
    exact⟨λi hi=>jb hh hx i (h1 i hi),h2⟩
def an7 {l h:Option Operand}(ht:P.underlying t=some .string) (hd:d<N):gl P N ⟨some d,.slice t x l h none,ty,pos,af,g⟩ (cq x λv=>sw l λl'=>sw h λh'=>.ret ((adr true 0 v l' h').rs d)):=
 gl.cut rfl hd λc T β τ a w hh v l' h' hv e2 e3 r hr=>by
  unfold adr at hr
  split at hr
  ·rename_i s
   obtain⟨⟨h0,h1,h2⟩,rfl⟩:=hr
   have e1:a.eval x= .string s:=hv
   refine⟨nob _ _,.string (s.extract (l'.getD 0).toNat (h'.getD s.size).toNat),?_,ζ⟩
   have hbd:=A4 (P:=P) false s.size s.size l' h' h0 h1 h2 w
   simp [execOp,e1,e2,e3,Instr.sliceAt,Instr.slice,run_underlying ht,hbd]
  all_goals exact hr.elim
def KG {e:TypeId}{sz:Nat}(he:P.underlying t=some (.slice e)) (db:∀w,(sizeOf e).run P w= .ok sz w) {b o len cap:Nat}{l h:Option Int}(h0:0<=l.getD 0) (h1:l.getD 0<=h.getD len) (h2:h.getD len<=len) (hc:len<=cap) (w:World):
  (Instr.slice t (.slice (some ⟨b,o,none⟩) len cap) (l.map (Value.int .i64)) (h.map (Value.int .i64)) none).run P w=
   .ok (.slice (some ⟨b,if cap=(l.getD 0).toNat then o else o+(l.getD 0).toNat*sz,none⟩) ((h.getD len).toNat-(l.getD 0).toNat) (cap-(l.getD 0).toNat)) w:=by
 have hbd:=A4 (P:=P) true len cap l h h0 h1 (by omega) w
 by_cases xg:cap=(l.getD 0).toNat
 ·simp [Instr.slice,run_underlying he,hbd,db,<-xg]
 ·simp [Instr.slice,run_underlying he,hbd,db,xg,gV]
def DO {e:TypeId}{sz:Nat}(he:P.underlying t=some (.slice e)) (db:∀w,(sizeOf e).run P w= .ok sz w) {p:Option Addr}{cap:Nat}{l h:Option Int}(h0:0<=l.getD 0) (h1:l.getD 0<=h.getD ((0:Nat):Int)) (h2:h.getD ((0:Nat):Int)<=((0:Nat):Int)) (w:World):
  ∃p',(Instr.slice t (.slice p 0 cap) (l.map (Value.int .i64)) (h.map (Value.int .i64)) none).run P w= .ok (.slice p' 0 cap) w:=by
 have hbd:=A4 (P:=P) true 0 cap l h h0 h1 (by omega) w
 have hz1:(l.getD 0).toNat=0:=by omega
 have hz2:(h.getD ((0:Nat):Int)).toNat=0:=by omega
 simp only [Int.ofNat_zero] at hbd hz2
 exact⟨if cap=0 then p else p.map (·.add 0),by simp [Instr.slice,run_underlying he,hbd,db,hz1,hz2]⟩
def zh {cs:Array Value}{o:Nat}{ek:EK}{l:List (EK.Ty ek)}(h:win cs o (flat ek l)) (a b:Nat):win cs (o+a*ek.length) (flat ek ((l.drop a).take b)):=by
 intro j v hj
 have h1:(flat ek ((l.drop a).take b))[j]?=((flat ek l).drop (a*ek.length))[j]?:=by
  rw [qM,<-oE,List.getElem?_take]
  split
  ·rfl
  ·rename_i bR
   exfalso
   have:=(ZB9.1 hj).1
   rw [<-oE,ZB6] at this
   omega
 rw [h1,List.getElem?_drop] at hj
 rw [ZG5]
 exact h _ _ hj
def akE {sz:Nat}{l h:Option Operand}(ht:tL P t=some sz) (hd:d<N):gl P N ⟨some d,.slice t x l h none,ty,pos,af,g⟩ (cq x λv=>sw l λl'=>sw h λh'=>.ret ((adr false sz v l' h').rs d)):=
 gl.cut rfl hd λc T β τ a w hh v l' h' hv e2 e3 r hr=>by
  obtain⟨e,he,db⟩:=wx ht
  have fin:∀{v1 v2:Value},a.eval x=v1->(Instr.slice t v1 (l'.map (Value.int .i64)) (h'.map (Value.int .i64)) none).run P w= .ok v2 w->(v1 matches .slice _ _ _)=true->(execOp a.eval ⟨some d,.slice t x l h none,ty,pos,af,g⟩).run P w= .ok (.value v2) w:=by
   intro v1 v2 e1 fK hm
   cases v1<;>first|cases hm|skip
   simp [execOp,e1,e2,e3,Instr.sliceAt,run_underlying he,fK]
  unfold adr at hr
  split at hr
  ·exact hr.elim
  ·rename_i ek n
   cases hb:Nat.beq ek.length sz with
   |false=>rw [hb] at hr;exact hr.elim
   |true=>
    rw [hb] at hr
    obtain⟨⟨h0,h1,h2⟩,rfl⟩:=hr
    have hs:ek.length=sz:=by simpa using hb
    refine⟨λk hk=>by simp [AV.boxes,A0.boxes,SV.boxes] at hk,?_⟩
    rcases hv with ⟨hl,p,e1⟩ |⟨b,o,cap,m,e1,hlc,hT,hle⟩
    ·subst hl
     obtain⟨p',fK⟩:=DO (P:=P) he db (p:=p) (cap:=0) h0 h1 h2 w
     exact⟨_,fin e1 fK rfl,.inl ⟨by omega,p',rfl⟩⟩
    ·have fK:=KG (P:=P) he db (b:=b) (o:=o*ek.length) (len:=n) (cap:=cap) h0 h1 h2 hlc w
     refine⟨_,fin e1 fK rfl,?_⟩
     by_cases hc:cap=(l'.getD 0).toNat
     ·refine .inl ⟨by omega,some ⟨b,o*ek.length,none⟩,?_⟩
      rw [if_pos hc]
      congr 1<;>omega
     ·refine .inr ⟨b,o+(l'.getD 0).toNat,cap-(l'.getD 0).toNat,m,?_,by omega,hT,by omega⟩
      rw [if_neg hc,ZF0,hs]
  ·rename_i ek vs
   cases hb:Nat.beq ek.length sz with
   |false=>rw [hb] at hr;exact hr.elim
   |true=>
    rw [hb] at hr
    obtain⟨⟨h0,h1,h2⟩,rfl⟩:=hr
    have hs:ek.length=sz:=by simpa using hb
    refine⟨λk hk=>by simp [AV.boxes,A0.boxes,SV.boxes] at hk,?_⟩
    rcases hv with ⟨hl,p,cap,e1⟩ |⟨b,o,cap,cs,te,fr,e1,hlc,hT,hw⟩
    ·subst hl
     obtain⟨p',fK⟩:=DO (P:=P) he db (p:=p) (cap:=cap) h0 h1 h2 w
     exact⟨_,fin e1 fK rfl,.inl ⟨by simp,p',cap,rfl⟩⟩
    ·have fK:=KG (P:=P) he db (b:=b) (o:=o) (len:=vs.length) (cap:=cap) h0 h1 h2 hlc w
     refine⟨_,fin e1 fK rfl,?_⟩
     have hlen:((vs.drop (l'.getD 0).toNat).take ((h'.getD (vs.length:Int)).toNat-(l'.getD 0).toNat)).length=(h'.getD (vs.length:Int)).toNat-(l'.getD 0).toNat:=by
      rw [ZB6,ZC8];omega
     by_cases hc:cap=(l'.getD 0).toNat
     ·refine .inl ⟨?_,some ⟨b,o,none⟩,cap-(l'.getD 0).toNat,?_⟩
      ·rw [<-ZE2,hlen];omega
      ·rw [if_pos hc];congr 1;omega
     ·refine .inr ⟨b,o+(l'.getD 0).toNat*ek.length,cap-(l'.getD 0).toNat,cs,te,fr,?_,by omega,hT,zh hw _ _⟩
      rw [if_neg hc,hlen,hs]
  ·rename_i ek vs
   cases hb:Nat.beq ek.length sz with
   |false=>rw [hb] at hr;exact hr.elim
   |true=>
    rw [hb] at hr
    obtain⟨⟨h0,h1,h2⟩,rfl⟩:=hr
    have hs:ek.length=sz:=by simpa using hb
    refine⟨λk hk=>by simp [AV.boxes,A0.boxes,SV.boxes] at hk,?_⟩
    rcases hv with ⟨hl,p,cap,e1⟩ |⟨b,o,cap,cs,e1,hlc,hT,hw⟩
    ·subst hl
     obtain⟨p',fK⟩:=DO (P:=P) he db (p:=p) (cap:=cap) h0 h1 h2 w
     exact⟨_,fin e1 fK rfl,.inl ⟨by simp,p',cap,rfl⟩⟩
    ·have fK:=KG (P:=P) he db (b:=b) (o:=o) (len:=vs.length) (cap:=cap) h0 h1 h2 hlc w
     refine⟨_,fin e1 fK rfl,?_⟩
     have hlen:((vs.drop (l'.getD 0).toNat).take ((h'.getD (vs.length:Int)).toNat-(l'.getD 0).toNat)).length=(h'.getD (vs.length:Int)).toNat-(l'.getD 0).toNat:=by
      rw [ZB6,ZC8];omega
     by_cases hc:cap=(l'.getD 0).toNat
     ·refine .inl ⟨?_,some ⟨b,o,none⟩,cap-(l'.getD 0).toNat,?_⟩
      ·rw [<-ZE2,hlen];omega
      ·rw [if_pos hc];congr 1;omega
     ·refine .inr ⟨b,o+(l'.getD 0).toNat*ek.length,cap-(l'.getD 0).toNat,cs,?_,by omega,hT,zh hw _ _⟩
      rw [if_neg hc,hlen,hs]
  ·rename_i i sz' o m
   cases hb:Nat.beq sz' sz with
   |false=>rw [hb] at hr;exact hr.elim
   |true=>
    rw [hb] at hr
    obtain⟨⟨h0,h1,h2⟩,rfl⟩:=hr
    have hs:sz'=sz:=by simpa using hb
    refine⟨λk hk=>hk,?_⟩
    rcases hv with ⟨hl,p,e1⟩ |⟨cap,n,e1,hlc,hT,hle⟩
    ·subst hl
     obtain⟨p',fK⟩:=DO (P:=P) he db (p:=p) (cap:=0) h0 h1 h2 w
     exact⟨_,fin e1 fK rfl,.inl ⟨by omega,p',rfl⟩⟩
    ·have fK:=KG (P:=P) he db (b:=β i) (o:=o*sz') (len:=m) (cap:=cap) h0 h1 h2 hlc w
     refine⟨_,fin e1 fK rfl,?_⟩
     by_cases hc:cap=(l'.getD 0).toNat
     ·refine .inl ⟨by omega,some ⟨β i,o*sz',none⟩,?_⟩
      rw [if_pos hc]
      congr 1<;>omega
     ·refine .inr ⟨cap-(l'.getD 0).toNat,n,?_,by omega,hT,?_⟩
      ·rw [if_neg hc,ZF0,hs]
      ·have:o+(l'.getD 0).toNat+(cap-(l'.getD 0).toNat)=o+cap:=by omega
       rw [this];exact hle
  ·exact hr.elim
end
end GL
namespace GL
section
variable {P:Program}{N:Nat}{τ:St}
variable {d:Nat}{x y z:Operand}{t u ty:TypeId}{pos:String}{af:Array Edge}{g:Option (Nat×Bool)}
def uZ (i:Nat) (k:AV->Q Rs):Q Rs:=.ask (.b i) fun
 |some v=>k v
 |none=>.ret .no
def aiK (agg:Bool) (n d:Nat) (v:AV):Q Rs:=
 match v with
 |.o (.s (.bp i o))=>uZ i fun
  |.o (.a l)=>match agg with
   |true=>.ret (bif Nat.ble (o+n) l.length then .go [(.s d,.a ((l.drop o).take n))] else .no)
   |false=>match l[o]? with
    |some y=>.ret (.go [(.s d,.s y)])
    |none=>.ret .no
  |_=>.ret .no
 |.o (.s (.xp i sz k j))=>uZ i fun
  |.rs ek l=>bif Nat.beq ek.length sz then (match agg with
   |true=>.ret (bif Nat.ble (j+n) sz then .oJ (k<l.length) [(.s d,.a (((EK.FQ ek (nth ek l k)).drop j).take n))] else .no)
   |false=>match (EK.FQ ek (nth ek l k))[j]? with
    |some y=>.ret (.oJ (k<l.length) [(.s d,.s y)])
    |none=>.ret .no) else .ret .no
  |.o (.a l)=>bif Nat.beq sz 1&&Nat.beq j 0 then (match agg with
   |true=>.ret .no
   |false=>match l[k]? with
    |some y=>.ret (.go [(.s d,.s y)])
    |none=>.ret .no) else .ret .no
  |_=>.ret .no
 |.o (.s (.ep ek j))=>match agg with
  |true=>.ret (bif Nat.ble (j+n) ek.length then .ex True (EK.Ty ek) (EK.ok ek) [(.s d,λx=>.a (((EK.FQ ek x).drop j).take n))] else .no)
  |false=>match ek[j]? with
   |some c=>.ret (.ex True c.Ty c.ok [(.s d,λx=>.s (c.sv x))])
   |none=>.ret .no
 |.o (.s (.vp ek x j))=>match agg with
  |true=>.ret (bif Nat.ble (j+n) ek.length then .go [(.s d,.a (((EK.FQ ek x).drop j).take n))] else .no)
  |false=>match (EK.FQ ek x)[j]? with
   |some y=>.ret (.go [(.s d,.s y)])
   |none=>.ret .no
 |.o (.s (.vs l j))=>match agg with
  |true=>.ret (bif Nat.ble (j+n) l.length then .go [(.s d,.a (cvs ((l.drop j).take n)))] else .no)
  |false=>match l[j]? with
   |some y=>.ret (.go [(.s d,.s y.sv)])
   |none=>.ret .no
 |_=>.ret .no
def run_load {agg:Bool}{n:Nat}(hS:Sh P t=some (agg,n)) {w:World}{b o:Nat}{cs:Array Value}{e:TypeId}{fr:Nat×Nat}(hb:w.heap[b]?=some (.cells cs e fr)) {ρ:Operand->Value}(hx:ρ x= .pointer (some ⟨b,o,none⟩)) {dst:Option Nat}:
  (agg=true->∀vs:List Value,vs.length=n->win cs o vs->(execOp ρ ⟨dst,.load t x,ty,pos,af,g⟩).run P w= .ok (.value (.agg vs.toArray)) w)/\
  (agg=false->∀v,cs[o]?=some v->(execOp ρ ⟨dst,.load t x,ty,pos,af,g⟩).run P w= .ok (.value v) w):=by
 refine⟨λh vs hl hw=>?_,λh v hv=>?_⟩
 ·subst h
  have:=wR (P:=P) hS (w:=w) (a:=⟨b,o,none⟩) (cs:=vs) hl (λj v hj=>by rw [gV,bO hb];exact hw j v hj)
  simp [execOp,hx,Instr.loadAt,Instr.sureAddr,this]
 ·subst h
  have:=wQ (P:=P) hS (w:=w) (a:=⟨b,o,none⟩) (v:=v) (by rw [bO hb];exact hv)
  simp [execOp,hx,Instr.loadAt,Instr.sureAddr,this]
def gl.value {c:Ctx}{T:a8}{β:Nat->Nat}{a:Act}{w:World}{o:Oper}(hh:Holds N c T β τ a w) (ho:o.dst=some d) (hd:d<N) {av:AV}{v:Value}(hex:(execOp a.eval o).run P w= .ok (.value v) w) (cB:av.rel T β v) (hnm:∀i∈av.boxes,τ (.b i)≠none)
  {K:Act->World->Prop} {Q':Exit->Act->World->Prop} (hK:∀a',Rel N c (τ.ap [(.s d,av)]) a' w->K a' w):o.wp P a w K Q':=by
 unfold Oper.wp
 rw [hex]
 show K (a.put o.dst v) w
 rw [ho]
 exact hK _ ⟨T,β,hh.put hd cB hnm⟩
def LS {T:a8}{β:Nat->Nat}(ek:EK) (x:EK.Ty ek) (j n:Nat):dY T β (((EK.FQ ek x).drop j).take n) (((EK.cells ek x).drop j).take n):=zn n (zo j (EK.KC ek x))
def LC {cs:Array Value}{o:Nat}{l:List Value}(h:win cs o l) (j n:Nat):win cs (o+j) ((l.drop j).take n):=by
 intro k v hk
 rw [List.getElem?_take] at hk
 split at hk
 ·rw [List.getElem?_drop] at hk
  rw [ZG5];exact h _ _ hk
 ·cases hk
def vg {cs:Array Value}{l:List Value}{o:Nat}(h:(cs.toList.drop o).take l.length=l):win cs o l:=by
 intro j v hj
 have bR:=(ZB9.1 hj).1
 rw [<-h,List.getElem?_take,if_pos bR,List.getElem?_drop] at hj
 simpa using hj
def anl {ek:EK}{x:EK.Ty ek}{j n i:Nat}(h:i∈ct (((EK.FQ ek x).drop j).take n)):False:=by
 have:=oO h
 rw [EK.F2] at this
 cases this
def aoG {ek:EK}{x:EK.Ty ek}{j i:Nat}{y:SV}(hy:(EK.FQ ek x)[j]?=some y) (h:i∈y.boxes):False:=by
 have:i∈ct (EK.FQ ek x):=iI.2 ⟨y,ZB8 hy,h⟩
 rw [EK.F2] at this
 cases this
def abi {cs:Array Value}{ek:EK}{l z:List (EK.Ty ek)}(h:cs.toList=flat ek (l++z)):win cs 0 (flat ek l):=by
 intro j v hj
 rw [ZA6]
 have h2:cs.toList[j]?=some v:=by
  rw [h,iA]
  exact ZC3 (ZB9.1 hj).1 ▸ hj
 simpa using h2
def LB {cs:Array Value}{ek:EK}{n:Nat}{l:List (EK.Ty ek)}(h:al8 ek n l cs):win cs 0 (flat ek l):=abi (z:=[]) (by simpa using h.2.2)
def akp (ek:EK):∀(x:EK.Ty ek) (j:Nat) (c:CP),ek[j]?=some c->∃v:c.Ty,(EK.cells ek x)[j]?=some (c.val v)/\(EK.ok ek x->c.ok v):=by
 induction ek with
 |nil=>intro x j c h;simp at h
 |cons c0 l ih=>
  intro x j c h
  cases l with
  |nil=>
   cases j with
   |zero=>simp at h;subst h;exact⟨x,rfl,λh=>h⟩
   |succ j=>simp at h
  |cons c1 l=>
   cases j with
   |zero=>simp at h;subst h;exact⟨x.1,rfl,λh=>h.1⟩
   |succ j=>
    obtain⟨v,h1,h2⟩:=ih x.2 j c (by simpa using h)
    exact⟨v,by simpa [EK.cells] using h1,λh=>h2 h.2⟩
theorem ae6:∀l:List CV,(cvs l).length=l.length
 |[]=>rfl
 |_::l=>by simp [cvs,ae6 l]
def RT {T:a8}:∀{l:List CV}{cs:List Value}(n:Nat),uk T l cs->uk T (l.take n) (cs.take n)
 |_,_,0,_=>by simp [uk]
 |[],[],_,_=>by simp [uk]
 |_::_,[],_,h=>h.elim
 |[],_::_,_,h=>h.elim
 |_::l,_::cs,n+1,h=>⟨h.1,RT n h.2⟩
def RU {T:a8}:∀{l:List CV}{cs:List Value}(n:Nat),uk T l cs->uk T (l.drop n) (cs.drop n)
 |_,_,0,h=>by simpa using h
 |[],[],_,_=>by simp [uk]
 |_::_,[],_,h=>h.elim
 |[],_::_,_,h=>h.elim
 |_::l,_::cs,n+1,h=>by simpa using RU n h.2
def ad9 {T:a8}:∀{l:List CV}{cs:List Value},uk T l cs->∀{i:Nat}{x:CV},l[i]?=some x->∃v,cs[i]?=some v/\x.rel T v
 |[],[],_,i,x,hx=>by simp at hx
 |_::_,[],h,_,_,_=>h.elim
 |[],_::_,h,_,_,_=>h.elim
 |y::l,v::cs,h,i,x,hx=>by
  cases i with
  |zero=>simp at hx;subst hx;exact⟨v,by simp,h.1⟩
  |succ i=>simpa using ad9 h.2 (by simpa using hx)
def aml {x:CV}{i:Nat}(h:i∈x.sv.boxes):False:=by cases x<;>simp [CV.sv,SV.boxes] at h
def aoH {i:Nat}:∀{l:List CV},i∈ct (cvs l)->False
 |[],h=>by simp [cvs,ct] at h
 |x::l,h=>by
  simp only [cvs,ct,ZB5] at h
  rcases h with h |h
  ·exact aml h
  ·exact aoH h
def an5 {agg:Bool}{n:Nat}(hS:Sh P t=some (agg,n)) (hd:d<N):gl P N ⟨some d,.load t x,ty,pos,af,g⟩ (cq x λv=>aiK agg n d v):=by
 intro c τ a w hr hp K Q' hK
 obtain⟨T,β,hh⟩:=hr
 rw [dJ] at hp hK
 cases hx:ev τ x with
 |none=>rw [hx] at hp;exact hp.elim
 |some v=>
  rw [hx] at hp hK
  have hv:=fA hh hx
  simp only at hp hK
  unfold aiK at hp hK
  split at hp
  ·rename_i i o
   simp only [uZ,Q.run] at hp hK
   have e:a.eval x= .pointer (some ⟨β i,o,none⟩):=hv
   cases hb:τ (.b i) with
   |none=>rw [hb] at hp;exact hp.elim
   |some av=>
    rw [hb] at hp hK
    simp only at hp hK
    split at hp
    ·rename_i l
     obtain⟨cs,te,hc,cB⟩:=hh.boxes i _ hb (by intro e;cases e)
     have yw:dY T β l cs.toList:=cB
     have hlen:=lx yw
     have hld:=run_load (x:=x) (ty:=ty) (pos:=pos) (af:=af) (g:=g) hS hc e (dst:=some d)
     cases agg with
     |true=>
      simp only [Q.run] at hp hK
      cases rZ:Nat.ble (o+n) l.length with
      |false=>rw [rZ] at hp;exact hp.elim
      |true=>
       rw [rZ] at hp hK
       have hle:=zqNlb rZ
       refine gl.value (av:=.a ((l.drop o).take n)) hh rfl hd (hld.1 rfl ((cs.toList.drop o).take n) (by rw [ZB6,ZC8];omega) (vg (by rw [ZB6,ZC8];congr 1;omega))) ⟨_,rfl,zn n (zo o yw)⟩ (λk hk=>hh.named (.b i) _ hb k (oO hk)) (λa' h=>hK _ _ _ rfl h)
     |false=>
      simp only at hp hK
      split at hp
      ·rename_i y hy
       simp only [hy] at hK
       obtain⟨v,hv',xj⟩:=vC yw hy
       exact gl.value (av:=.s y) hh rfl hd (hld.2 rfl v (by simpa using hv')) xj (λk hk=>hh.named (.b i) _ hb k (iI.2 ⟨y,ZB8 hy,hk⟩)) (λa' h=>hK _ _ _ rfl h)
      ·exact hp.elim
    ·exact hp.elim
  ·rename_i i sz k j
   simp only [uZ,Q.run] at hp hK
   obtain⟨e,hj⟩:=hv
   cases hb:τ (.b i) with
   |none=>rw [hb] at hp;exact hp.elim
   |some av=>
    rw [hb] at hp hK
    simp only at hp hK
    split at hp
    ·rename_i ek l
     obtain⟨cs,te,hc,ft,zz,lj,hz⟩:=hh.boxes i _ hb (by intro e;cases e)
     have hld:=run_load (x:=x) (ty:=ty) (pos:=pos) (af:=af) (g:=g) hS hc e (dst:=some d)
     simp only at hK
     cases hq:Nat.beq ek.length sz with
     |false=>rw [hq] at hp;exact hp.elim
     |true=>
      rw [hq] at hp hK
      have db:ek.length=sz:=by simpa using hq
      subst db
      have hw:∀hk:k<l.length,win cs (k*ek.length) (EK.cells ek (nth ek l k)):=λhk=>by
       have:=DA (abi lj) hk
       rwa [ZA6] at this
      cases agg with
      |true=>
       simp only [cond_true,Q.run] at hp hK
       cases rZ:Nat.ble (j+n) ek.length with
       |false=>rw [rZ] at hp;exact hp.elim
       |true=>
        rw [rZ] at hp hK
        have hle:=zqNlb rZ
        have hk:k<l.length:=hp
        refine gl.value (av:=.a (((EK.FQ ek (nth ek l k)).drop j).take n)) hh rfl hd (hld.1 rfl (((EK.cells ek (nth ek l k)).drop j).take n) (by rw [ZB6,ZC8,EK.bV];omega) (LC (hw hk) j n)) ⟨_,rfl,LS _ _ j n⟩ (λk hk=>(anl hk).elim) (λa' h=>hK _ _ _ rfl h)
      |false=>
       simp only [cond_true] at hp hK
       split at hp
       ·rename_i y hy
        simp only [hy] at hK
        have hk:k<l.length:=hp
        obtain⟨v,hv',xj⟩:=vC (EK.KC (T:=T) (β:=β) ek (nth ek l k)) hy
        exact gl.value (av:=.s y) hh rfl hd (hld.2 rfl v (hw hk j v hv')) xj (λk hk=>(aoG hy hk).elim) (λa' h=>hK _ _ _ rfl h)
       ·exact hp.elim
    ·rename_i l
     obtain⟨cs,te,hc,cB⟩:=hh.boxes i _ hb (by intro e;cases e)
     have yw:dY T β l cs.toList:=cB
     simp only at hK
     cases hq:Nat.beq sz 1&&Nat.beq j 0 with
     |false=>rw [hq] at hp;exact hp.elim
     |true=>
      rw [hq] at hp hK
      simp only [ZB1,Nat.beq_eq] at hq
      obtain⟨rfl,rfl⟩:=hq
      have hld:=run_load (x:=x) (ty:=ty) (pos:=pos) (af:=af) (g:=g) hS hc e (dst:=some d)
      simp only [cond_true] at hp hK
      cases agg with
      |true=>exact hp.elim
      |false=>
       simp only at hp hK
       split at hp
       ·rename_i y hy
        simp only [hy] at hK
        obtain⟨v,hv',xj⟩:=vC yw hy
        exact gl.value (av:=.s y) hh rfl hd (hld.2 rfl v (by simpa using hv')) xj (λk hk=>hh.named (.b i) _ hb k (iI.2 ⟨y,ZB8 hy,hk⟩)) (λa' h=>hK _ _ _ rfl h)
       ·exact hp.elim
    ·exact hp.elim
  ·rename_i ek j
   obtain⟨b,o,m,e,hT,ho,hj⟩:=hv
   obtain⟨ft,cs,te,fr,l,hc,jV,nv⟩:=hh.typed b _ hT
   have hld:=run_load (x:=x) (ty:=ty) (pos:=pos) (af:=af) (g:=g) hS hc e (dst:=some d)
   have hol:o<l.length:=by rw [nv.1];exact ho
   have hw:win cs (o*ek.length) (EK.cells ek (nth ek l o)):=by
    have:=DA (LB nv) hol
    rwa [ZA6] at this
   have cn:EK.ok ek (nth ek l o):=nv.2.1 _ (ZB8 (qe hol))
   cases agg with
   |true=>
    simp only [Q.run] at hp hK
    cases rZ:Nat.ble (j+n) ek.length with
    |false=>rw [rZ] at hp;exact hp.elim
    |true=>
     rw [rZ] at hp hK
     have hle:=zqNlb rZ
     refine gl.value (av:=.a (((EK.FQ ek (nth ek l o)).drop j).take n)) hh rfl hd (hld.1 rfl (((EK.cells ek (nth ek l o)).drop j).take n) (by rw [ZB6,ZC8,EK.bV];omega) (LC hw j n)) ⟨_,rfl,LS _ _ j n⟩ (λk hk=>(anl hk).elim) (λa' h=>hK _ _ _ ⟨_,cn,rfl⟩ h)
   |false=>
    simp only at hp hK
    split at hp
    ·rename_i cp hcp
     simp only [hcp] at hK
     obtain⟨v,h1,h2⟩:=akp ek (nth ek l o) j cp hcp
     exact gl.value (av:=.s (cp.sv v)) hh rfl hd (hld.2 rfl _ (hw j _ h1)) (cp.abt v) (λk hk=>by cases cp<;>simp [CP.sv,AV.boxes,A0.boxes,SV.boxes] at hk) (λa' h=>hK _ _ _ ⟨v,h2 cn,rfl⟩ h)
    ·exact hp.elim
  ·rename_i ek rec j
   obtain⟨b,o,cs,e,hj,hT,hw⟩:=hv
   obtain⟨te,fr,hc⟩:=DT hh.typed hT
   have hld:=run_load (x:=x) (ty:=ty) (pos:=pos) (af:=af) (g:=g) hS hc e (dst:=some d)
   cases agg with
   |true=>
    simp only [Q.run] at hp hK
    cases rZ:Nat.ble (j+n) ek.length with
    |false=>rw [rZ] at hp;exact hp.elim
    |true=>
     rw [rZ] at hp hK
     have hle:=zqNlb rZ
     refine gl.value (av:=.a (((EK.FQ ek rec).drop j).take n)) hh rfl hd (hld.1 rfl (((EK.cells ek rec).drop j).take n) (by rw [ZB6,ZC8,EK.bV];omega) (LC hw j n)) ⟨_,rfl,LS _ _ j n⟩ (λk hk=>(anl hk).elim) (λa' h=>hK _ _ _ rfl h)
   |false=>
    simp only at hp hK
    split at hp
    ·rename_i y hy
     simp only [hy] at hK
     obtain⟨v,hv',xj⟩:=vC (EK.KC (T:=T) (β:=β) ek rec) hy
     exact gl.value (av:=.s y) hh rfl hd (hld.2 rfl v (hw j v hv')) xj (λk hk=>(aoG hy hk).elim) (λa' h=>hK _ _ _ rfl h)
    ·exact hp.elim
  ·rename_i l j
   obtain⟨b,cs,e,hT,hC⟩:=hv
   obtain⟨te,fr,hc⟩:=DT hh.typed hT
   have yw:dY T β (cvs l) cs.toList:=DR hC
   have hlen:=lx yw
   rw [ae6] at hlen
   have hld:=run_load (x:=x) (ty:=ty) (pos:=pos) (af:=af) (g:=g) hS hc e (dst:=some d)
   cases agg with
   |true=>
    simp only [Q.run] at hp hK
    cases rZ:Nat.ble (j+n) l.length with
    |false=>rw [rZ] at hp;exact hp.elim
    |true=>
     rw [rZ] at hp hK
     have hle:=zqNlb rZ
     refine gl.value (av:=.a (cvs ((l.drop j).take n))) hh rfl hd (hld.1 rfl ((cs.toList.drop j).take n) (by rw [ZB6,ZC8];omega) (vg (by rw [ZB6,ZC8];congr 1;omega))) ⟨_,rfl,DR (RT n (RU j hC))⟩ (λk hk=>(aoH hk).elim) (λa' h=>hK _ _ _ rfl h)
   |false=>
    simp only at hp hK
    split at hp
    ·rename_i y hy
     simp only [hy] at hK
     obtain⟨v,hv',xj⟩:=ad9 hC hy
     exact gl.value (av:=.s y.sv) hh rfl hd (hld.2 rfl v (by simpa using hv')) (CV.ahP.1 xj) (λk hk=>(aml hk).elim) (λa' h=>hK _ _ _ rfl h)
    ·exact hp.elim
  ·exact hp.elim
end
end GL
namespace GL
def spl (cs:Array Value) (k:Nat):List Value->Array Value
 |[]=>cs
 |v::vs=>spl (cs.setIfInBounds k v) (k+1) vs
def afq (l:List SV) (k:Nat):List SV->List SV
 |[]=>l
 |x::m=>afq (l.set k x) (k+1) m
theorem ph:∀(vs:List Value) (cs:Array Value) (k:Nat),(spl cs k vs).size=cs.size
 |[],_,_=>rfl
 |_::vs,cs,k=>by simp [spl,ph vs]
theorem X3:∀(m l:List SV) (k:Nat),(afq l k m).length=l.length
 |[],_,_=>rfl
 |_::m,l,k=>by simp [afq,X3 m]
def n0:∀(vs:List Value) (cs:Array Value) (k:Nat),k+vs.length<=cs.size->(spl cs k vs).toList=cs.toList.take k++vs++cs.toList.drop (k+vs.length)
 |[],cs,k,_=>by simp [spl]
 |v::vs,cs,k,h=>by
  simp only [ZA1] at h
  rw [spl,n0 vs _ (k+1) (by simp;omega),Array.toList_setIfInBounds]
  have hk:k<cs.toList.length:=by simp;omega
  rw [List.take_set,List.take_succ_eq_append_getElem hk,List.set_append_right _ _ (by simp;omega)]
  have h1:k-(cs.toList.take k).length=0:=by simp;omega
  rw [h1]
  have h2:(cs.toList.set k v).drop (k+1+vs.length)=cs.toList.drop (k+(v::vs).length):=by
   rw [List.drop_set_of_lt (by omega)]
   simp only [ZA1]
   congr 1;omega
  rw [h2]
  simp
section
variable {T:a8}{β:Nat->Nat}
def YS:∀{l:List SV}{cs:List Value}(k:Nat) {x:SV}{v:Value},dY T β l cs->x.rel T β v->dY T β (l.set k x) (cs.set k v)
 |[],[],_,_,_,_,_=>trivial
 |_::_,[],_,_,_,h,_=>h.elim
 |[],_::_,_,_,_,h,_=>h.elim
 |_::l,_::cs,0,x,v,h,hx=>⟨hx,h.2⟩
 |_::l,_::cs,k+1,x,v,h,hx=>⟨h.1,YS k h.2 hx⟩
def RR:∀{m:List SV}{vs:List Value}(l:List SV) (cs:Array Value) (k:Nat),dY T β m vs->dY T β l cs.toList->dY T β (afq l k m) (spl cs k vs).toList
 |[],[],_,_,_,_,h=>h
 |_::_,[],_,_,_,h,_=>h.elim
 |[],_::_,_,_,_,h,_=>h.elim
 |x::m,v::vs,l,cs,k,hm,h=>by
  refine RR (l.set k x) (cs.setIfInBounds k v) (k+1) hm.2 ?_
  rw [Array.toList_setIfInBounds]
  exact YS k h hm.1
def LY {i:Nat}:∀(m l:List SV) (k:Nat),i∈ct (afq l k m)->i∈ct l\/i∈ct m
 |[],_,_,h=>.inl h
 |x::m,l,k,h=>by
  rcases LY m (l.set k x) (k+1) h with h1 |h1
  ·rw [iI] at h1
   obtain⟨y,hy,hi⟩:=h1
   rcases List.mem_or_eq_of_mem_set hy with h2 |h2
   ·exact .inl (iI.2 ⟨y,h2,hi⟩)
   ·exact .inr (iI.2 ⟨x,by simp,by rw [<-h2];exact hi⟩)
  ·right
   rw [iI] at h1 ⊢
   obtain⟨y,hy,hi⟩:=h1
   exact⟨y,by simp [hy],hi⟩
def AZ:List SV->Nat->List SV->List SV
 |[],_,_=>[]
 |x::l,0,[]=>x::l
 |_::l,0,y::m=>y::AZ l 0 m
 |x::l,k+1,m=>x::AZ l k m
theorem X2:∀(l:List SV) (k:Nat),AZ l k []=l
 |[],0=>rfl
 |[],_+1=>rfl
 |_::_,0=>rfl
 |x::l,k+1=>by show x::AZ l k []=x::l;rw [X2 l k]
theorem RF:∀(k:Nat) (m:List SV),AZ [] k m=[]
 |0,[]=>rfl
 |0,_::_=>rfl
 |_+1,_=>rfl
theorem RG (y:SV) (m:List SV):∀(l:List SV) (k:Nat),AZ l k (y::m)=AZ (l.set k y) (k+1) m
 |[],k=>by rw [List.set_nil,RF,RF]
 |_::_,0=>rfl
 |x::l,k+1=>by show x::AZ l k (y::m)=x::AZ (l.set k y) (k+1) m;rw [RG y m l k]
def UH:∀(m l:List SV) (k:Nat),AZ l k m=afq l k m
 |[],l,k=>X2 l k
 |y::m,l,k=>by rw [RG,UH m];rfl
def YR {m:List SV}{vs:List Value}(l:List SV) (cs:Array Value) (k:Nat) (h1:dY T β m vs) (h2:dY T β l cs.toList):dY T β (AZ l k m) (spl cs k vs).toList:=by rw [UH];exact RR l cs k h1 h2
def LX {i:Nat}(m l:List SV) (k:Nat) (h:i∈ct (AZ l k m)):i∈ct l\/i∈ct m:=by rw [UH] at h;exact LY m l k h
end
def agQ {w:World}{b:Nat}{cs:Array Value}{e:TypeId}{fr:Nat×Nat}(h:w.heap[b]?=some (.cells cs e fr)) (o:Nat):w.frozen? ⟨b,o,none⟩=(decide (fr.1<=o)&&decide (o<fr.2)):=by
 simp [World.frozen?,h]
theorem UK {w:World}{b:Nat}{cs:Array Value}{e:TypeId}{fr:Nat×Nat}(h:w.heap[b]?=some (.cells cs e fr)) (o:Nat) (v:Value):XC w b (.cells (cs.setIfInBounds o v) e fr) (w.setCell ⟨b,o,none⟩ v) where
 at_:=by simp [World.setCell,Array.getElem?_modify,h]
 other:=λk hk=>by simp only [World.setCell,Array.getElem?_modify];rw [if_neg (by omega)]
 size:=by simp [World.setCell]
 os:=rfl
 tape:=rfl
 output:=rfl
section
variable {P:Program}{N:Nat}{τ:St}
variable {d:Nat}{x y z:Operand}{t u ty:TypeId}{pos:String}{af:Array Edge}{g:Option (Nat×Bool)}
theorem q8 {b off:Nat}{e:TypeId}{fr:Nat×Nat}:∀(vs:List Value) (i:Nat) (cs:Array Value) (w:World),w.heap[b]?=some (.cells cs e fr)->off+i+vs.length<=cs.size->free fr cs.size->(∀v∈vs,one v=true)->
  ∃w',(storeCells ⟨b,off,none⟩ vs i).run P w= .ok () w'/\XC w b (.cells (spl cs (off+i) vs) e fr) w'
 |[],i,cs,w,h,_,_,_=>⟨w,by simp [storeCells],⟨h,λ_ _=>rfl,rfl,rfl,rfl,rfl⟩⟩
 |v::vs,i,cs,w,h,hle,jV,aaD=>by
  simp only [ZA1] at hle
  have hc:w.cell? ⟨b,off+i,none⟩=some (cs[off+i]'(by omega)):=by rw [bO h];exact ZH2 (by omega)
  have hf:w.frozen? ⟨b,off+i,none⟩=false:=by rw [agQ h];exact alE jV _ (by omega)
  have hs:(store ((⟨b,off,none⟩:Addr).add i) v).run P w= .ok () (w.setCell ⟨b,off+i,none⟩ v):=by
   rw [gV,run_store P w _ v .plain (aaD v (by simp)),hc]
   simp [hf]
  have ho:=UK h (off+i) v
  obtain⟨w',hr,hw⟩:=q8 (off:=off) vs (i+1) (cs.setIfInBounds (off+i) v) _ ho.at_ (by simp;omega) (by simpa using jV) (λx hx=>aaD x (by simp [hx]))
  refine⟨w',?_,?_⟩
  ·simp only [storeCells,Sem.run_bind,hs,Result.andThen_ok]
   exact hr
  ·exact⟨hw.at_,λk hk=>(hw.other k hk).trans (ho.other k hk),hw.size.trans ho.size,hw.os.trans ho.os,hw.tape.trans ho.tape,hw.output.trans ho.output⟩
def UL {gg:Bool}{n:Nat}(h:Sh P t=some (gg,n)) {b off:Nat}{e:TypeId}{fr:Nat×Nat}{cs:Array Value}{w:World}{v:Value}(hb:w.heap[b]?=some (.cells cs e fr)) (hn:v.cells.size=n) (hle:off+n<=cs.size) (jV:free fr cs.size) (aaD:∀x∈v.cells.toList,one x=true):
  ∃w',(storeVar t ⟨b,off,none⟩ v).run P w= .ok () w'/\XC w b (.cells (spl cs off v.cells.toList) e fr) w':=by
 obtain⟨_,h2⟩:=kB h w
 obtain⟨w',hr,hw⟩:=q8 (P:=P) (off:=off) v.cells.toList 0 cs w hb (by simp [hn];exact hle) jV aaD
 refine⟨w',?_,by simpa using hw⟩
 simp [storeVar,h2,hn,hr]
def SV.one:SV->Bool
 |.v x=>GL.one x
 |_=>true
def nF:List SV->Bool
 |[]=>true
 |x::l=>x.one&&nF l
def SV.VD {T:a8}{β:Nat->Nat}{x:SV}{v:Value}(h:x.one=true) (hr:x.rel T β v):GL.one v=true:=by
 cases x with
 |v x=>have:v=x:=hr;subst this;exact h
 |q b=>have:v=_:=hr;subst this;rfl
 |bp i o=>have:v=_:=hr;subst this;rfl
 |xp i sz k j=>obtain⟨rfl,_⟩:=hr;rfl
 |xs i sz o m=>rcases hr with ⟨_,p,rfl⟩ |⟨cap,n,rfl,_⟩<;>rfl
 |ep ek j=>obtain⟨b,o,n,rfl,_⟩:=hr;rfl
 |sl ek len=>rcases hr with ⟨_,p,rfl⟩ |⟨b,o,cap,n,rfl,_⟩<;>rfl
 |vw ek l=>rcases hr with ⟨_,p,cap,rfl⟩ |⟨b,o,cap,cs,e,fr,rfl,_⟩<;>rfl
 |vz ek l=>rcases hr with ⟨_,p,cap,rfl⟩ |⟨b,o,cap,cs,rfl,_⟩<;>rfl
 |vp ek x j=>obtain⟨b,o,cs,rfl,_⟩:=hr;rfl
 |vs l j=>obtain⟨b,cs,rfl,_⟩:=hr;rfl
 |er b=>
  cases b with
  |true=>have:v= .nilIface:=hr;subst this;rfl
  |false=>obtain⟨t,x,rfl⟩:=hr;rfl
 |e0=>obtain⟨p,rfl⟩:=hr;rfl
def YT {T:a8}{β:Nat->Nat}:∀{l:List SV}{cs:List Value},nF l=true->dY T β l cs->∀v∈cs,GL.one v=true
 |[],[],_,_,v,hv=>by cases hv
 |_::_,[],_,h,_,_=>h.elim
 |[],_::_,_,h,_,_=>h.elim
 |x::l,v::cs,h1,h2,y,hy=>by
  simp only [nF,ZB1] at h1
  rcases ZB7.1 hy with rfl |hy
  ·exact SV.VD h1.1 h2.1
  ·exact YT h1.2 h2.2 y hy
def E4 {v:Value}(h:GL.one v=true):v.cells= #[v]:=by cases v<;>first|rfl|(simp [GL.one,Value.oneCell'] at h)
def JH:AV->Option (List SV)
 |.o (.a l)=>some l
 |.o (.s x)=>some [x]
 |_=>none
def zQ {T:a8}{β:Nat->Nat}{x:AV}{l:List SV}(h:JH x=some l) (aaD:nF l=true) {v:Value}(hr:x.rel T β v):dY T β l v.cells.toList/\∀y∈v.cells.toList,GL.one y=true:=by
 cases x with
 |t l=>cases h
 |rs ek l=>cases h
 |zz=>cases h
 |fn f l=>cases h
 |o x=>
  cases x with
  |s y=>
   cases h
   simp only [nF,Bool.and_true] at aaD
   have h1:=SV.VD aaD hr
   rw [E4 h1]
   exact⟨⟨hr,trivial⟩,by simpa using h1⟩
  |a l=>
   cases h
   obtain⟨cs,rfl,hl⟩:=hr
   exact⟨hl,YT aaD hl⟩
def yB {x:AV}{l:List SV}(h:JH x=some l) {i:Nat}(hi:i∈ct l):i∈x.boxes:=by
 cases x with
 |t l=>cases h
 |rs ek l=>cases h
 |zz=>cases h
 |fn f l=>cases h
 |o x=>
  cases x with
  |s y=>cases h;simpa [AV.boxes,A0.boxes,ct] using hi
  |a l=>cases h;exact hi
def CP.ofS:(c:CP)->SV->Option c.Ty
 |.i64,.v (.int .i64 n)=>some n
 |.row,.v (.int .i64 n)=>some n
 |.u8,.v (.int .u8 n)=>some n
 |.str _,.v (.string s)=>some s
 |.bool,.q b=>some b
 |.bool,.v (.bool b)=>some b
 |_,_=>none
def EK.ofS:(ek:List CP)->List SV->Option (EK.Ty ek)
 |[],[]=>some ()
 |[c],[x]=>c.ofS x
 |c::d::l,x::m=>match c.ofS x,EK.ofS (d::l) m with
  |some v,some r=>some (v,r)
  |_,_=>none
 |_,_=>none
def CP.KK {T:a8}{β:Nat->Nat}{c:CP}{x:SV}{r:c.Ty}(h:c.ofS x=some r) {v:Value}(hr:x.rel T β v):v=c.val r:=by
 unfold CP.ofS at h
 split at h<;>first|(cases h;exact hr)|cases h
theorem EK.zv {T:a8}{β:Nat->Nat}:∀(ek:List CP) {l:List SV}{r:EK.Ty ek},EK.ofS ek l=some r->∀{vs:List Value},dY T β l vs->vs=EK.cells ek r
 |[],[],_,_,[],_=>rfl
 |[],[],_,_,_::_,h=>h.elim
 |[],_::_,_,h,_,_=>by simp [EK.ofS] at h
 |[c],[],_,h,_,_=>by simp [EK.ofS] at h
 |[c],[x],r,h,[],h'=>h'.elim
 |[c],[x],r,h,[v],h'=>by
  have:=CP.KK (c:=c) h h'.1
  simp [EK.cells,this]
 |[c],[x],r,h,_::_::_,h'=>h'.2.elim
 |[c],_::_::_,r,h,_,_=>by simp [EK.ofS] at h
 |c::d::l,[],r,h,_,_=>by simp [EK.ofS] at h
 |c::d::l,x::m,r,h,[],h'=>h'.elim
 |c::d::l,x::m,r,h,v::vs,h'=>by
  simp only [EK.ofS] at h
  split at h
  ·rename_i r1 r2 h1 h2
   cases h
   rw [CP.KK h1 h'.1,EK.zv (d::l) h2 h'.2]
   rfl
  ·cases h
def EK.JY:(ek:List CP)->EK.Ty ek->Nat->SV->Option (EK.Ty ek)
 |[],_,_,_=>none
 |[c],_,0,v=>c.ofS v
 |[_],_,_+1,_=>none
 |c::_::_,x,0,v=>match c.ofS v with
  |some y=>some (y,x.2)
  |none=>none
 |_::d::l,x,j+1,v=>match EK.JY (d::l) x.2 j v with
  |some y=>some (x.1,y)
  |none=>none
def EK.L1 {T:a8}{β:Nat->Nat}:∀(ek:List CP) {x r:EK.Ty ek}{j:Nat}{s:SV},EK.JY ek x j s=some r->∀{v:Value},s.rel T β v->EK.cells ek r=(EK.cells ek x).set j v
 |[],_,_,_,_,h,_,_=>by simp [EK.JY] at h
 |[c],x,r,0,s,h,v,hr=>by
  simp only [EK.JY] at h
  simp [EK.cells,CP.KK h hr]
 |[c],x,r,j+1,s,h,v,hr=>by simp [EK.JY] at h
 |c::d::l,x,r,0,s,h,v,hr=>by
  simp only [EK.JY] at h
  split at h
  ·rename_i y hy
   cases h
   simp [EK.cells,CP.KK hy hr]
  ·cases h
 |c::d::l,x,r,j+1,s,h,v,hr=>by
  simp only [EK.JY] at h
  split at h
  ·rename_i y hy
   cases h
   have:=EK.L1 (d::l) hy hr
   simp [EK.cells,this]
  ·cases h
def aaO (ek:EK):∀(l:List (EK.Ty ek)) (k:Nat) (r:EK.Ty ek),k<l.length->flat ek (l.set k r)=(flat ek l).take (k*ek.length)++EK.cells ek r++(flat ek l).drop (k*ek.length+ek.length)
 |[],_,_,h=>by simp at h
 |x::l,0,r,_=>by
  simp only [List.set_cons_zero,im,ZH6,List.take_zero,ZC9,ZA6]
  congr 1
  rw [<-EK.bV ek x];simp
 |x::l,k+1,r,h=>by
  simp only [List.set_cons_succ,im]
  rw [aaO ek l k r (by simpa using h)]
  have e1:(k+1)*ek.length=(EK.cells ek x).length+k*ek.length:=by rw [EK.bV,ZF0,Nat.one_mul,Nat.add_comm]
  have e2:(k+1)*ek.length+ek.length=(EK.cells ek x).length+(k*ek.length+ek.length):=by rw [e1,ZG5]
  rw [e2,e1,List.take_length_add_append,ZG2]
  simp [ZC5]
def abA {l vs:List Value}{o j:Nat}(r:List Value) (v:Value) (hr:(l.drop o).take r.length=r) (hj:j<r.length) (ho:o+r.length<=l.length) (hvs:vs=[v]):
  l.take (o+j)++vs++l.drop (o+j+vs.length)=l.take o++r.set j v++l.drop (o+r.length):=by
 subst hvs
 have h1:l.take (o+j)=l.take o++r.take j:=by
  rw [List.take_add,<-hr,List.take_take,Nat.min_eq_left (by omega)]
 have h2:l.drop (o+j+1)=r.drop (j+1)++l.drop (o+r.length):=by
  have:l.drop o=r++l.drop (o+r.length):=by
   rw [<-ZF3 r.length (l.drop o),hr,ZH0]
  rw [ZG5,<-ZH0,this,List.drop_append_of_le_length (by omega)]
 rw [List.length_singleton,h1,h2,List.set_eq_take_append_cons_drop,if_pos hj]
 simp
def abv (n:Nat) (v u:AV):Q Rs:=
 match JH u with
 |none=>.ret .no
 |some m=>bif Nat.beq m.length n&&nF m then (match v with
  |.o (.s (.bp i o))=>uZ i fun
   |.o (.a l)=>.ret (bif Nat.ble (o+n) l.length then .go [(.b i,.a (AZ l o m))] else .no)
   |_=>.ret .no
  |.o (.s (.xp i sz k j))=>uZ i fun
   |.rs ek l=>bif Nat.beq ek.length sz then (bif Nat.beq n sz&&Nat.beq j 0 then (match EK.ofS ek m with
    |some r=>.ret (.oJ (k<l.length) [(.b i,.rs ek (l.set k r))])
    |none=>.ret .no) else match m with
     |[s]=>(match EK.JY ek (nth ek l k) j s with
      |some r=>.ret (.oJ (k<l.length) [(.b i,.rs ek (l.set k r))])
      |none=>.ret .no)
     |_=>.ret .no) else .ret .no
   |_=>.ret .no
  |.o (.s (.ep ek j))=>bif Nat.beq n ek.length&&Nat.beq j 0 then (match EK.ofS ek m with
   |some r=>.ret (.oJ (EK.ok ek r) [])
   |none=>.ret .no) else .ret .no
  |_=>.ret .no) else .ret .no
def RJ {ek:EK}{l z:List (EK.Ty ek)}{cs:Array Value}(lj:cs.toList=flat ek (l++z)) {k:Nat}(hk:k<l.length) (r:EK.Ty ek) {vs:List Value}{j:Nat}(hle:k*ek.length+j+vs.length<=cs.size)
  (h:(j=0/\vs=EK.cells ek r)\/(∃v,vs=[v]/\j<ek.length/\EK.cells ek r=(EK.cells ek (nth ek l k)).set j v)):(spl cs (k*ek.length+j) vs).toList=flat ek (l.set k r++z):=by
 have hkz:k<(l++z).length:=by simp;omega
 have WH:(l.set k r++z)=(l++z).set k r:=by rw [List.set_append_left _ _ hk]
 rw [WH,aaO ek (l++z) k r hkz,n0 _ _ _ hle,lj]
 rcases h with ⟨rfl,rfl⟩ |⟨v,rfl,hj,hr⟩
 ·rw [Nat.add_zero,EK.bV]
 ·have h1:((flat ek (l++z)).drop (k*ek.length)).take (EK.cells ek (nth ek l k)).length=EK.cells ek (nth ek l k):=by
   rw [EK.bV]
   exact aeM ek (l++z) k _ (by rw [ZC3 hk];exact qe hk)
  have hlen:k*ek.length+(EK.cells ek (nth ek l k)).length<=(flat ek (l++z)).length:=by
   rw [EK.bV,cR]
   have:(k+1)*ek.length<=(l++z).length*ek.length:=ZG9 _ hkz
   rw [ZF0,Nat.one_mul] at this
   exact this
  rw [hr,abA (EK.cells ek (nth ek l k)) v h1 (by rw [EK.bV];exact hj) hlen rfl,EK.bV]
def S6 {ek:EK}{l z:List (EK.Ty ek)}{cs:Array Value}(lj:cs.toList=flat ek (l++z)) {k:Nat}(hk:k<l.length):k*ek.length+ek.length<=cs.size:=by
 have h1:cs.size=(l++z).length*ek.length:=by rw [<-ZD6,lj,cR]
 have:(k+1)*ek.length<=(l++z).length*ek.length:=ZG9 _ (by simp;omega)
 rw [ZF0,Nat.one_mul] at this
 omega
def ad1:∀(ek:List CP) {x r:EK.Ty ek}{j:Nat}{s:SV},EK.JY ek x j s=some r->j<ek.length
 |[],_,_,_,_,h=>by simp [EK.JY] at h
 |[c],x,r,0,s,h=>by simp
 |[c],x,r,j+1,s,h=>by simp [EK.JY] at h
 |c::d::l,x,r,0,s,h=>by simp
 |c::d::l,x,r,j+1,s,h=>by
  simp only [EK.JY] at h
  split at h
  ·rename_i y hy
   have:=ad1 (d::l) hy
   simp at this ⊢;omega
  ·cases h
def alT {gg:Bool}{n:Nat}(hS:Sh P t=some (gg,n)):gl P N ⟨none,.store t x y,ty,pos,af,g⟩ (cq x λv=>cq y λu=>abv n v u):=by
 intro c τ a w hr hp K Q' hK
 obtain⟨T,β,hh⟩:=hr
 rw [dJ] at hp hK
 cases hx:ev τ x with
 |none=>rw [hx] at hp;exact hp.elim
 |some v=>
  rw [hx] at hp hK
  simp only [dJ] at hp hK
  cases hy:ev τ y with
  |none=>rw [hy] at hp;exact hp.elim
  |some u=>
   rw [hy] at hp hK
   simp only at hp hK
   unfold abv at hp hK
   cases hm:JH u with
   |none=>rw [hm] at hp;exact hp.elim
   |some m=>
    rw [hm] at hp hK
    simp only at hp hK
    cases hc:Nat.beq m.length n&&nF m with
    |false=>rw [hc] at hp;exact hp.elim
    |true=>
     rw [hc] at hp hK
     simp only [cond_true] at hp hK
     simp only [ZB1] at hc
     have hmn:m.length=n:=by simpa using hc.1
     have hv:=fA hh hx
     obtain⟨cB,ao5⟩:=zQ hm hc.2 (fA hh hy)
     have hml:=lx cB
     have db:(a.eval y).cells.size=n:=by rw [<-hmn,hml];simp
     have xe:∀{b o:Nat} {cs:Array Value} {e:TypeId} {fr:Nat×Nat},a.eval x= .pointer (some ⟨b,o,none⟩)->w.heap[b]?=some (.cells cs e fr)->o+n<=cs.size->free fr cs.size->
       ∃w',(execOp a.eval ⟨none,.store t x y,ty,pos,af,g⟩).run P w= .ok .skip w'/\XC w b (.cells (spl cs o (a.eval y).cells.toList) e fr) w':=by
      intro b o cs e fr e1 hb hle jV
      obtain⟨w',fK,hw⟩:=UL (P:=P) hS (off:=o) (v:=a.eval y) hb db hle jV ao5
      exact⟨w',by simp [execOp,e1,Instr.storeAt,Instr.sureAddr,fK],hw⟩
     have fin:∀{w':World} {u:FJ},(execOp a.eval ⟨none,.store t x y,ty,pos,af,g⟩).run P w= .ok .skip w'->K a w'->Oper.wp P ⟨none,.store t x y,ty,pos,af,g⟩ a w K Q':=by
      intro w' u fK hk
      unfold Oper.wp
      rw [fK]
      exact hk
     split at hp
     ·rename_i i o
      simp only [uZ,Q.run] at hp hK
      have e:a.eval x= .pointer (some ⟨β i,o,none⟩):=hv
      cases hb:τ (.b i) with
      |none=>rw [hb] at hp;exact hp.elim
      |some av=>
       rw [hb] at hp hK
       simp only at hp hK
       split at hp
       ·rename_i l
        simp only [Q.run] at hp hK
        cases rZ:Nat.ble (o+n) l.length with
        |false=>rw [rZ] at hp;exact hp.elim
        |true=>
         rw [rZ] at hp hK
         have hle:=zqNlb rZ
         have hl:live τ i:=fg hb (by intro e;cases e)
         obtain⟨cs,te,lj,hrl⟩:=hh.boxes i _ hb (by intro e;cases e)
         have ao0:dY T β l cs.toList:=hrl
         have hlen:=lx ao0
         obtain⟨w',fK,hw⟩:=xe e lj (by simp at hlen;omega) (O6 _)
         refine fin (u:=[]) fK (hK _ _ _ rfl ⟨T,β,?_⟩)
         refine hh.IT hl lj hw (ph _ _ _) (show dY T β _ _ from YR l cs o cB ao0) λj hj=>?_
         rcases LX m l o hj with h3 |h3
         ·exact hh.named (.b i) _ hb j h3
         ·exact jb hh hy j (yB hm h3)
       ·exact hp.elim
     ·rename_i i sz k j
      simp only [uZ,Q.run] at hp hK
      obtain⟨e,hj⟩:=hv
      cases hb:τ (.b i) with
      |none=>rw [hb] at hp;exact hp.elim
      |some av=>
       rw [hb] at hp hK
       simp only at hp hK
       split at hp
       ·rename_i ek l
        simp only at hK
        have hl:live τ i:=fg hb (by intro e;cases e)
        obtain⟨cs,te,lj,ft,z,hfl,hz⟩:=hh.boxes i _ hb (by intro e;cases e)
        cases hq:Nat.beq ek.length sz with
        |false=>rw [hq] at hp;exact hp.elim
        |true=>
         rw [hq] at hp hK
         have aqL:ek.length=sz:=by simpa using hq
         subst aqL
         simp only [cond_true] at hp hK
         have done:∀(r:EK.Ty ek),k<l.length->((j=0/\(a.eval y).cells.toList=EK.cells ek r)\/(∃v,(a.eval y).cells.toList=[v]/\j<ek.length/\EK.cells ek r=(EK.cells ek (nth ek l k)).set j v))->
           (∀a' w',Rel N c (τ.ap [(.b i,.rs ek (l.set k r))]) a' w'->K a' w')->Oper.wp P ⟨none,.store t x y,ty,pos,af,g⟩ a w K Q':=by
          intro r hk aoP hK
          have nu:=S6 hfl hk
          have hn:j+n<=ek.length:=by
           have hcl:(a.eval y).cells.toList.length=n:=by simpa using db
           rcases aoP with ⟨rfl,h⟩ |⟨v,h,HZ,_⟩
           ·rw [h,EK.bV] at hcl;omega
           ·rw [h] at hcl;simp at hcl;omega
          obtain⟨w',fK,hw⟩:=xe e lj (by omega) (O6 _)
          refine fin (u:=[]) fK (hK _ _ ⟨T,β,?_⟩)
          exact hh.IT hl lj hw (ph _ _ _) ⟨ft,z,RJ hfl hk r (by rw [show (a.eval y).cells.toList.length=n by simpa using db];omega) aoP,hz⟩ (by simp [AV.boxes])
         cases uM:Nat.beq n ek.length&&Nat.beq j 0 with
         |true=>
          rw [uM] at hp hK
          simp only [ZB1] at uM
          have hj0:j=0:=by simpa using uM.2
          simp only [cond_true] at hp hK
          split at hp
          ·rename_i r hr
           simp only [hr] at hK
           exact done r hp (.inl ⟨hj0,EK.zv ek hr cB⟩) λa' w' h=>hK _ _ _ rfl h
          ·exact hp.elim
         |false=>
          rw [uM] at hp hK
          simp only [cond_false] at hp hK
          split at hp
          ·rename_i s
           split at hp
           ·rename_i r hr
            simp only [hr] at hK
            obtain⟨v0,hv0⟩:∃v0,(a.eval y).cells.toList=[v0]:=by
             cases hcl:(a.eval y).cells.toList with
             |nil=>rw [hcl] at hml;simp at hml
             |cons v0 rest=>
              cases rest with
              |nil=>exact⟨v0,rfl⟩
              |cons _ _=>rw [hcl] at hml;simp at hml
            rw [hv0] at cB
            exact done r hp (.inr ⟨v0,hv0,ad1 ek hr,EK.L1 ek hr cB.1⟩) λa' w' h=>hK _ _ _ rfl h
           ·exact hp.elim
          ·exact hp.elim
       ·exact hp.elim
     ·rename_i ek j
      simp only at hK
      cases uM:Nat.beq n ek.length&&Nat.beq j 0 with
      |false=>rw [uM] at hp;exact hp.elim
      |true=>
       rw [uM] at hp hK
       simp only [ZB1] at uM
       have hj0:j=0:=by simpa using uM.2
       have hnk:n=ek.length:=by simpa using uM.1
       subst hj0
       simp only [cond_true] at hp hK
       split at hp
       ·rename_i r hr
        simp only [hr] at hK
        obtain⟨b,o,k,e,hT,ho,_⟩:=hv
        obtain⟨ft,cs,te,fr,l,lj,jV,nv⟩:=hh.typed b _ hT
        have hfl:cs.toList=flat ek (l++[]):=by simpa using nv.2.2
        have hk:o<l.length:=by rw [nv.1];exact ho
        have nu:=S6 hfl hk
        obtain⟨w',fK,hw⟩:=xe e lj (by omega) jV
        refine fin (u:=[]) fK (hK _ _ _ rfl ⟨T,β,?_⟩)
        have tJ:=RJ hfl hk r (j:=0) (vs:=(a.eval y).cells.toList) (by rw [show (a.eval y).cells.toList.length=n by simpa using db];omega) (.inl ⟨rfl,EK.zv ek hr cB⟩)
        refine hh.xt hT hw (by rw [ph];exact jV) (l:=l.set o r) ⟨by simp [nv.1],λq hq=>?_,by simpa using tJ⟩
        rcases List.mem_or_eq_of_mem_set hq with h |h
        ·exact nv.2.1 q h
        ·rw [h];exact hp
       ·exact hp.elim
     ·exact hp.elim
def zeroOf (P:Program) (t:TypeId):Option (List Value):=
 match P.info? t with
 |some i=>match i.zero with
  |some z=>some z.cells.toList
  |none=>none
 |none=>none
def ahB {zs:List Value}(h:zeroOf P t=some zs) (w:World):∃z,(zeroValue t).run P w= .ok z w/\z.cells.toList=zs:=by
 unfold zeroOf at h
 split at h
 ·rename_i i hi
  split at h
  ·rename_i z hz
   cases h
   exact⟨z,by simp [zeroValue,typeInfo,hi,hz],rfl⟩
  ·cases h
 ·cases h
def D5:List Value->List SV
 |[]=>[]
 |v::l=>.v v::D5 l
def NV {T:a8}{β:Nat->Nat}:∀l:List Value,dY T β (D5 l) l
 |[]=>trivial
 |v::l=>⟨rfl,NV l⟩
theorem B3:∀l:List Value,ct (D5 l)=[]
 |[]=>rfl
 |v::l=>by simp [D5,ct,SV.boxes,B3 l]
def adD (d:Nat) (l:List SV):Q Rs:=.ask (.b (1000+d)) fun
 |none=>.ret (.go [(.s d,.s (.bp (1000+d) 0)),(.b (1000+d),.a l)])
 |some _=>.ret .no
def al0 {zs:List Value}(hz:zeroOf P t=some zs) (hd:d<N):gl P N ⟨some d,.alloc t,ty,pos,af,g⟩ (adD d (D5 zs)):=by
 intro c τ a w hr hp K Q' hK
 obtain⟨T,β,hh⟩:=hr
 simp only [adD,Q.run] at hp hK
 cases hn:τ (.b (1000+d)) with
 |some v=>rw [hn] at hp;exact hp.elim
 |none=>
  rw [hn] at hp hK
  obtain⟨z,fK,hzs⟩:=ahB (P:=P) hz w
  unfold Oper.wp
  have hex:(execOp a.eval ⟨some d,.alloc t,ty,pos,af,g⟩).run P w= .ok (.value (.pointer (some ⟨w.heap.size,0,none⟩))) { w with heap:=w.heap.push (.cells z.cells t (0,0)) }:=by
   simp [execOp,Instr.alloc,fK,newVar,newRow]
  rw [hex]
  have h1:=hh.vX (d:=1000+d) (by omega) hn (av:=.a (D5 zs)) (cs:=z.cells) (e:=t) (w':= { w with heap:=w.heap.push (.cells z.cells t (0,0)) }) ⟨rfl,rfl,rfl,rfl⟩ (show dY _ _ _ _ by rw [hzs];exact NV _) (by simp [AV.boxes,A0.boxes,B3])
  exact hK _ _ _ rfl ⟨_,_,h1.put hd (av:=.s (.bp (1000+d) 0)) (by show _=_;unfold pV;rw [if_pos rfl]) (by simp [AV.boxes,A0.boxes,SV.boxes,wN])⟩
def anX (d:Nat) (v:AV):Q Rs:=
 match JH v with
 |none=>.ret .no
 |some l=>.ask (.b (1000+d)) fun
  |none=>.ret (bif nF l then .go [(.s d,.s (.bp (1000+d) 0)),(.b (1000+d),.a l)] else .no)
  |some _=>.ret .no
def apT (hd:d<N):gl P N ⟨some d,.box t x,ty,pos,af,g⟩ (cq x λv=>anX d v):=by
 intro c τ a w hr hp K Q' hK
 obtain⟨T,β,hh⟩:=hr
 rw [dJ] at hp hK
 cases hx:ev τ x with
 |none=>rw [hx] at hp;exact hp.elim
 |some v=>
  rw [hx] at hp hK
  simp only [anX] at hp hK
  cases hm:JH v with
  |none=>rw [hm] at hp;exact hp.elim
  |some l=>
   rw [hm] at hp hK
   simp only [Q.run] at hp hK
   cases hn:τ (.b (1000+d)) with
   |some v=>rw [hn] at hp;exact hp.elim
   |none=>
    rw [hn] at hp hK
    simp only [Q.run] at hp hK
    cases ho:nF l with
    |false=>rw [ho] at hp;exact hp.elim
    |true=>
     rw [ho] at hp hK
     obtain⟨cB,_⟩:=zQ hm ho (fA hh hx)
     unfold Oper.wp
     have hex:(execOp a.eval ⟨some d,.box t x,ty,pos,af,g⟩).run P w= .ok (.value (.pointer (some ⟨w.heap.size,0,none⟩))) { w with heap:=w.heap.push (.cells (a.eval x).cells t (0,0)) }:=by
      simp [execOp,Instr.box,newVar,newRow]
     rw [hex]
     have h1:=hh.vX (d:=1000+d) (by omega) hn (av:=.a l) (cs:=(a.eval x).cells) (e:=t) (w':= { w with heap:=w.heap.push (.cells (a.eval x).cells t (0,0)) }) ⟨rfl,rfl,rfl,rfl⟩ (show dY _ _ _ _ from cB) (λj hj=>jb hh hx j (yB hm hj))
     exact hK _ _ _ rfl ⟨_,_,h1.put hd (av:=.s (.bp (1000+d) 0)) (by show _=_;unfold pV;rw [if_pos rfl]) (by simp [AV.boxes,A0.boxes,SV.boxes,wN])⟩
end
end GL
namespace GL
section
variable {P:Program}{N:Nat}{τ:St}
variable {d:Nat}{x y z:Operand}{t u ty:TypeId}{pos:String}{af:Array Edge}{g:Option (Nat×Bool)}
def W8 (l:List (Nat×Operand)) (k:List (Nat×AV)->Q Rs):Q Rs:=
 match l with
 |[]=>k []
 |p::l=>cq p.2 λv=>W8 l λvs=>k ((p.1,v)::vs)
def evL (τ:St):List (Nat×Operand)->Option (List (Nat×AV))
 |[]=>some []
 |p::l=>match ev τ p.2 with
  |some v=>match evL τ l with
   |some vs=>some ((p.1,v)::vs)
   |none=>none
  |none=>none
theorem FC (τ:St):∀(l:List (Nat×Operand)) (k:List (Nat×AV)->Q Rs),(W8 l k).run τ=match evL τ l with
  |some v=>(k v).run τ
  |none=>.no
 |[],k=>rfl
 |p::l,k=>by
  simp only [W8,dJ,evL]
  cases ev τ p.2 with
  |none=>rfl
  |some v=>
   simp only [FC τ l]
   cases evL τ l<;>rfl
def agS (vs:List Value):∀(off k:Nat) (cs:Array Value),(vs.zipIdx k).foldl (λcs (p:Value×Nat)=>cs.setIfInBounds (off+p.2) p.1) cs=spl cs (off+k) vs:=by
 induction vs with
 |nil=>intro off k cs;rfl
 |cons v vs ih=>
  intro off k cs
  simp only [List.zipIdx_cons,List.foldl_cons,spl]
  rw [ih off (k+1)]
  rfl
def H8 {place:Nat->Option (Nat×Nat)}{i off size:Nat}{v:Value}{rest:List (Nat×Value)}{cs:Array Value}(hp:place i=some (off,size)) (hs:v.cells.size=size) (hle:off+size<=cs.size):
  Instr.fill place cs ((i,v)::rest)=Instr.fill place (spl cs off v.cells.toList) rest:=by
 have apg:v.cells.zipIdx.foldl (λcs (p:Value×Nat)=>cs.setIfInBounds (off+p.2) p.1) cs=spl cs off v.cells.toList:=by
  rw [<-Array.foldl_toList,Array.toList_zipIdx]
  exact agS _ _ 0 _
 have tV:¬(v.cells.size≠size\/off+v.cells.size>cs.size):=by omega
 simp only [Instr.fill,hp]
 rw [if_neg (by simpa using tV),apg]
def akA (P:Program) (t:TypeId):Option (List (Nat×Nat)×List Value):=
 match P.info? t,P.underlying t with
 |some it,some (.struct fs)=>match it.zero,fs.toList.mapM (λf=>(P.info? f.type).map λi=>(f.offset,i.size)) with
  |some z,some places=>some (places,z.cells.toList)
  |_,_=>none
 |_,_=>none
def aeN (places:List (Nat×Nat)) (l:List SV):List (Nat×AV)->Option (List SV)
 |[]=>some l
 |p::rest=>match places[p.1]?,JH p.2 with
  |some (off,size),some m=>bif (Nat.beq m.length size&&Nat.ble (off+size) l.length)&&nF m then aeN places (AZ l off m) rest else none
  |_,_=>none
def S9 {c:Ctx}{T:a8}{β:Nat->Nat}{a:Act}{w:World}(hh:Holds N c T β τ a w) {places:List (Nat×Nat)}:∀(parts:List (Nat×Operand)) (vs:List (Nat×AV)) (l l':List SV) (cs:Array Value),evL τ parts=some vs->aeN places l vs=some l'->dY T β l cs.toList->(∀i∈ct l,τ (.b i)≠none)->
  ∃mD,Instr.fill (places.toArray[·]?) cs (parts.map λp=>(p.1,a.eval p.2))=some mD/\dY T β l' mD.toList/\∀i∈ct l',τ (.b i)≠none
 |[],vs,l,l',cs,h1,h2,h3,h4=>by
  cases h1;cases h2
  exact⟨cs,rfl,h3,h4⟩
 |p::parts,vs,l,l',cs,h1,h2,h3,h4=>by
  simp only [evL] at h1
  split at h1
  ·rename_i v hv
   split at h1
   ·rename_i vs' hvs
    cases h1
    simp only [aeN] at h2
    split at h2
    ·rename_i off size m tU hm
     cases hc:(Nat.beq m.length size&&Nat.ble (off+size) l.length)&&nF m with
     |false=>rw [hc] at h2;cases h2
     |true=>
      rw [hc] at h2
      simp only [ZB1] at hc
      have hms:m.length=size:=by simpa using hc.1.1
      have hle:=zqNlb hc.1.2
      obtain⟨cB,_⟩:=zQ hm hc.2 (fA hh hv)
      have hml:=lx cB
      have hll:=lx h3
      have db:(a.eval p.2).cells.size=size:=by rw [<-hms,hml];simp
      obtain⟨mD,g1,g2,g3⟩:=S9 hh parts vs' (AZ l off m) l' (spl cs off (a.eval p.2).cells.toList) hvs h2 (YR l cs off cB h3) (λi hi=>by
       rcases LX m l off hi with h |h
       ·exact h4 i h
       ·exact jb hh hv i (yB hm h))
      refine⟨mD,?_,g2,g3⟩
      have aqT:places.toArray[p.1]?=some (off,size):=by simpa using tU
      rw [ZF1,H8 (place:=(places.toArray[·]?)) aqT db (by simp at hll;omega)]
      exact g1
    ·cases h2
   ·cases h1
  ·cases h1
def adx (places:List (Nat×Nat)) (zs:List Value) (vs:List (Nat×AV)):V1:=
 match aeN places (D5 zs) vs with
 |some l=>.go (.a l)
 |none=>.no
def alZ {places:List (Nat×Nat)}{zs:List Value}{parts:Array (Nat×Operand)}(hb:akA P t=some (places,zs)) (hd:d<N):gl P N ⟨some d,.build t parts,ty,pos,af,g⟩ (W8 parts.toList λvs=>.ret ((adx places zs vs).rs d)):=by
 intro c τ a w hr hp K Q' hK
 obtain⟨T,β,hh⟩:=hr
 rw [FC] at hp hK
 cases hx:evL τ parts.toList with
 |none=>rw [hx] at hp;exact hp.elim
 |some vs=>
  rw [hx] at hp hK
  refine V1.put hh hd hp rfl (λr hr=>?_) hK
  unfold adx at hr
  split at hr
  ·rename_i l hl
   cases hr
   unfold akA at hb
   split at hb
   ·rename_i it fs hi hu
    split at hb
    ·rename_i z pl hz tU
     cases hb
     obtain⟨mD,h1,h2,h3⟩:=S9 hh parts.toList vs _ l z.cells hx hl (by rw [show z.cells.toList=z.cells.toList from rfl];exact NV _) (by rw [B3];simp)
     refine⟨h3,.agg mD,?_,mD,ζ,h2⟩
     have anL:P.built t (parts.map λp=>(p.1,a.eval p.2)).toList=some mD:=by
      unfold Program.built
      rw [hi,hu]
      simp only [hz,tU]
      simpa using h1
     have:=run_build (P:=P) w t _ mD anL
     simp [execOp,this]
    ·cases hb
   ·cases hb
  ·exact hr.elim
def yJ (P:Program) (t:TypeId):Option (Nat×Nat×List Value):=
 match P.underlying t with
 |some (.slice e)=>match P.info? e with
  |some i=>match i.zero with
   |some z=>some (i.size,i.bytes,z.cells.toList)
   |none=>none
  |none=>none
 |_=>none
def kR {sz jX:Nat}{zs:List Value}(h:yJ P t=some (sz,jX,zs)):∃e i z,P.underlying t=some (.slice e)/\P.info? e=some i/\i.zero=some z/\i.size=sz/\i.bytes=jX/\z.cells.toList=zs:=by
 unfold yJ at h
 split at h
 ·rename_i e he
  split at h
  ·rename_i i hi
   split at h
   ·rename_i z hz
    cases h
    exact⟨e,i,z,he,hi,hz,rfl,rfl,rfl⟩
   ·cases h
  ·cases h
 ·cases h
structure Fits (P:Program) (t:TypeId) (ek:EK) (jX:Nat):Prop where
 info:yJ P t=some (ek.length,jX,EK.cells ek (EK.zero ek))
 ne:ek≠[]
 small:jX<=1048576
def CP.vd (c:CP):c.ok c.zero:=by
 cases c<;>simp [CP.ok,CP.zero]
def EK.vd:∀ek:List CP,EK.ok ek (EK.zero ek)
 |[]=>trivial
 |[c]=>c.vd
 |c::d::l=>⟨c.vd,EK.vd (d::l)⟩
def Fits.sh {ek:EK}{jX:Nat}(h:Fits P t ek jX):tL P t=some ek.length:=by
 obtain⟨e,i,z,h1,h2,h3,h4,_⟩:=kR h.info
 simp [tL,h1,h2,h4]
def R8 {ek:EK}(ft:ek≠[]) {z:Array Value}(hz:z.toList=EK.cells ek (EK.zero ek)):∀n:Nat,((Array.range (n*ek.length)).map (λi=>z[i % z.size]!)).toList=flat ek (List.replicate n (EK.zero ek)):=by
 intro n
 have oC:0<ek.length:=ZI1.2 ft
 have hzs:z.size=ek.length:=by rw [<-ZD6,hz,EK.bV]
 apply List.ext_getElem?
 intro i
 by_cases hi:i<n*ek.length
 ·have hk:i / ek.length<n:=Nat.div_lt_of_lt_mul (by rwa [Nat.mul_comm])
  have hj:i % ek.length<ek.length:=Nat.mod_lt _ oC
  have h1:=aaR ek (List.replicate n (EK.zero ek)) (i / ek.length) (i % ek.length) (EK.zero ek) (by simp [hk]) hj
  have H0:i / ek.length*ek.length+i % ek.length=i:=by rw [Nat.mul_comm];exact Nat.div_add_mod i ek.length
  rw [H0] at h1
  rw [h1,<-hz]
  have h2:z.toList[i % ek.length]?=some z[i % ek.length]!:=by
   simp [Array.getElem!_eq_getD,ZF7,hzs,hj]
  rw [h2]
  simp [hi,hzs]
 ·rw [ZE1 (by simp;omega),ZE1 (by rw [cR];simp;omega)]
def agp (ex:Bool) (d:Nat) (ek:EK) (l:List (EK.Ty ek)) (p:Prop) (pt:Prop):Q Rs:=
 match ex with
 |true=>.ask (.b (1000+d)) fun
  |none=>.ret (.oJ p [(.s d,.s (.xs (1000+d) ek.length 0 l.length)),(.b (1000+d),.rs ek l)])
  |some _=>.ret .no
 |false=>.ret (.oJ (p/\pt) [(.s d,.s (.sl ek l.length))])
def NQ {c:Ctx}{T:a8}{β:Nat->Nat}{a:Act}{w w':World}(hh:Holds N c T β τ a w) (hd:d<N) {ex:Bool}{ek:EK}(ft:ek≠[]) {l z:List (EK.Ty ek)}{p pt:Prop}(hp:((agp ex d ek l p pt).run τ).pre) (hpt:pt->∀x∈l,EK.ok ek x) (hz:∀x∈z,EK.ok ek x)
  {cs:Array Value} {e:TypeId} (lj:cs.toList=flat ek (l++z)) (hpu:qk w (.cells cs e (0,0)) w') {o:Oper} (ho:o.dst=some d) {cap:Nat} (xg:cap=l.length+z.length) (hex:p->(execOp a.eval o).run P w= .ok (.value (.slice (some ⟨w.heap.size,0,none⟩) l.length cap)) w')
  {K:Act->World->Prop} {Q':Exit->Act->World->Prop} (hK:∀u a' w',((agp ex d ek l p pt).run τ).out u->Rel N c (τ.ap u) a' w'->K a' w'):o.wp P a w K Q':=by
 have db:cs.size=cap*ek.length:=by rw [<-ZD6,lj,cR,xg,ZA0]
 cases ex with
 |true=>
  simp only [agp,Q.run] at hp hK
  cases hn:τ (.b (1000+d)) with
  |some v=>rw [hn] at hp;exact hp.elim
  |none=>
   rw [hn] at hp hK
   have hp':p:=hp
   unfold Oper.wp
   rw [hex hp']
   show K (a.put o.dst _) w'
   rw [ho]
   have h1:=hh.vX (d:=1000+d) (by omega) hn (av:=.rs ek l) (cs:=cs) (e:=e) hpu ⟨ft,z,lj,hz⟩ (by simp [AV.boxes])
   refine hK _ _ _ rfl ⟨_,_,h1.put hd (av:=.s (.xs (1000+d) ek.length 0 l.length)) (.inr ⟨cap,cs.size,?_,by omega,?_,by rw [ZA6,db];exact ZB0 _⟩) (by simp [AV.boxes,A0.boxes,SV.boxes,wN])⟩
   ·show _=Value.slice (some ⟨pV β (1000+d) w.heap.size (1000+d),0*ek.length,none⟩) _ _
    unfold pV;rw [if_pos rfl,ZH6]
   ·unfold pV qW;rw [if_pos rfl,if_pos rfl]
 |false=>
  simp only [agp,Q.run] at hp hK
  obtain⟨hp1,hp2⟩:p/\pt:=hp
  unfold Oper.wp
  rw [hex hp1]
  show K (a.put o.dst _) w'
  rw [ho]
  have qw:∀x∈l++z,EK.ok ek x:=λx hx=>by
   rcases ZB5.1 hx with h |h
   ·exact hpt hp2 x h
   ·exact hz x h
  have h1:=hh.HK (k:=.ty ek cap) hpu ⟨ft,cs,e,(0,0),l++z,hpu.new,O6 _,by simp [xg],qw,lj⟩
  refine hK _ _ _ rfl ⟨_,_,h1.put hd (av:=.s (.sl ek l.length)) (.inr ⟨w.heap.size,0,cap,cap,by rw [ZH6],by omega,by unfold qW;rw [if_pos rfl],by omega⟩) (by simp [AV.boxes,A0.boxes,SV.boxes])⟩
def aiJ (ex:Bool) (d:Nat) (ek:EK) (v u:AV):Q Rs:=
 match v,u with
 |.o (.s (.v (.int .i64 m))),.o (.s (.v (.int .i64 n)))=>agp ex d ek (List.replicate n.toNat (EK.zero ek)) (m=n/\0<=n/\n<=1048576) True
 |_,_=>.ret .no
def an4 {ex:Bool}{ek:EK}{jX:Nat}(hf:Fits P t ek jX) (hd:d<N):gl P N ⟨some d,.makeSlice t x y,ty,pos,af,g⟩ (cq x λv=>cq y λu=>aiJ ex d ek v u):=by
 intro c τ a w hr hp K Q' hK
 obtain⟨T,β,hh⟩:=hr
 rw [dJ] at hp hK
 cases hx:ev τ x with
 |none=>rw [hx] at hp;exact hp.elim
 |some v=>
  rw [hx] at hp hK
  simp only [dJ] at hp hK
  cases hy:ev τ y with
  |none=>rw [hy] at hp;exact hp.elim
  |some u=>
   rw [hy] at hp hK
   simp only at hp hK
   unfold aiJ at hp hK
   split at hp
   ·rename_i m n
    simp only at hK
    obtain⟨e,i,z,ht,hi,hz,db,hby,hzs⟩:=kR hf.info
    have e1:a.eval x= .int .i64 m:=fA hh hx
    have e2:a.eval y= .int .i64 n:=fA hh hy
    let cs:Array Value:=(Array.range (n.toNat*ek.length)).map (λk=>z.cells[k % z.cells.size]!)
    have lj:cs.toList=flat ek (List.replicate n.toNat (EK.zero ek)++[]):=by
     rw [ZD4];exact R8 hf.ne hzs n.toNat
    refine NQ hh hd hf.ne (z:=[]) hp (λ_ x hx=>by rw [List.eq_of_mem_replicate hx];exact EK.vd ek) (by simp) lj (e:=e) (w':= { w with heap:=w.heap.push (.cells cs e (0,0)) }) ⟨rfl,rfl,rfl,rfl⟩ rfl (cap:=n.toNat) (by simp) ?_ hK
    rintro⟨rfl,h0,h1⟩
    have hb:(i.bytes:Int)*m<=281474976710656:=by
     have hs:=hf.small
     rw [hby]
     have h2:(jX:Int)*m<=1048576*1048576:=Int.mul_le_mul (by omega) h1 h0 (by omega)
     omega
    have AG:¬(m<0):=by omega
    have hw:=qo (n:=m) (by simp only [gz];omega) (by simp only [imax];omega)
    have J6:¬(281474976710656<(i.bytes:Int)*m):=by omega
    rw [ZF9]
    by_cases HY:m.toNat*i.size=0
    ·have aaJ:cs=(Array.range (m.toNat*i.size)).map (λk=>(#[]:Array Value)[k % (#[]:Array Value).size]!):=by
      have:m.toNat*ek.length=0:=by rw [<-db];exact HY
      simp [cs,this,HY]
     rw [aaJ]
     simp [execOp,e1,e2,Instr.makeSlice,run_underlying ht,asInt,asIntOf,typeInfo,hi,hw,AG,J6,sizeOf,HY,newRow]
    ·have aaJ:cs=(Array.range (m.toNat*i.size)).map (λk=>z.cells[k % z.cells.size]!):=by simp only [cs,db]
     rw [aaJ]
     simp [execOp,e1,e2,Instr.makeSlice,run_underlying ht,asInt,asIntOf,typeInfo,hi,hw,AG,J6,sizeOf,HY,newRow,zeroValue,hz]
   ·exact hp.elim
def GQ (ek:EK):Nat->List (Nat×AV)->Option (List (EK.Ty ek))
 |_,[]=>some []
 |j,p::l=>match JH p.2 with
  |some m=>bif Nat.beq p.1 j&&nF m then (match EK.ofS ek m,GQ ek (j+1) l with
   |some r,some rs=>some (r::rs)
   |_,_=>none) else none
  |none=>none
def ZX (ek:EK):List (EK.Ty ek)->Prop
 |[]=>True
 |x::l=>EK.ok ek x/\ZX ek l
def HF {ek:EK}:∀{l:List (EK.Ty ek)},ZX ek l->∀x∈l,EK.ok ek x
 |[],_,x,h=>by cases h
 |y::l,h,x,hx=>by
  rcases ZB7.1 hx with rfl |hx
  ·exact h.1
  ·exact HF h.2 x hx
def MN {ek:EK}:∀{l:List (Nat×AV)}{j:Nat}{rs:List (EK.Ty ek)},GQ ek j l=some rs->rs.length=l.length
 |[],_,rs,h=>by cases h;rfl
 |p::l,j,rs,h=>by
  simp only [GQ] at h
  split at h
  ·rename_i m _
   cases hc:Nat.beq p.1 j&&nF m with
   |false=>rw [hc] at h;cases h
   |true=>
    rw [hc] at h
    simp only [cond_true] at h
    split at h
    ·rename_i r rs' _ h2
     cases h
     simp [MN h2]
    ·cases h
  ·cases h
def MM {c:Ctx}{T:a8}{β:Nat->Nat}{a:Act}{w:World}(hh:Holds N c T β τ a w) {ek:EK}:∀(parts:List (Nat×Operand)) (vs:List (Nat×AV)) (j:Nat) (rs:List (EK.Ty ek)) (cs:Array Value),evL τ parts=some vs->GQ ek j vs=some rs->(j+parts.length)*ek.length<=cs.size->
  ∃mD,Instr.fill (λi=>some (i*ek.length,ek.length)) cs (parts.map λp=>(p.1,a.eval p.2))=some mD/\mD.toList=cs.toList.take (j*ek.length)++flat ek rs++cs.toList.drop ((j+parts.length)*ek.length)
 |[],vs,j,rs,cs,h1,h2,h3=>by
  cases h1;cases h2
  exact⟨cs,rfl,by simp [ajM]⟩
 |p::parts,vs,j,rs,cs,h1,h2,h3=>by
  simp only [evL] at h1
  split at h1
  ·rename_i v hv
   split at h1
   ·rename_i vs' hvs
    cases h1
    simp only [GQ] at h2
    split at h2
    ·rename_i m hm
     cases hc:Nat.beq p.1 j&&nF m with
     |false=>rw [hc] at h2;cases h2
     |true=>
      rw [hc] at h2
      simp only [cond_true] at h2
      split at h2
      ·rename_i r rs' hr hrs
       cases h2
       simp only [ZB1] at hc
       have hj:p.1=j:=by simpa using hc.1
       obtain⟨cB,_⟩:=zQ hm hc.2 (fA hh hv)
       have O3:=EK.zv ek hr cB
       have db:(a.eval p.2).cells.size=ek.length:=by rw [<-ZD6,O3,EK.bV]
       simp only [ZA1] at h3
       have nu:j*ek.length+ek.length<=cs.size:=by
        have:(j+1)*ek.length<=(j+(parts.length+1))*ek.length:=ZG9 _ (by omega)
        rw [ZF0,Nat.one_mul] at this;omega
       obtain⟨mD,g1,g2⟩:=MM hh parts vs' (j+1) rs' (spl cs (j*ek.length) (a.eval p.2).cells.toList) hvs hrs (by
        have e:j+1+parts.length=j+(parts.length+1):=by omega
        rw [ph,e];exact h3)
       refine⟨mD,?_,?_⟩
       ·rw [ZF1,hj,H8 (place:=λi=>some (i*ek.length,ek.length)) rfl db nu]
        exact g1
       ·rw [g2,n0 _ _ _ (by rw [O3,EK.bV];exact nu),O3,im,EK.bV]
        have hl1:(cs.toList.take (j*ek.length)).length=j*ek.length:=by simp;omega
        have e1:(j+1)*ek.length=(cs.toList.take (j*ek.length)++EK.cells ek r).length:=by
         rw [ZA0,hl1,EK.bV,ZF0,Nat.one_mul]
        have e2:(j+1+parts.length)*ek.length=(cs.toList.take (j*ek.length)++EK.cells ek r).length+parts.length*ek.length:=by
         rw [<-e1,<-ZF0]
        rw [e2,e1,List.take_left',ZG2,ZH0]
        ·have e3:j*ek.length+ek.length+parts.length*ek.length=(j+(parts.length+1))*ek.length:=by
          rw [ZF0 j,ZF0,Nat.one_mul];omega
         rw [e3]
         simp [ZC5]
        ·rfl
      ·cases h2
    ·cases h2
   ·cases h1
  ·cases h1
def W5 (ex:Bool) (d k:Nat) (ek:EK) (vs:List (Nat×AV)):Q Rs:=
 match GQ ek 0 vs with
 |some l=>bif Nat.beq l.length k&&Nat.ble (k*ek.length) 16777216 then agp ex d ek l True (ZX ek l) else .ret .no
 |none=>.ret .no
def akF {ex:Bool}{ek:EK}{jX k:Nat}{parts:Array (Nat×Operand)}(hf:Fits P t ek jX) (hd:d<N):gl P N ⟨some d,.buildSlice t k parts,ty,pos,af,g⟩ (W8 parts.toList λvs=>W5 ex d k ek vs):=by
 intro c τ a w hr hp K Q' hK
 obtain⟨T,β,hh⟩:=hr
 rw [FC] at hp hK
 cases hx:evL τ parts.toList with
 |none=>rw [hx] at hp;exact hp.elim
 |some vs=>
  rw [hx] at hp hK
  simp only at hp hK
  unfold W5 at hp hK
  split at hp
  ·rename_i l hl
   simp only [hl] at hK
   cases hc:Nat.beq l.length k&&Nat.ble (k*ek.length) 16777216 with
   |false=>rw [hc] at hp;exact hp.elim
   |true=>
    rw [hc] at hp hK
    simp only [cond_true] at hp hK
    simp only [ZB1] at hc
    have hk:l.length=k:=by simpa using hc.1
    have hle:=zqNlb hc.2
    obtain⟨e,i,z,ht,hi,hz,db,hby,hzs⟩:=kR hf.info
    let cs0:Array Value:=if k*i.size=0 then (Array.range (k*i.size)).map (λk=>(#[]:Array Value)[k % (#[]:Array Value).size]!) else (Array.range (k*i.size)).map (λk=>z.cells[k % z.cells.size]!)
    have aaJ:cs0.size=k*ek.length:=by simp only [cs0];split<;>simp [db]
    have tU:parts.toList.length=k:=by
     rw [<-hk,MN hl]
     have:∀(ps:List (Nat×Operand)) (vs:List (Nat×AV)),evL τ ps=some vs->ps.length=vs.length:=by
      intro ps
      induction ps with
      |nil=>intro vs h;cases h;rfl
      |cons p ps ih=>
       intro vs h
       simp only [evL] at h
       split at h
       ·split at h
        ·rename_i vs' h';cases h;simp [ih _ h']
        ·cases h
       ·cases h
     exact this _ _ hx
    obtain⟨mD,ajw,anJ⟩:=MM hh parts.toList vs 0 l cs0 hx hl (by rw [tU,aaJ,ZA6];exact ZB0 _)
    have lj:mD.toList=flat ek (l++[]):=by
     rw [anJ,tU,ZH6,ZA6,List.take_zero,ZC9,List.drop_of_length_le (by simp [aaJ]),ZD4,ZD4]
    refine NQ hh hd hf.ne (z:=[]) hp (λh=>HF h) (by simp) lj (e:=e) (w':= { w with heap:=w.heap.push (.cells mD e (0,0)) }) ⟨rfl,rfl,rfl,rfl⟩ rfl (cap:=k) (by simp [hk]) (λ_=>?_) hK
    have h24:¬(16777216<k*i.size):=by rw [db];omega
    have wm:Instr.fill (λx=>some (x*i.size,i.size)) cs0 (parts.toList.map λp=>(p.1,a.eval p.2))=some mD:=by rw [db];exact ajw
    rw [hk]
    by_cases HY:k*i.size=0
    ·simp only [cs0,if_pos HY] at wm
     simp [execOp,Instr.buildSlice,run_underlying ht,sizeOf,typeInfo,hi,h24,HY,newRow]
     rw [HY] at wm
     simp at wm
     simp [wm]
    ·simp only [cs0,if_neg HY] at wm
     simp [execOp,Instr.buildSlice,run_underlying ht,sizeOf,typeInfo,hi,h24,HY,newRow,zeroValue,hz]
     simp [wm]
  ·exact hp.elim
