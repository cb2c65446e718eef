/- FnTreeOk returns true for every code (its row lists package variables, tied by the card): part 21 of 39. -/
import Derived.Test.YtbfgjadbfjkcdaaGreatDoorPap
import Derived.Test.YtbfgjadbfjkcdaaGreatDoorPat
set_option maxHeartbeats 20000000
set_option linter.all false
namespace Go.Proofs.YtbfgjadbfjkcdaaGreatDoor
namespace GL
theorem yF:∀ {l m:List ByteArray},l.map lb=m.map lb→l=m
 |[],[],_=>rfl
 |[],_::_,h=>by cases h
 |_::_,[],h=>by cases h
 |x::l,y::m,h=>by
  simp only [List.map_cons,List.cons.injEq] at h
  rw [vy h.1,yF h.2]
theorem aaB {s:ByteArray} {l:List ByteArray} (c:UInt8) (h:mj c (lb s)=l.map lb):bf s c.toNat=l:=
 yF ((JQ s c).trans h)
theorem pb {n:Int} {c:UInt8} (hc:¬(48≤c.toNat∧c.toNat≤57)):c∉lb (bQ n):=ae9 hc
theorem NF (n:Int):∃b l,lb (bQ n)=b::l∧48≤b.toNat∧b.toNat≤57:=by
 obtain ⟨b,l,e,_⟩:=xf n.toNat
 exact ⟨b,l,e,tT n.toNat b (by rw [e];simp)⟩
theorem wL {p:Pt} (h:aV p=true) (h2:ar p=false):lb (aY p)=lb (bQ p.1)++46::(lb (bQ p.2.1)++46::(lb (bQ p.2.2.1)++46::(lb (bQ p.2.2.2.1)++46::lb (bQ p.2.2.2.2)))):=by
 unfold aY
 rw [h,h2]
 simp only [cond_true,cond_false,wM]
 simp only [List.append_assoc]
 rfl
theorem qL {p:Pt} (h2:ar p=true):aY p=⟨#[45]⟩:=by
 have h:aV p=true:=by unfold aV;rw [h2];rfl
 unfold aY;rw [h,h2];rfl
theorem ic {p:Pt} (h:ar p=true):p=bL:=by
 unfold ar at h
 simp only [Bool.and_eq_true,decide_eq_true_eq] at h
 obtain ⟨a,b,c,d,e⟩:=p
 obtain ⟨h1,h2,h3,h4,h5⟩:=h
 simp only at h1 h2 h3 h4 h5
 subst h1 h2 h3 h4 h5;rfl
theorem RU {p:Pt} {c:UInt8} (h:aV p=true) (hc:¬(48≤c.toNat∧c.toNat≤57)) (h1:c≠46) (h2:c≠45):c∉lb (aY p):=by
 cases hh:ar p with
 |true=>rw [qL hh];show c∉[45];simp [h2]
 |false=>
  rw [wL h hh]
  simp only [List.mem_append,List.mem_cons,not_or]
  exact ⟨pb hc,h1,pb hc,h1,pb hc,h1,pb hc,h1,pb hc⟩
theorem nK {p:Pt} (h:aV p=true):bJ (aY p)=(p,true):=by
 cases hh:ar p with
 |true=>rw [qL hh,wE (by decide),ic hh]
 |false=>
  have hl:=wL h hh
  obtain ⟨b,l,e,hb1,hb2⟩:=NF p.1
  have fq:¬aY p=⟨#[45]⟩:=fun heq=>by
   rw [heq,e] at hl
   have:(45:UInt8)=b:=by
    have h1:=congrArg List.head? hl
    rw [show lb ⟨#[45]⟩=[45] from rfl,List.cons_append] at h1
    exact Option.some.inj h1
   rw [←this] at hb1;exact absurd hb1 (by decide)
  have h46:∀n:Int,(46:UInt8)∉lb (bQ n):=fun n=>pb (by decide)
  have TZ:bf (aY p) 46=[bQ p.1,bQ p.2.1,bQ p.2.2.1,bQ p.2.2.2.1,bQ p.2.2.2.2]:=by
   refine aaB 46 ?_
   rw [hl,lB,lB,lB,lB,fX _ _ (h46 _),fX _ _ (h46 _),fX _ _ (h46 _),fX _ _ (h46 _),fX _ _ (h46 _)]
   rfl
  have hbd:=pJ h
  rw [r3 (decide_eq_false fq) (by rw [TZ];rfl),TZ]
  have e1:=eg (n:=p.1) (by omega) (by omega)
  have e2:=eg (n:=p.2.1) (by omega) (by omega)
  have e3:=eg (n:=p.2.2.1) (by omega) (by omega)
  have e4:=eg (n:=p.2.2.2.1) (by omega) (by omega)
  have e5:=eg (n:=p.2.2.2.2) (by omega) (by omega)
  have hn:lg [bQ p.1,bQ p.2.1,bQ p.2.2.1,bQ p.2.2.2.1,bQ p.2.2.2.2] []=some [p.1,p.2.1,p.2.2.1,p.2.2.2.1,p.2.2.2.2]:=by
   simp [lg,e1,e2,e3,e4,e5]
  rw [BT hn]
  exact G7 (n:=[p.1,p.2.1,p.2.2.1,p.2.2.2.1,p.2.2.2.2]) (by show (!(aV p))=false;rw [h];rfl) hh
theorem l8 {l:List Pt} (h:(bz l).2=true):∃a b c d,l=[a,b,c,d]∧aV a=true∧aV b=true∧aV c=true∧aV d=true∧(false|| !(ar a)|| !(ar b)|| !(ar c)|| !(ar d))=true∧lb (bz l).1=lb (aY a)++44::(lb (aY b)++44::(lb (aY c)++44::lb (aY d))):=by
 cases h4:decide ((l.length:Int)≠4) with
 |true=>rw [wZ h4] at h;cases h
 |false=>
  have hl:l.length=4:=by have:=ca h4;omega
  rw [wY h4] at h ⊢
  match l,hl with
  |[a,b,c,d],_=>
   refine ⟨a,b,c,d,rfl,?_⟩
   cases ha:aV a with
   |false=>rw [o8 (by simp [gR,ha])] at h;cases h
   |true=>cases hb:aV b with
    |false=>rw [o8 (by simp [gR,ha,hb])] at h;cases h
    |true=>cases hc:aV c with
     |false=>rw [o8 (by simp [gR,ha,hb,hc])] at h;cases h
     |true=>cases hd:aV d with
      |false=>rw [o8 (by simp [gR,ha,hb,hc,hd])] at h;cases h
      |true=>
       have e:gR [a,b,c,d] 0 ⟨#[]⟩ false=some ((⟨#[]⟩++aY a)++⟨#[44]⟩++aY b++⟨#[44]⟩++aY c++⟨#[44]⟩++aY d,(false|| !(ar a)|| !(ar b)|| !(ar c)|| !(ar d))):=by
        simp [gR,ha,hb,hc,hd]
       rw [sB e] at h ⊢
       cases hs: !(false|| !(ar a)|| !(ar b)|| !(ar c)|| !(ar d)) with
       |true=>rw [C1 hs] at h;cases h
       |false=>
        rw [w0 hs]
        refine ⟨rfl,rfl,rfl,rfl,oD hs,?_⟩
        simp only [wM,adQ,List.nil_append,List.append_assoc]
        rfl
theorem D9 {l:List Pt} (h:(bz l).2=true):bd (bz l).1=(l,true):=by
 obtain ⟨a,b,c,d,rfl,ha,hb,hc,hd,hs,hl⟩:=l8 h
 have h44:∀p:Pt,aV p=true→(44:UInt8)∉lb (aY p):=fun p hp=>RU hp (by decide) (by decide) (by decide)
 have TZ:bf (bz [a,b,c,d]).1 44=[aY a,aY b,aY c,aY d]:=by
  refine aaB 44 ?_
  rw [hl,lB,lB,lB,fX _ _ (h44 a ha),fX _ _ (h44 b hb),fX _ _ (h44 c hc),fX _ _ (h44 d hd)]
  rfl
 have e:oh (bf (bz [a,b,c,d]).1 44) [] false=some ([a,b,c,d],false|| !(ar a)|| !(ar b)|| !(ar c)|| !(ar d)):=by
  rw [TZ]
  simp [oh,nK ha,nK hb,nK hc,nK hd]
 rw [jP e]
 exact vN rfl (by rw [hs];rfl)
theorem vL {l:List Pt} (h4:l.length=4) (cq:∀p∈l,aV p=true) (hn:(!(l.any fun p=> !(ar p)))=false):(bz l).2=true:=by
 match l,h4 with
 |[a,b,c,d],_=>
  have ha:=cq a (by simp);have hb:=cq b (by simp);have hc:=cq c (by simp);have hd:=cq d (by simp)
  have e:gR [a,b,c,d] 0 ⟨#[]⟩ false=some ((⟨#[]⟩++aY a)++⟨#[44]⟩++aY b++⟨#[44]⟩++aY c++⟨#[44]⟩++aY d,(false|| !(ar a)|| !(ar b)|| !(ar c)|| !(ar d))):=by
   simp [gR,ha,hb,hc,hd]
  rw [wY rfl,sB e,w0]
  simp only [List.any_cons,List.any_nil,Bool.not_eq_false'] at hn
  rw [Bool.or_false] at hn
  simp only [Bool.false_or,Bool.or_assoc];rw [hn];rfl
def C4:List ByteArray→List UInt8
 |[]=>[]
 |x::l=>lb (bQ x.size)++58::(lb x++C4 l)
theorem D6:∀ {l:List ByteArray} {out:ByteArray},(dw l out).2=true→lb (dw l out).1=lb out++C4 l∧(∀x∈l,x.size≤2048)∧((dw l out).1.size≤2048∨l=[])
 |[],out,_=>⟨by simp [dw,C4],by simp, .inr rfl⟩
 |x::l,out,h=>by
  unfold dw at h ⊢
  cases h1:decide ((x.size:Int) > 2048) with
  |true=>rw [h1] at h;cases h
  |false=>
   rw [h1] at h
   simp only [cond_false] at h ⊢
   cases h2:decide (((out++bQ x.size++⟨#[58]⟩++x).size:Int) > 2048) with
   |true=>rw [h2] at h;cases h
   |false=>
    rw [h2] at h
    simp only [cond_false] at h ⊢
    obtain ⟨e1,e2,e3⟩:=D6 h
    refine ⟨?_,?_, .inl ?_⟩
    ·rw [e1]
     simp only [wM,C4,List.append_assoc]
     rfl
    ·intro y hy
     rcases List.mem_cons.1 hy with rfl |hy
     ·have:=ca h1;omega
     ·exact e2 y hy
    ·rcases e3 with e3 |rfl
     ·exact e3
     ·have:=ca h2
      show (dw [] _).1.size≤2048
      simp only [dw];omega
theorem D5:∀ {l:List ByteArray} {out:ByteArray},out.size+(l.map fun x=>x.size+13).sum≤2048→(dw l out).2=true
 |[],_,_=>rfl
 |x::l,out,h=>by
  simp only [List.map_cons,List.sum_cons] at h
  have hd:=cZ (n:=(x.size:Int)) (by omega)
  have db:(out++bQ x.size++⟨#[58]⟩++x).size=out.size+(bQ x.size).size+1+x.size:=by
   simp only [ByteArray.size_append];rfl
  unfold dw
  rw [decide_eq_false (by omega),cond_false,decide_eq_false (by rw [db];omega),cond_false]
  exact D5 (by rw [db];omega)
theorem af3 {s:ByteArray} {x:ByteArray} {tail:List UInt8} (hx:x.size≤2048) (hs:lb s=lb (bQ x.size)++58::tail):CI s=((x.size:Int),((lb (bQ x.size)).length:Int)):=by
 have:=Z1 (s:=s) (n:=x.size) (rest:=58::tail) (by omega) hs (fun b hb=>by
  simp only [List.head?_cons,Option.some.injEq] at hb
  rw [←hb];decide)
 exact this
theorem aai {s:ByteArray}:∀ {l:List ByteArray} {f:Nat} {pre:List UInt8} {out:List ByteArray},lb s=pre++C4 l→(∀x∈l,x.size≤2048)→l.length < f→JA f s pre.length out=some (out++l)
 |[],f,pre,out,hs,_,hf=>by
  obtain ⟨g,rfl⟩:∃g,f=g+1:=⟨f - 1,by simp at hf;omega⟩
  have db:s.size=pre.length:=by rw [ff,hs];simp [C4]
  rw [aeM (decide_eq_false (by rw [db];omega)),List.append_nil]
 |x::l,f,pre,out,hs,hx,hf=>by
  obtain ⟨g,rfl⟩:∃g,f=g+1:=⟨f - 1,by simp at hf;omega⟩
  have hx1:=hx x (by simp)
  have hs2:lb s=pre++(lb (bQ x.size)++58::(lb x++C4 l)):=hs
  have db:s.size=pre.length+((lb (bQ x.size)).length+(1+(x.size+(C4 l).length))):=by
   rw [ff,hs2];simp only [List.length_append,List.length_cons,←ff];omega
  obtain ⟨b0,l0,e0,_⟩:=NF (x.size:Int)
  have hd1:1≤(lb (bQ x.size)).length:=by rw [e0];simp
  have hex:lb (s.extract (pre.length:Int).toNat s.size)=lb (bQ x.size)++58::(lb x++C4 l):=by
   rw [mS,ff,List.take_of_length_le (Nat.le_refl _),hs2,Int.toNat_natCast,List.drop_left]
  have hr:tO s (pre.length:Int)=((x.size:Int),((lb (bQ x.size)).length:Int)):=af3 hx1 hex
  have xE:bG s ((pre.length:Int)+((lb (bQ x.size)).length:Int)).toNat=58:=by
   rw [ni,hs2,show ((pre.length:Int)+((lb (bQ x.size)).length:Int)).toNat=pre.length+(lb (bQ x.size)).length by omega]
   rw [List.getElem?_append_right (by omega),Nat.add_sub_cancel_left,List.getElem?_append_right (Nat.le_refl _),Nat.sub_self]
   rfl
  have iu:qh s (pre.length:Int) (tO s (pre.length:Int))=false:=by
   rw [hr]
   exact aan (decide_eq_false (by simp only;omega)) (decide_eq_false (by simp only;omega)) (decide_eq_false (by simp only;rw [xE];simp)) (decide_eq_false (by simp only;omega))
  rw [ag9 (decide_eq_true (by omega)) iu,hr]
  have ahS:s.extract ((pre.length:Int)+((lb (bQ x.size)).length:Int)+1).toNat ((pre.length:Int)+((lb (bQ x.size)).length:Int)+1+(x.size:Int)).toNat=x:=by
   refine vy ?_
   rw [mS,hs2]
   rw [show ((pre.length:Int)+((lb (bQ x.size)).length:Int)+1+(x.size:Int)).toNat=pre.length+((lb (bQ x.size)).length+(1+x.size)) by omega,show ((pre.length:Int)+((lb (bQ x.size)).length:Int)+1).toNat=pre.length+((lb (bQ x.size)).length+1) by omega]
   rw [List.take_length_add_append,List.drop_length_add_append,List.take_length_add_append,List.drop_length_add_append]
   rw [show 1+x.size=x.size+1 by omega,List.take_succ_cons,List.drop_succ_cons,List.drop_zero,ff,List.take_left]
  show JA g s ((pre.length:Int)+((lb (bQ x.size)).length:Int)+1+(x.size:Int)) _=_
  simp only
  rw [ahS]
  have:=aai (s:=s) (l:=l) (f:=g) (pre:=pre++(lb (bQ x.size)++58::lb x)) (out:=out++[x]) (by rw [hs2];simp [List.append_assoc]) (fun y hy=>hx y (by simp [hy])) (by simp at hf;omega)
  rw [show ((pre++(lb (bQ x.size)++58::lb x)).length:Int)=(pre.length:Int)+((lb (bQ x.size)).length:Int)+1+(x.size:Int) by simp only [List.length_append,List.length_cons,←ff];omega] at this
  rw [this,List.append_assoc];rfl
theorem UM:∀(l:List ByteArray),l.length≤(C4 l).length
 |[]=>Nat.le_refl _
 |x::l=>by
  have:=UM l
  simp only [C4,List.length_append,List.length_cons];omega
theorem I8 {l:List ByteArray} (h:(cz l).2=true):bh (cz l).1=(l,true):=by
 cases h60:decide ((l.length:Int)≤60) with
 |false=>rw [tN h60] at h;cases h
 |true=>
  have h0:=h
  rw [gv h60] at h
  obtain ⟨e1,e2,e3⟩:=D6 h
  rw [gv h60]
  generalize hs:(dw l ⟨#[]⟩).1=s at e1 e3 ⊢
  have e1:lb s=C4 l:=by simpa [adQ] using e1
  have db:s.size≤2048:=by
   rcases e3 with e3 |rfl
   ·exact e3
   ·rw [ff,e1];simp [C4]
  have hlen:=UM l
  have hg:=aai (s:=s) (l:=l) (f:=s.size+1) (pre:=[]) (out:=[]) (by simpa using e1) e2 (by rw [ff,e1];omega)
  unfold bh
  rw [decide_eq_true (by omega),cond_true]
  rw [show ((([]:List UInt8).length:Nat):Int)=0 from rfl] at hg
  rw [hg]
  show vK s ([]++l)=(l,true)
  rw [List.nil_append]
  unfold vK
  rw [h0,gv h60,hs]
  simp
theorem tz {n:fl} (h:cm n=true):bm (az n)=(n,true):=by
 have hb:=lh h
 have hp:az n=(cz [bQ n.1,bQ n.2.1,bQ n.2.2.1,aY n.root,bQ n.2.2.2.2.2.2.2.2.1,bQ n.2.2.2.2.2.2.2.2.2,⟨#[101,110,100]⟩]).1:=by unfold az;rw [h];rfl
 have hf:(cz [bQ n.1,bQ n.2.1,bQ n.2.2.1,aY n.root,bQ n.2.2.2.2.2.2.2.2.1,bQ n.2.2.2.2.2.2.2.2.2,⟨#[101,110,100]⟩]).2=true:=by
  rw [gv rfl]
  refine D5 ?_
  have d1:=cZ (n:=n.1) (by omega)
  have d2:=cZ (n:=n.2.1) (by omega)
  have d3:=cZ (n:=n.2.2.1) (by omega)
  have d4:=gh n.root
  have d5:=cZ (n:=n.2.2.2.2.2.2.2.2.1) (by omega)
  have d6:=cZ (n:=n.2.2.2.2.2.2.2.2.2) (by omega)
  simp only [List.map_cons,List.map_nil,List.sum_cons,List.sum_nil]
  rw [show (⟨#[101,110,100]⟩:ByteArray).size=3 from rfl,show (⟨#[]⟩:ByteArray).size=0 from rfl]
  omega
 have hg:=I8 hf
 rw [←hp] at hg
 have e1:=eg (n:=n.1) (by omega) (by omega)
 have e2:=eg (n:=n.2.1) (by omega) (by omega)
 have e3:=eg (n:=n.2.2.1) (by omega) (by omega)
 have e4:=nK hb.2.2.2.2.2.1
 have e5:=eg (n:=n.2.2.2.2.2.2.2.2.1) (by omega) (by omega)
 have e6:=eg (n:=n.2.2.2.2.2.2.2.2.2) (by omega) (by omega)
 have uy:mR [bQ n.1,bQ n.2.1,bQ n.2.2.1,aY n.root,bQ n.2.2.2.2.2.2.2.2.1,bQ n.2.2.2.2.2.2.2.2.2,⟨#[101,110,100]⟩]=n:=by
  show ((aA (bQ n.1)).1,(aA (bQ n.2.1)).1,(aA (bQ n.2.2.1)).1,(bJ (aY n.root)).1.1,(bJ (aY n.root)).1.2.1,(bJ (aY n.root)).1.2.2.1,(bJ (aY n.root)).1.2.2.2.1,(bJ (aY n.root)).1.2.2.2.2,(aA (bQ n.2.2.2.2.2.2.2.2.1)).1,(aA (bQ n.2.2.2.2.2.2.2.2.2)).1)=n
  rw [e1,e2,e3,e4,e5,e6]
 unfold bm
 rw [hg,uy,h]
 simp
end GL
namespace GL
abbrev at' (p:Pt):Nat:=p.1.toNat
def K2 (r:Nat) (p:Pt):Bool:= !(ar p)&&decide (at' p=r)
def bj (l:List Pt) (r:Nat):Nat:=l.countP (K2 r)
theorem re (r:Nat):bj [] r=0:=rfl
theorem bD (l m:List Pt) (r:Nat):bj (l++m) r=bj l r+bj m r:=List.countP_append
theorem dI (p:Pt) (l:List Pt) (r:Nat):bj (p::l) r=bj [p] r+bj l r:=bD [p] l r
theorem PZ {l m:List Pt} (h:l.Sublist m) (r:Nat):bj l r≤bj m r:=h.countP_le
theorem ma {p:Pt} (h:ar p=true) (r:Nat):bj [p] r=0:=by
 simp [bj,K2,h]
theorem rI {p:Pt} (h:ar p=false):bj [p] (at' p)=1:=by
 simp [bj,K2,h]
theorem y3 {p:Pt} {r:Nat} (h:at' p≠r):bj [p] r=0:=by
 simp [bj,K2,h]
theorem tV {l:List Pt} {p:Pt} (hp:p∈l) (h:ar p=false):0 < bj l (at' p):=by
 unfold bj
 rw [List.countP_pos_iff]
 exact ⟨p,hp,by simp [K2,h]⟩
theorem YE (f:Pt→Bool) (l:List Pt) (r:Nat):bj (l.filter f) r≤bj l r:=PZ List.filter_sublist r
def qz (s:ax) (r:Nat):Int:=nth ae s.refs r
structure Acc (s:ax) (O:Nat→Nat):Prop where
 wf:s.wf
 up:∀r,qz s r≤1000000
 bY:1≤s.bY∧s.bY≤1000000
 sl:∀r,((bj s.gone r+bj s.dead r+O r:Nat):Int)≤qz s r
 ok:∀p∈s.gone++s.dead,aV p=true∧ar p=false
theorem Acc.mono {s:ax} {O O':Nat→Nat} (h:Acc s O) (hO:∀r,O' r≤O r):Acc s O':=
 ⟨h.wf,h.up,h.bY,fun r=>by have:=h.sl r;have:=hO r;omega,h.ok⟩
def Kp (O:Nat→Nat) (s u:ax):Prop:=∀r,0 < O r→nth aa u.rows r=nth aa s.rows r
theorem Kp.refl (O:Nat→Nat) (s:ax):Kp O s s:=fun _ _=>rfl
theorem Kp.trans {O:Nat→Nat} {a b c:ax} (h:Kp O a b) (h2:Kp O b c):Kp O a c:=fun r hr=>(h2 r hr).trans (h r hr)
theorem Kp.mono {O O':Nat→Nat} {a b:ax} (h:Kp O a b) (hO:∀r,O' r≤O r):Kp O' a b:=fun r hr=>h r (Nat.lt_of_lt_of_le hr (hO r))
structure dJ (s u:ax):Prop where
 bY:u.bY=s.bY
 bT:u.bT=s.bT
 same:u.same=s.same
theorem dJ.refl (s:ax):dJ s s:=⟨rfl,rfl,rfl⟩
theorem dJ.trans {a b c:ax} (h:dJ a b) (h2:dJ b c):dJ a c:=⟨h2.bY.trans h.bY,h2.bT.trans h.bT,h2.same.trans h.same⟩
theorem ij {ek:EK} {l:List (EK.Ty ek)} {k r:Nat} {x:EK.Ty ek} (h:k≠r):nth ek (l.set k x) r=nth ek l r:=by
 unfold nth;rw [List.getElem?_set_ne h]
theorem tq {ek:EK} {l:List (EK.Ty ek)} {k:Nat} (h:l.length≤k):nth ek l k=EK.zero ek:=by
 unfold nth;rw [List.getElem?_eq_none h]
theorem FV {n:Int} (h0: -1000000000≤n) (h1:n≤1000000000):xu n=n:=oL (by simp only [gD];omega) (by simp only [imax];omega)
theorem sj {p:Pt} (h:aV p=true):at' p < 64:=by have:=pJ h;unfold at';omega
theorem CY {s:ax} {O O':Nat→Nat} {p:Pt} (h:Acc s O) (hp:aV p=true) (hO:∀r,O' r+bj [p] r≤O r):Acc (cG s p) O'∧Kp O' s (cG s p)∧dJ s (cG s p):=by
 have oI:=qf (p:=p) h.wf
 cases hh:ar p with
 |true=>
  rw [yV hh]
  exact ⟨h.mono fun r=>by have:=hO r;omega,Kp.refl _ _,dJ.refl _⟩
 |false=>
  cases h1:decide (p.2.1≤s.bT) with
  |true=>
   rw [yY hh h1] at oI ⊢
   refine ⟨⟨oI,h.up,h.bY,fun r=>?_,fun q hq=>?_⟩,Kp.refl _ _,⟨rfl,rfl,rfl⟩⟩
   ·show ((bj s.gone r+bj (s.dead++[p]) r+O' r:Nat):Int)≤qz s r
    rw [bD];have:=h.sl r;have:=hO r;omega
   ·have hq:q∈s.gone++(s.dead++[p]):=hq
    rw [←List.append_assoc] at hq
    rcases List.mem_append.1 hq with hq |hq
    ·exact h.ok q hq
    ·rw [List.mem_singleton.1 hq];exact ⟨hp,hh⟩
  |false=>
   cases h2:decide (p.2.1 < s.bY) with
   |true=>
    rw [yW hh h1 h2] at oI ⊢
    refine ⟨⟨oI,h.up,h.bY,fun r=>?_,fun q hq=>?_⟩,Kp.refl _ _,⟨rfl,rfl,rfl⟩⟩
    ·show ((bj (s.gone++[p]) r+bj s.dead r+O' r:Nat):Int)≤qz s r
     rw [bD];have:=h.sl r;have:=hO r;omega
    ·have hq:q∈(s.gone++[p])++s.dead:=hq
     simp only [List.mem_append,List.mem_singleton] at hq
     rcases hq with (hq |hq) |hq
     ·exact h.ok q (by simp [hq])
     ·rw [hq];exact ⟨hp,hh⟩
     ·exact h.ok q (by simp [hq])
   |false=>
    rw [yX hh h1 h2] at oI ⊢
    have xE:=sj hp
    have hlen:at' p < s.refs.length:=by rw [h.wf.n.2.1];exact xE
    have hsl:=h.sl (at' p)
    have hOa:=hO (at' p)
    rw [rI hh] at hOa
    have hup:=h.up (at' p)
    have hw:xu (qz s (at' p) - 1)=qz s (at' p) - 1:=FV (by omega) (by omega)
    have hrf:(fU s p.1.toNat).refs=s.refs.set (at' p) (qz s (at' p) - 1):=by
     show s.refs.set (at' p) (xu (qz s (at' p) - 1))=_
     rw [hw]
    have vF:∀r,qz (fU s p.1.toNat) r=qz s r - bj [p] r:=fun r=>by
     show nth ae (fU s p.1.toNat).refs r=nth ae s.refs r - _
     rw [hrf]
     by_cases e:at' p=r
     ·subst e;rw [nu (ek:=ae) hlen,rI hh];rfl
     ·rw [ij (ek:=ae) e,y3 e];simp
    refine ⟨⟨oI,fun r=>?_,h.bY,fun r=>?_,h.ok⟩,fun r hr=>?_,⟨rfl,rfl,rfl⟩⟩
    ·rw [vF];have:=h.up r;omega
    ·rw [vF]
     show ((bj s.gone r+bj s.dead r+O' r:Nat):Int)≤_
     have:=h.sl r;have:=hO r;omega
    ·show nth aa (bif uD s p.1.toNat then s.rows.set p.1.toNat ByteArray.empty else s.rows) r=_
     cases hb:uD s p.1.toNat with
     |false=>rfl
     |true=>
      have hz:qz (fU s p.1.toNat) (at' p)=0:=cw hb
      rw [vF,rI hh] at hz
      by_cases e:at' p=r
      ·subst e;omega
      ·exact ij (ek:=aa) e
theorem yT:∀ {l:List Pt} {s:ax} {O O':Nat→Nat},Acc s O→(∀p∈l,aV p=true)→(∀r,O' r+bj l r≤O r)→Acc (l.foldl cG s) O'∧Kp O' s (l.foldl cG s)∧dJ s (l.foldl cG s)
 |[],s,O,O',h,_,hO=>⟨h.mono fun r=>by have:=hO r;rw [re] at this;omega,Kp.refl _ _,dJ.refl _⟩
 |p::l,s,O,O',h,hl,hO=>by
  have h1:=CY (O':=fun r=>O' r+bj l r) h (hl p (by simp)) (fun r=>by have:=hO r;rw [dI] at this;show O' r+bj l r+_≤_;omega)
  have h2:=yT (l:=l) (O':=O') h1.1 (fun q hq=>hl q (by simp [hq])) (fun r=>Nat.le_refl _)
  exact ⟨h2.1,(h1.2.1.mono fun r=>Nat.le_add_right _ _).trans h2.2.1,h1.2.2.trans h2.2.2⟩
theorem I7:∀(f i:Nat) (rf:List Int),findF f i rf= -1∨nth ae rf (findF f i rf).toNat=0
 |0,_,_=>.inl rfl
 |f+1,i,rf=>by
  unfold findF
  cases hd:decide (nth ae rf i=0) with
  |true=>right;simp only [cond_true,Int.toNat_natCast];exact cw hd
  |false=>exact I7 f (i+1) rf
theorem H3:∀(f i:Nat) (s:ax) (text:ByteArray),sq f i s text= -1∨vt s text (sq f i s text).toNat=true
 |0,_,_,_=>.inl rfl
 |f+1,i,s,text=>by
  unfold sq
  cases hd:vt s text i with
  |true=>right;simp only [cond_true,Int.toNat_natCast];exact hd
  |false=>exact H3 f (i+1) s text
theorem NR (s:ax) (text:ByteArray) (lv:Int):cY s text lv < 0∨(8≤cY s text lv∧cY s text lv < 64)∧(nth ae s.refs (cY s text lv).toNat=0∨nth aa s.rows (cY s text lv).toNat=text∧nth ae s.refs (cY s text lv).toNat < s.bY):=by
 have hf:oe s.refs < 0∨(8≤oe s.refs∧oe s.refs < 64)∧nth ae s.refs (oe s.refs).toNat=0:=by
  rcases UA s.refs with h |h
  ·left;omega
  ·right
   refine ⟨h,?_⟩
   rcases I7 56 8 s.refs with h2 |h2
   ·have:oe s.refs= -1:=h2
    omega
   ·exact h2
 have key:∀a,a=oe s.refs→a < 0∨(8≤a∧a < 64)∧(nth ae s.refs a.toNat=0∨nth aa s.rows a.toNat=text∧nth ae s.refs a.toNat < s.bY):=fun a e=>by
  rw [e]
  rcases hf with h |h
  ·exact .inl h
  ·exact .inr ⟨h.1, .inl h.2⟩
 cases h1:s.same with
 |false=>exact key _ (wk h1)
 |true=>
  cases h2:decide (lv=0) with
  |false=>exact key _ (wm h2)
  |true=>
   cases h3:decide (qW s text < 0) with
   |true=>exact key _ (wo h1 h2 h3)
   |false=>
    rw [AX h1 h2 h3]
    have h3:=ca h3
    right
    rcases S6 s text with h |h
    ·omega
    ·refine ⟨h, .inr ?_⟩
     rcases H3 56 8 s text with h4 |h4
     ·have:qW s text= -1:=h4
      omega
     ·have h4:vt s text (qW s text).toNat=true:=h4
      unfold vt at h4
      simp only [Bool.and_eq_true,decide_eq_true_eq] at h4
      exact ⟨h4.1,h4.2.2⟩
structure aj6 (s u:ax) (p:Pt) (text:ByteArray) (lv:Int):Prop where
 ok:aV p=true
 nh:ar p=false
 lv:p.2.2.2.2=lv
 EF:p.2.1=s.bY
 row:nth aa u.rows (at' p)=text
 fits:iP p text=true
theorem xL {s:ax} {O:Nat→Nat} {text:ByteArray} {lv:Int} (h:Acc s O) (hz:(a6 s text lv).2.2=true):
  Acc (a6 s text lv).1 (fun r=>O r+bj [(a6 s text lv).2.1] r)∧Kp O s (a6 s text lv).1∧dJ s (a6 s text lv).1∧(a6 s text lv).1.gone=s.gone∧(a6 s text lv).1.dead=s.dead∧aj6 s (a6 s text lv).1 (a6 s text lv).2.1 text lv:=by
 have oI:=AW (text:=text) (lv:=lv) h.wf
 cases hd:decide (cY s text lv < 0) with
 |true=>rw [nA rfl hd] at hz;cases hz
 |false=>
  cases h2: !(gi (cY s text lv) s.bY lv text).2 with
  |true=>rw [my rfl hd h2] at hz;cases hz
  |false=>
   rw [oT rfl hd h2] at oI ⊢
   have hd:=ca hd
   have h2:=oD h2
   have hw:=NR s text lv
   generalize ha:cY s text lv=a at *
   have hpo:ir text.size 1 128=true∧aV (a,s.bY,(text.size:Int),sV text,lv)=true:=by
    cases hi:ir text.size 1 128 with
    |false=>rw [BS hi] at h2;cases h2
    |true=>cases hj:aV (a,s.bY,(text.size:Int),sV text,lv) with
     |false=>rw [BR hj] at h2;cases h2
     |true=>exact ⟨rfl,rfl⟩
   rw [BQ hpo.1 hpo.2] at *
   obtain ⟨⟨h8,h64⟩,sA⟩:=hw.resolve_left hd
   have hnh:ar (a,s.bY,(text.size:Int),sV text,lv)=false:=by
    unfold ar;rw [decide_eq_false (by show¬a=0;omega)];rfl
   have hlr:a.toNat < s.refs.length:=by rw [h.wf.n.2.1];omega
   have bM:a.toNat < s.rows.length:=by rw [h.wf.n.1];omega
   have hup:=h.up a.toNat
   have hsl:=h.sl a.toNat
   have hw2:xu (qz s a.toNat+1)=qz s a.toNat+1:=FV (by omega) (by omega)
   have sA:qz s a.toNat=0∨nth aa s.rows a.toNat=text∧qz s a.toNat < s.bY:=sA
   have vF:∀r,qz (uN s text a.toNat) r=qz s r+bj [((a,s.bY,(text.size:Int),sV text,lv):Pt)] r:=fun r=>by
    show nth ae (s.refs.set a.toNat (xu (qz s a.toNat+1))) r=nth ae s.refs r+_
    rw [hw2]
    by_cases e:a.toNat=r
    ·subst e
     rw [nu (ek:=ae) hlr]
     rw [show bj [((a,s.bY,(text.size:Int),sV text,lv):Pt)] a.toNat=1 from rI hnh];rfl
    ·rw [ij (ek:=ae) e,y3 (p:=(a,s.bY,(text.size:Int),sV text,lv)) e];simp
   refine ⟨⟨oI,fun r=>?_,h.bY,fun r=>?_,h.ok⟩,fun r hr=>?_,⟨rfl,rfl,rfl⟩,rfl,rfl,⟨hpo.2,hnh,rfl,rfl,?_,?_⟩⟩
   ·rw [vF]
    by_cases e:a.toNat=r
    ·subst e
     rw [show bj [((a,s.bY,(text.size:Int),sV text,lv):Pt)] a.toNat=1 from rI hnh]
     have:=h.bY
     rcases sA with hc |hc<;>omega
    ·rw [y3 (p:=(a,s.bY,(text.size:Int),sV text,lv)) e];have:=h.up r;omega
   ·rw [vF]
    show ((bj s.gone r+bj s.dead r+(O r+bj [((a,s.bY,(text.size:Int),sV text,lv):Pt)] r):Nat):Int)≤_
    have:=h.sl r;omega
   ·show nth aa (s.rows.set a.toNat text) r=_
    by_cases e:a.toNat=r
    ·subst e
     rw [nu (ek:=aa) bM]
     rcases sA with hc |hc
     ·omega
     ·exact hc.1.symm
    ·exact ij (ek:=aa) e
   ·exact nu (ek:=aa) bM
   ·unfold iP
    rw [hpo.2,hnh]
    simp
end GL
namespace GL
abbrev ly (s:ax) (n:Nat) (p:Pt):List Pt:=(a8 s p ((((n+1):Nat):Int))).1
def rj (s:ax):Nat→Pt→Prop
 |0,p=>aV p=true∧(ar p=false→p.2.2.2.2=0∧p.2.1≤s.bY∧(bA s p).2=true)
 |n+1,p=>aV p=true∧(ar p=false→(a8 s p ((((n+1):Nat):Int))).2=true)∧∀q∈ly s n p,rj s n q
def hZ (s:ax):Nat→Pt→List Pt
 |0,p=>[p]
 |n+1,p=>p::(ly s n p).flatMap (hZ s n)
def xQ (s:ax):Nat→Pt→List Pt
 |0,p=>[p]
 |n+1,p=>(ly s n p).flatMap (xQ s n)
def uI (s:ax):Nat→Pt→List Pt
 |0,_=>[]
 |n+1,p=>p::(ly s n p).flatMap (uI s n)
theorem vS {f g h:Pt→List Pt} {r:Nat}:∀ {l:List Pt},(∀q∈l,bj (f q) r=bj (g q) r+bj (h q) r)→bj (l.flatMap f) r=bj (l.flatMap g) r+bj (l.flatMap h) r
 |[],_=>rfl
 |q::l,hq=>by
  simp only [List.flatMap_cons,bD]
  have h1:=hq q (by simp)
  have h2:=vS (l:=l) (fun q h=>hq q (by simp [h]))
  omega
theorem fR {f:Pt→List Pt} {r:Nat} {q:Pt}:∀ {l:List Pt},q∈l→bj (f q) r≤bj (l.flatMap f) r
 |p::l,hq=>by
  simp only [List.flatMap_cons,bD]
  rcases List.mem_cons.1 hq with rfl |hq
  ·omega
  ·have:=fR (f:=f) (r:=r) hq;omega
theorem js {f g:Pt→List Pt}:∀ {l:List Pt},(∀q∈l,f q=g q)→l.flatMap f=l.flatMap g
 |[],_=>rfl
 |q::l,h=>by
  simp only [List.flatMap_cons]
  rw [h q (by simp),js (l:=l) fun q hq=>h q (by simp [hq])]
theorem mA (s:ax) (r:Nat):∀(n:Nat) (p:Pt),bj (hZ s n p) r=bj (uI s n p) r+bj (xQ s n p) r
 |0,p=>by show bj [p] r=bj [] r+bj [p] r;rw [re];omega
 |n+1,p=>by
  show bj (p::(ly s n p).flatMap (hZ s n)) r=bj (p::(ly s n p).flatMap (uI s n)) r+bj ((ly s n p).flatMap (xQ s n)) r
  rw [dI,dI p ((ly s n p).flatMap (uI s n))]
  have:=vS (f:=hZ s n) (g:=uI s n) (h:=xQ s n) (r:=r) (l:=ly s n p) fun q _=>mA s r n q
  omega
theorem qv {s:ax} {n:Nat} {p:Pt} (h:ar p=true):ly s n p=cl 4:=by show (a8 s p _).1=_;rw [kq h]
theorem oq {s:ax} {p:Pt} {lv:Int} (h:ar p=false) (h2:(a8 s p lv).2=true):aV p=true∧p.2.2.2.2=lv∧p.2.1≤s.bY∧(bA s p).2=true∧a8 s p lv=bd (bA s p).1∧(bd (bA s p).1).2=true∧(bd (bA s p).1).1.any (late p)=false:=by
 cases h1: !(aV p) with
 |true=>rw [KC h h1] at h2;cases h2
 |false=>
  cases h3:decide (p.2.2.2.2≠lv) with
  |true=>rw [wa h h3] at h2;cases h2
  |false=>
   cases h4:decide (p.2.1 > s.bY) with
   |true=>rw [AE h h4] at h2;cases h2
   |false=>
    cases h5: !(bA s p).2 with
    |true=>rw [v8 h h1 h3 h4 h5] at h2;cases h2
    |false=>
     have e:=v7 h h1 h3 h4 h5
     rw [e] at h2
     cases h6:(bd (bA s p).1).1.any (late p) with
     |true=>rw [wb h6] at h2;cases h2
     |false=>
      rw [sM h6] at h2 e
      have h3:=ca h3
      have h4:=ca h4
      exact ⟨oD h1,by omega,by omega,oD h5,e,h2,rfl⟩
theorem NO {s:ax} {p:Pt} {lv:Int} (h:ar p=false) (h1:aV p=true) (h2:p.2.2.2.2=lv) (h3:p.2.1≤s.bY) (h4:(bA s p).2=true) (h5:(bd (bA s p).1).1.any (late p)=false):a8 s p lv=bd (bA s p).1:=by
 rw [v7 h (by rw [h1];rfl) (decide_eq_false (by omega)) (decide_eq_false (by omega)) (by rw [h4];rfl),sM h5]
theorem rj.pok {s:ax} {n:Nat} {p:Pt} (h:rj s n p):aV p=true:=by cases n<;>exact h.1
theorem kr (s:ax):∀(n:Nat),rj s n bL
 |0=>⟨by decide,fun h=>by cases h⟩
 |n+1=>⟨by decide,(fun h=>by cases h),fun q hq=>by
   rw [qv (by decide)] at hq
   rw [show q=bL from (List.mem_replicate.1 hq).2]
   exact kr s n⟩
theorem rj.EF {s:ax} {n:Nat} {p:Pt} (h:rj s n p) (ht:1≤s.bY):p.2.1≤s.bY:=by
 cases hh:ar p with
 |true=>rw [ic hh];show (0:Int)≤_;omega
 |false=>
  cases n with
  |zero=>exact (h.2 hh).2.1
  |succ n=>exact (oq hh (h.2.1 hh)).2.2.1
theorem mH {s u:ax} {p:Pt} (h:ar p=false→nth aa u.rows (at' p)=nth aa s.rows (at' p)):bA u p=bA s p:=by
 cases hh:ar p with
 |true=>rw [fL hh,fL hh]
 |false=>
  have e:=h hh
  unfold bA
  rw [show nth aa u.rows p.1.toNat=nth aa s.rows p.1.toNat from e]
theorem EG {s u:ax} {p:Pt} {lv:Int} (ht:s.bY≤u.bY) (h:ar p=false→nth aa u.rows (at' p)=nth aa s.rows (at' p)) (h2:ar p=false→(a8 s p lv).2=true):a8 u p lv=a8 s p lv:=by
 cases hh:ar p with
 |true=>rw [kq hh,kq hh]
 |false=>
  obtain ⟨h3,h4,h5,h6,h7,h8,h9⟩:=oq hh (h2 hh)
  have e:=mH h
  rw [h7,←e]
  exact NO hh h3 h4 (by omega) (by rw [e];exact h6) (by rw [e];exact h9)
theorem KM {s u:ax} (ht:s.bY≤u.bY):∀ {n:Nat} {p:Pt},rj s n p→(∀q∈hZ s n p,ar q=false→nth aa u.rows (at' q)=nth aa s.rows (at' q))→rj u n p∧hZ u n p=hZ s n p∧xQ u n p=xQ s n p∧uI u n p=uI s n p
 |0,p,h,hk=>by
  refine ⟨⟨h.1,fun hh=>?_⟩,rfl,rfl,rfl⟩
  have h2:=h.2 hh
  exact ⟨h2.1,by omega,by rw [mH (s:=s) (u:=u) (p:=p) (fun hh=>hk p (by simp [hZ]) hh)];exact h2.2.2⟩
 |n+1,p,h,hk=>by
  have e:a8 u p ((((n+1):Nat):Int))=a8 s p ((((n+1):Nat):Int)):=EG ht (fun hh=>hk p (by simp [hZ]) hh) h.2.1
  have eb:ly u n p=ly s n p:=congrArg Prod.fst e
  have hq:∀q∈ly s n p,rj u n q∧hZ u n q=hZ s n q∧xQ u n q=xQ s n q∧uI u n q=uI s n q:=fun q hq=>
   KM ht (h.2.2 q hq) fun x hx hh=>hk x (by
    show x∈p::(ly s n p).flatMap (hZ s n)
    exact List.mem_cons_of_mem _ (List.mem_flatMap.2 ⟨q,hq,hx⟩)) hh
  refine ⟨⟨h.1,fun hh=>by rw [e];exact h.2.1 hh,fun q hx=>?_⟩,?_,?_,?_⟩
  ·rw [eb] at hx;exact (hq q hx).1
  ·show p::(ly u n p).flatMap (hZ u n)=p::(ly s n p).flatMap (hZ s n)
   rw [eb,js fun q hx=>(hq q hx).2.1]
  ·show (ly u n p).flatMap (xQ u n)=(ly s n p).flatMap (xQ s n)
   rw [eb,js fun q hx=>(hq q hx).2.2.1]
  ·show p::(ly u n p).flatMap (uI u n)=p::(ly s n p).flatMap (uI s n)
   rw [eb,js fun q hx=>(hq q hx).2.2.2]
theorem uj {s u:ax} {O:Nat→Nat} {n:Nat} {p:Pt} (h:rj s n p) (ht:s.bY≤u.bY) (hk:Kp O s u) (hO:∀r,bj (hZ s n p) r≤O r):rj u n p∧hZ u n p=hZ s n p∧xQ u n p=xQ s n p∧uI u n p=uI s n p:=
 KM ht h fun q hq hh=>hk _ (Nat.lt_of_lt_of_le (tV hq hh) (hO _))
theorem wD {u:ax} {p:Pt} {text:ByteArray} (hn:ar p=false) (hr:nth aa u.rows (at' p)=text) (hf:iP p text=true):bA u p=(text,true):=by
 have hr:nth aa u.rows p.1.toNat=text:=hr
 rw [yg hn (by rw [hr];exact hf),hr]
theorem ahT:∀ {l:List Pt},l.length=4→nV l=true→l=cl 4
 |[a,b,c,d],_,h=>by
  unfold nV at h
  simp only [List.any_cons,List.any_nil,Bool.not_eq_true',Bool.or_eq_false_iff,Bool.not_eq_false'] at h
  rw [ic h.1,ic h.2.1,ic h.2.2.1,ic h.2.2.2.1];rfl
structure alo (s:ax) (O:Nat→Nat) (n:Nat) (l:List Pt) (old:Pt) (u:ax) (p:Pt) (fr:List Pt):Prop where
 acc:Acc u (fun r=>O r+bj fr r)
 kp:Kp O s u
 same:dJ s u
 sub:rj u (n+1) p
 ly:ly u n p=l
 num:∀r,bj [p] r≤bj fr r+bj (bif ptrEq p old then [p] else []) r
theorem ace {s:ax} {O:Nat→Nat} {n:Nat} {l:List Pt} {old:Pt} (h:Acc s O) (hl:l.length=4) (hs:∀q∈l,rj s n q) (hc:∀r,bj (l.flatMap (hZ s n)) r≤O r) (ho:rj s (n+1) old) (hz:(dT s l ((((n+1):Nat):Int)) old).2.2=true):
  ∃fr,alo s O n l old (dT s l ((((n+1):Nat):Int)) old).1 (dT s l ((((n+1):Nat):Int)) old).2.1 fr:=by
 cases hn:nV l with
 |true=>
  rw [JF hn]
  refine ⟨[],h.mono fun r=>Nat.le_refl _,Kp.refl _ _,dJ.refl _,kr s (n+1),?_,fun r=>?_⟩
  ·rw [qv rfl,ahT hl hn]
  ·rw [ma rfl];exact Nat.zero_le _
 |false=>
  have I0:(bz l).2=true:=vL hl (fun p hp=>(hs p hp).pok) (by exact hn)
  have tL:=D9 I0
  cases hk:fw s l old with
  |true=>
   rw [JE hn hk]
   have hk2:=hk
   unfold fw at hk2
   simp only [Bool.and_eq_true,Bool.not_eq_true',decide_eq_true_eq] at hk2
   obtain ⟨hh,hf,ab3⟩:=hk2
   have hb:=oq hh (ho.2.1 hh)
   have dA:bA s old=((bz l).1,true):=wD hh ab3 hf
   rw [dA] at hb
   refine ⟨[],h.mono fun r=>Nat.le_refl _,Kp.refl _ _,dJ.refl _,ho,?_,fun r=>?_⟩
   ·show (a8 s old _).1=l
    rw [hb.2.2.2.2.1,tL]
   ·rw [r4.2 rfl];show bj [old] r≤bj [] r+bj [old] r;omega
  |false=>
   rw [tQ hn hk] at hz ⊢
   obtain ⟨ab7,hkp,IY,hg,hd,j6⟩:=xL h hz
   generalize (a6 s (bz l).1 ((((n+1):Nat):Int))).1=u at *
   generalize (a6 s (bz l).1 ((((n+1):Nat):Int))).2.1=p at *
   have dA:bA u p=((bz l).1,true):=wD j6.nh j6.row j6.fits
   have ajq:l.any (late p)=false:=by
    rw [List.any_eq_false]
    intro q hq
    have:=(hs q hq).EF h.bY.1
    have hb:=j6.EF
    simp only [late,decide_eq_true_eq];omega
   have hb:a8 u p ((((n+1):Nat):Int))=(l,true):=by
    rw [NO j6.nh j6.ok j6.lv (by rw [j6.EF,IY.bY];exact Int.le_refl _) (by rw [dA]) (by rw [dA,tL];exact ajq),dA,tL]
   refine ⟨[p],⟨ab7,hkp,IY,⟨j6.ok,fun _=>by rw [hb],fun q hq=>?_⟩,?_,fun r=>Nat.le_add_right _ _⟩⟩
   ·have hq:q∈l:=by
     have hq:q∈(a8 u p ((((n+1):Nat):Int))).1:=hq
     rw [hb] at hq;exact hq
    exact (uj (hs q hq) (by rw [IY.bY];exact Int.le_refl _) hkp fun r=>Nat.le_trans (fR hq) (hc r)).1
   ·show (a8 u p ((((n+1):Nat):Int))).1=l
    rw [hb]
def rO (ks ws:List Pt):Prop:=∀f:Pt→Bool,ks.countP (fun p=> !(ar p)&&f p)≤ws.countP (fun p=> !(ar p)&&f p)
theorem rO.nil (ws:List Pt):rO [] ws:=fun _=>Nat.zero_le _
theorem rO.append {a b c d:List Pt} (h:rO a b) (h2:rO c d):rO (a++c) (b++d):=fun f=>by
 rw [List.countP_append,List.countP_append];have:=h f;have:=h2 f;omega
structure aj7 (s:ax) (O:Nat→Nat) (n:Nat) (l j4:List Pt) (u:ax) (ps ks fr:List Pt):Prop where
 acc:Acc u (fun r=>O r+bj fr r)
 kp:Kp O s u
 same:dJ s u
 sub:∀p∈ps,rj u (n+1) p
 ly:ps.flatMap (ly u n)=l
 num:∀r,bj ps r≤bj fr r+bj ks r
 dom:rO ks j4
theorem ajJ {l:List Pt} {i m:Nat} (hl:l.length=4 * m) (hi:i < m):qC l i++l.drop (4 * (i+1))=l.drop (4 * i)∧(qC l i).length=4:=by
 have e:qC l i=(l.drop (4 * i)).take 4:=by
  unfold qC
  rw [show 0+((i:Int) * 4).toNat=4 * i by omega,show (((i:Int)+1) * 4).toNat - ((i:Int) * 4).toNat=4 by omega]
 rw [e]
 refine ⟨?_,by rw [List.length_take,List.length_drop];omega⟩
 rw [show 4 * (i+1)=4 * i+4 by omega,←List.drop_drop,List.take_append_drop]
theorem tP {n:Nat} {j4 l:List Pt} {m:Nat} (hl:l.length=4 * m):∀ {f:Nat} {s u:ax} {i:Nat} {nx sy nn y:List Pt} {O:Nat→Nat},fB f s ((((n+1):Nat):Int)) j4 l i nx sy=(u,some (nn,y))→Acc s O→m≤i+f→i≤m→(∀q∈l.drop (4 * i),rj s n q)→(∀r,bj ((l.drop (4 * i)).flatMap (hZ s n)) r≤O r)→(∀j,rj s (n+1) (nth ab j4 j))→(∀j r,bj (hZ s (n+1) (nth ab j4 j)) r≤O r)→
  ∃ps ks fr,nn=nx++ps∧y=sy++ks∧ps.length=m - i∧aj7 s O n (l.drop (4 * i)) (j4.drop i) u ps ks fr
 |0,s,u,i,nx,sy,nn,y,O,h,ha,hm,hi,hs,hc,hw,hwc=>by
  cases h
  have e:l.drop (4 * i)=[]:=List.drop_eq_nil_of_le (by omega)
  refine ⟨[],[],[],by simp,by simp,by simp;omega,⟨ha.mono fun r=>Nat.le_refl _,Kp.refl _ _,dJ.refl _,(fun p hp=>by cases hp),by rw [e];rfl,fun r=>Nat.zero_le _,rO.nil _⟩⟩
 |f+1,s,u,i,nx,sy,nn,y,O,h,ha,hm,hi,hs,hc,hw,hwc=>by
  cases hcd:decide ((i:Int) * 4 < l.length) with
  |false=>
   have FJ:=ca hcd
   rw [fB,hcd] at h
   cases h
   have e:l.drop (4 * i)=[]:=List.drop_eq_nil_of_le (by omega)
   refine ⟨[],[],[],by simp,by simp,by simp;omega,⟨ha.mono fun r=>Nat.le_refl _,Kp.refl _ _,dJ.refl _,(fun p hp=>by cases hp),by rw [e];rfl,fun r=>Nat.zero_le _,rO.nil _⟩⟩
  |true=>
   have bM:=cw hcd
   have him:i < m:=by omega
   rw [fB,hcd,cond_true] at h
   cases hz: !(dT s (qC l i) ((((n+1):Nat):Int)) (nth ab j4 i)).2.2 with
   |true=>rw [hz] at h;cases h
   |false=>
    rw [hz,cond_false] at h
    obtain ⟨hd1,hd2⟩:=ajJ hl him
    rw [←hd1] at hs hc
    have hc1:∀r,bj ((qC l i).flatMap (hZ s n)) r≤O r:=fun r=>by
     have:=hc r;rw [List.flatMap_append,bD] at this;omega
    have hc2:∀r,bj ((l.drop (4 * (i+1))).flatMap (hZ s n)) r≤O r:=fun r=>by
     have:=hc r;rw [List.flatMap_append,bD] at this;omega
    obtain ⟨fr1,hF⟩:=ace ha hd2 (fun q hq=>hs q (by simp [hq])) hc1 (hw i) (oD hz)
    generalize (dT s (qC l i) ((((n+1):Nat):Int)) (nth ab j4 i)).1=s1 at *
    generalize (dT s (qC l i) ((((n+1):Nat):Int)) (nth ab j4 i)).2.1=p at *
    have htx:s.bY≤s1.bY:=by rw [hF.same.bY];exact Int.le_refl _
    have hk2:∀q∈l.drop (4 * (i+1)),rj s1 n q∧hZ s1 n q=hZ s n q∧xQ s1 n q=xQ s n q∧uI s1 n q=uI s n q:=fun q hq=>
     uj (hs q (by simp [hq])) htx hF.kp fun r=>Nat.le_trans (fR hq) (hc2 r)
    have hwk:∀j,rj s1 (n+1) (nth ab j4 j)∧hZ s1 (n+1) (nth ab j4 j)=hZ s (n+1) (nth ab j4 j)∧xQ s1 (n+1) (nth ab j4 j)=xQ s (n+1) (nth ab j4 j)∧uI s1 (n+1) (nth ab j4 j)=uI s (n+1) (nth ab j4 j):=fun j=>
     uj (hw j) htx hF.kp (hwc j)
    have l7:=tP hl h hF.acc (by omega) (by omega) (fun q hq=>(hk2 q hq).1) (fun r=>by
     rw [js fun q hq=>(hk2 q hq).2.1]
     exact Nat.le_trans (hc2 r) (Nat.le_add_right _ _)) (fun j=>(hwk j).1) (fun j r=>by rw [(hwk j).2.1];exact Nat.le_trans (hwc j r) (Nat.le_add_right _ _))
    obtain ⟨ps,ks,fr,e1,e2,e3,hR⟩:=l7
    have mV:∀q∈hZ s1 (n+1) p,ar q=false→0 < O (at' q)+bj fr1 (at' q):=fun q hq hh=>by
     have hq:q∈p::(ly s1 n p).flatMap (hZ s1 n):=hq
     rcases List.mem_cons.1 hq with rfl |hq
     ·have h1:=hF.num (at' q)
      rw [rI hh] at h1
      cases he:ptrEq q (nth ab j4 i) with
      |false=>rw [he,cond_false,re] at h1;omega
      |true=>
       rw [r4.1 he] at hh ⊢
       have h2:0 < bj (hZ s (n+1) (nth ab j4 i)) (at' (nth ab j4 i)):=tV (by simp [hZ]) hh
       have:=hwc i (at' (nth ab j4 i));omega
     ·rw [hF.ly] at hq
      obtain ⟨x,hx,hxq⟩:=List.mem_flatMap.1 hq
      have e:=(uj (hs x (by simp [hx])) htx hF.kp fun r=>Nat.le_trans (fR hx) (hc1 r)).2.1
      rw [e] at hxq
      have h2:0 < bj (hZ s n x) (at' q):=tV hxq hh
      have h3:=fR (f:=hZ s n) (r:=at' q) hx
      have:=hc1 (at' q);omega
    have htu:s1.bY≤u.bY:=by rw [hR.same.bY];exact Int.le_refl _
    have uz:=KM htu hF.sub fun q hq hh=>hR.kp _ (mV q hq hh)
    have agj:ly u n p=qC l i:=by
     have e:a8 u p ((((n+1):Nat):Int))=a8 s1 p ((((n+1):Nat):Int)):=EG htu (fun hh=>hR.kp _ (mV p (by simp [hZ]) hh)) hF.sub.2.1
     rw [←hF.ly];exact congrArg Prod.fst e
    refine ⟨p::ps,(bif ptrEq p (nth ab j4 i) then [p] else [])++ks,fr1++fr,?_,?_,by rw [List.length_cons,e3];omega,⟨?_,?_,hF.same.trans hR.same,?_,?_,fun r=>?_,?_⟩⟩
    ·rw [e1,List.append_assoc];rfl
    ·rw [e2]
     cases ptrEq p (nth ab j4 i) with
     |true=>simp only [cond_true,List.append_assoc]
     |false=>simp only [cond_false,List.nil_append]
    ·exact hR.acc.mono fun r=>by show O r+bj (fr1++fr) r≤O r+bj fr1 r+bj fr r;rw [bD];omega
    ·exact hF.kp.trans (hR.kp.mono fun r=>Nat.le_add_right _ _)
    ·intro q hq
     rcases List.mem_cons.1 hq with rfl |hq
     ·exact uz.1
     ·exact hR.sub q hq
    ·rw [List.flatMap_cons,agj,hR.ly,hd1]
    ·have h1:=hF.num r
     have h2:=hR.num r
     rw [dI,bD,bD];omega
    ·have hd:rO (bif ptrEq p (nth ab j4 i) then [p] else []) [nth ab j4 i]:=by
      cases he:ptrEq p (nth ab j4 i) with
      |false=>exact rO.nil _
      |true=>rw [r4.1 he];exact fun f=>Nat.le_refl _
     by_cases hiw:i < j4.length
     ·rw [bP (ek:=ab) hiw]
      exact rO.append hd hR.dom
     ·have e0:j4.drop i=[]:=List.drop_eq_nil_of_le (by omega)
      have e1:j4.drop (i+1)=[]:=List.drop_eq_nil_of_le (by omega)
      have hz:nth ab j4 i=bL:=tq (ek:=ab) (by omega)
      rw [e0]
      intro f
      have h1:=hd f
      have h2:=hR.dom f
      rw [e1] at h2
      rw [hz] at h1
      rw [List.countP_append]
      have h3:List.countP (fun p=> !(ar p)&&f p) [bL]=0:=by simp [show ar bL=true by decide]
      rw [hz]
      omega
end GL
end Go.Proofs.YtbfgjadbfjkcdaaGreatDoor
