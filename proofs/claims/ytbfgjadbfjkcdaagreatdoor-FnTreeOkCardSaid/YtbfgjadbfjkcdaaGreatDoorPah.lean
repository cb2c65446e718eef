/- FnTreeOk returns true for every code (its row lists package variables, tied by the card): part 8. -/
import Derived.Test.YtbfgjadbfjkcdaaGreatDoorPag
set_option maxHeartbeats 20000000
set_option linter.all false
namespace Go.Proofs.YtbfgjadbfjkcdaaGreatDoor
namespace GL
section
variable {P:Program}{N:Nat}{τ:St}
variable {d:Nat}{x y z:Operand}{t u ty:TypeId}{pos:String}{af:Array Edge}{g:Option (Nat×Bool)}
def Rd (w:World) (v:Value) (ek:EK) (l:List (EK.Ty ek)):Prop:=
 (l=[]∧∃p cap,v= .slice p 0 cap)∨∃b o cap cs e fr,v= .slice (some ⟨b,o,none⟩) l.length cap∧w.heap[b]?=some (.cells cs e fr)∧win cs o (flat ek l)
theorem Rd.cells {w:World}{ek:EK}{b o:Nat}{cs:Array Value}{e:TypeId}{fr:Nat×Nat}{l:List Value}(hb:w.heap[b]?=some (.cells cs e fr)) (hw:win cs o l):∀j v,l[j]?=some v→w.cell? ((⟨b,o,none⟩:Addr).add j)=some v:=by
 intro j v hj
 rw [ga,rC hb]
 exact hw j v hj
theorem sb {ek:EK}{jd:Nat}(hf:Fits P t ek jd) (w:World) {p p2:Option Addr}{m cap c2:Nat}(hm:m≤cap) (hp:p=none→cap=0):(Builtin.append_ #[t,t] ty #[.slice p m cap,.slice p2 0 c2]).run P w= .ok (.slice p m cap) w:=by
 obtain⟨e,i,z,ht,hi,hz,dk,hby,hzs⟩:=jZ hf.info
 have h2:(Builtin.firstCells i.size 0 (.slice p2 0 c2)).run P w= .ok #[] w:=by
  cases p2 with
  |none=>simp [Builtin.firstCells]
  |some b=>exact run_firstCells_some (P:=P) w i.size 0 b 0 c2 [] (by simp) (by simp)
 cases p with
 |none=>
  have hc:=hp rfl
  subst hc
  have C1:m=0:=by omega
  subst C1
  simp [Builtin.append_,run_underlying ht,sizeOf,typeInfo,hi,Builtin.lenOf,h2]
 |some a=>
  simp [Builtin.append_,run_underlying ht,sizeOf,typeInfo,hi,Builtin.lenOf,h2,hm,storeCells]
theorem RB {ek:EK}{jd:Nat}(hf:Fits P t ek jd) {w:World}{b o m cap:Nat}{cs:Array Value}{e':TypeId}{fr:Nat×Nat}(hb:w.heap[b]?=some (.cells cs e' fr)) (kg:free fr cs.size) {l2:List (EK.Ty ek)}{y2:Value}(h2:Rd w y2 ek l2) (fB:l2≠[]) (oi:m+l2.length≤cap) (ak9:o+(m+l2.length)*ek.length≤cs.size):
  ∃w',(Builtin.append_ #[t,t] ty #[.slice (some ⟨b,o,none⟩) m cap,y2]).run P w= .ok (.slice (some ⟨b,o,none⟩) (m+l2.length) cap) w'∧QK w b (.cells (spl cs (o+m*ek.length) (flat ek l2)) e' fr) w':=by
 obtain⟨e,i,z,ht,hi,hz,dk,hby,hzs⟩:=jZ hf.info
 rcases h2 with ⟨h,_⟩ |⟨b2,o2,c2,cs2,e2,fr2,rfl,hb2,hw2⟩
 ·exact absurd h fB
 ·have hfc:=run_firstCells_some (P:=P) w i.size l2.length ⟨b2,o2,none⟩ l2.length c2 (flat ek l2) (by rw [cC,dk]) (Rd.cells (ek:=ek) hb2 hw2)
  obtain⟨w',hst,hw⟩:=pI (P:=P) (b:=b) (off:=o+m*i.size) (flat ek l2) 0 cs w hb (by rw [cC,dk,Nat.add_zero,ZF8,←ZE3];exact ak9) kg (aeQ ek l2)
  refine⟨w',?_,by rw [Nat.add_zero,dk] at hw;exact hw⟩
  simp [Builtin.append_,run_underlying ht,sizeOf,typeInfo,hi,Builtin.lenOf,oi,hfc,ga,hst]
theorem zA {ek:EK}{jd:Nat}(hf:Fits P t ek jd) {w:World}{p:Option Addr}{cap:Nat}{l1:List (EK.Ty ek)}(h1:(l1=[]∧(p=none→cap=0))∨∃b o cs e' fr,p=some ⟨b,o,none⟩∧w.heap[b]?=some (.cells cs e' fr)∧win cs o (flat ek l1)) {l2:List (EK.Ty ek)}{y2:Value}(h2:Rd w y2 ek l2) (fB:l2≠[]) (oi:cap<l1.length+l2.length) (hle:l1.length+l2.length≤1048576):
  ∃w' xz zz cs e',(Builtin.append_ #[t,t] ty #[.slice p l1.length cap,y2]).run P w= .ok (.slice (some ⟨w.heap.size,0,none⟩) (l1.length+l2.length) xz) w'∧oQ w (.cells cs e' (0,0)) w'∧cs.toList=flat ek (l1++l2++zz)∧(∀x∈zz,EK.ok ek x)∧xz=l1.length+l2.length+zz.length:=by
 obtain⟨e,i,z,ht,hi,hz,dk,hby,hzs⟩:=jZ hf.info
 have ajT:(l1.length+l2.length)*i.bytes≤140737488355328:=by
  have hs:=hf.small
  have:(l1.length+l2.length)*i.bytes≤1048576*1048576:=Nat.mul_le_mul hle (by rw [hby];exact hs)
  omega
 have hl2:0<l2.length:=List.length_pos_iff.2 fB
 have hzz:∀k,(Builtin.zeroCells z.cells k).toList=flat ek (List.replicate k (EK.zero ek)):=fun k=>by
  have:=MC hf.ne hzs k
  have hzl:z.cells.size=ek.length:=by rw [←ZE5,hzs,EK.bM]
  unfold Builtin.zeroCells
  rw [hzl] at this ⊢
  exact this
 rcases h2 with ⟨h,_⟩ |⟨b2,o2,c2,cs2,e2,fr2,rfl,hb2,hw2⟩
 ·exact absurd h fB
 ·have aeG:=Rd.cells (ek:=ek) hb2 hw2
  have fin:∀(pa:Addr),p=some pa→(∀j v,(flat ek l1)[j]?=some v→w.cell? (pa.add j)=some v)→∃w' xz zz cs e',(Builtin.append_ #[t,t] ty #[.slice p l1.length cap,.slice (some ⟨b2,o2,none⟩) l2.length c2]).run P w= .ok (.slice (some ⟨w.heap.size,0,none⟩) (l1.length+l2.length) xz) w'∧oQ w (.cells cs e' (0,0)) w'∧cs.toList=flat ek (l1++l2++zz)∧(∀x∈zz,EK.ok ek x)∧xz=l1.length+l2.length+zz.length:=by
   intro pa hpa hc1
   subst hpa
   have T6:=growslice_fits (need:=l1.length+l2.length) (old:=cap) (bytes:=i.bytes) oi ajT
   have fm:=run_append_grow (P:=P) (w:=w) t ty e i z ht hi hz pa l1.length cap (flat ek l1) (by rw [cC,dk]) hc1 ⟨b2,o2,none⟩ l2.length c2 (flat ek l2) (by rw [cC,dk]) aeG oi (by omega) T6
   have E9:l1.length+l2.length≤grownCap w (l1.length+l2.length) cap e:=by unfold grownCap;simp only [Question.cut];omega
   refine⟨_,_,List.replicate (grownCap w (l1.length+l2.length) cap e-(l1.length+l2.length)) (EK.zero ek),_,e,fm,⟨rfl,rfl,rfl,rfl⟩,?_,fun x hx=>by rw [List.eq_of_mem_replicate hx];exact EK.sY ek,by rw [ZG1];omega⟩
   rw [Array.toList_append,Array.toList_append,hzz,gF,gF]
  rcases h1 with ⟨rfl,hp⟩ |⟨b,o,cs,e',fr,rfl,hb,hw⟩
  ·cases p with
   |none=>
    have hc:=hp rfl
    subst hc
    have fm:=run_append_nil (P:=P) (w:=w) t ty e i z ht hi hz ⟨b2,o2,none⟩ l2.length c2 (flat ek l2) (by rw [cC,dk]) aeG hl2 (by simp at hle;omega) (by simp at ajT;omega)
    have E9:l2.length≤grownCap w l2.length 0 e:=by unfold grownCap;simp only [Question.cut];omega
    refine⟨w.drew.alloc (.cells ((flat ek l2).toArray++Builtin.zeroCells z.cells (grownCap w l2.length 0 e-l2.length)) e),grownCap w l2.length 0 e,List.replicate (grownCap w l2.length 0 e-l2.length) (EK.zero ek),_,e,by simpa using fm,⟨rfl,rfl,rfl,rfl⟩,?_,fun x hx=>by rw [List.eq_of_mem_replicate hx];exact EK.sY ek,by simp;omega⟩
    rw [Array.toList_append,hzz,ZC9,gF]
   |some pa=>exact fin pa rfl (by simp [flat])
  ·exact fin _ rfl (Rd.cells (ek:=ek) hb hw)
def aho {mE ek:EK}(h:mE=ek) (l:List (EK.Ty mE)):List (EK.Ty ek):=h ▸ l
theorem dj {ek:EK}(h:ek=ek) (l:List (EK.Ty ek)):aho h l=l:=rfl
def rN (mE ek:EK) (l:List (EK.Ty mE)):Option (List (EK.Ty ek)):=match h:EK.beq mE ek with
 |true=>some (aho (EK.eq_of_beq h) l)
 |false=>none
theorem ie {mE ek:EK}{l:List (EK.Ty mE)}{m:List (EK.Ty ek)}(h:rN mE ek l=some m):mE=ek∧HEq l m:=by
 unfold rN at h
 split at h
 ·rename_i hb
  have he:=EK.eq_of_beq hb
  subst he
  cases h
  exact⟨rfl,HEq.rfl⟩
 ·cases h
def HD (pt:Bool) (ek:EK) (v:AV) (k:Prop→List (EK.Ty ek)→Q Rs):Q Rs:=
 match v with
 |.o (.s (.vw mE l))=>match rN mE ek l with
  |some m=>k True m
  |none=>.ret .no
 |.o (.s (.vz mE l))=>match rN mE ek l with
  |some m=>k True m
  |none=>.ret .no
 |.o (.s (.xs j sz o m))=>sW j fun
  |.rs mE l=>match rN mE ek l with
   |some l=>bif Nat.beq sz ek.length then (match pt with
    |true=>k (o+m≤l.length) ((l.drop o).take m)
    |false=>k (o=0∧m=l.length) l) else .ret .no
   |none=>.ret .no
  |_=>.ret .no
 |.o (.s (.v (.slice none 0 0)))=>k True []
 |_=>.ret .no
theorem wJ {pt:Bool}{c:Ctx}{T:bc}{β:Nat→Nat}{a:Act}{w:World}(hh:Holds N c T β τ a w) {ek:EK}{v:AV}{y:Value}(hr:v.rel T β y) {k:Prop→List (EK.Ty ek)→Q Rs}(hp:((HD pt ek v k).run τ).pre):
  ∃(p:Prop) (l:List (EK.Ty ek)),(HD pt ek v k).run τ=(k p l).run τ∧(p→Rd w y ek l):=by
 unfold HD at hp ⊢
 split at hp
 ·rename_i mE l
  split at hp
  ·rename_i m h
   obtain⟨rfl,hm⟩:=ie h
   cases hm
   refine⟨True,l,rfl,fun _=>?_⟩
   rcases hr with ⟨rfl,p,cap,rfl⟩ |⟨b,o,cap,cs,e,fr,h1,h2,h3,h4⟩
   ·exact .inl ⟨rfl,p,cap,rfl⟩
   ·exact .inr ⟨b,o,cap,cs,e,fr,h1,hh.typed b _ h3,h4⟩
  ·exact hp.elim
 ·rename_i mE l
  split at hp
  ·rename_i m h
   obtain⟨rfl,hm⟩:=ie h
   cases hm
   refine⟨True,l,rfl,fun _=>?_⟩
   rcases hr with ⟨rfl,p,cap,rfl⟩ |⟨b,o,cap,cs,h1,h2,h3,h4⟩
   ·exact .inl ⟨rfl,p,cap,rfl⟩
   ·obtain⟨e,fr,hb⟩:=FM hh.typed h3
    exact .inr ⟨b,o,cap,cs,e,fr,h1,hb,h4⟩
  ·exact hp.elim
 ·rename_i j sz o m
  simp only [sW,Q.run] at hp ⊢
  cases hb:τ (.b j) with
  |none=>rw [hb] at hp;exact hp.elim
  |some av=>
   rw [hb] at hp
   simp only at hp ⊢
   split at hp
   ·rename_i mE l
    split at hp
    ·rename_i m' h
     obtain⟨rfl,hm⟩:=ie h
     cases hm
     cases hc:Nat.beq sz mE.length with
     |false=>rw [hc] at hp;exact hp.elim
     |true=>
      have dk:sz=mE.length:=by simpa using hc
      subst dk
      obtain⟨cs,te,kh,_,z,JD,_⟩:=hh.boxes j _ hb (by intro e;cases e)
      cases pt with
      |true=>
       refine⟨o+m≤l.length,(l.drop o).take m,rfl,fun hle=>?_⟩
       have hlen:((l.drop o).take m).length=m:=by simp;omega
       rcases hr with ⟨rfl,p,rfl⟩ |⟨cap,n,rfl,_⟩
       ·exact .inl ⟨by simp,p,0,rfl⟩
       ·exact .inr ⟨β j,o*mE.length,cap,cs,te,(0,0),by rw [hlen],kh,A9 JD o m⟩
      |false=>
       refine⟨o=0∧m=l.length,l,rfl,fun hle=>?_⟩
       obtain⟨rfl,rfl⟩:=hle
       rcases hr with ⟨zk,p,rfl⟩ |⟨cap,n,rfl,_⟩
       ·exact .inl ⟨ZD4.1 zk,p,0,rfl⟩
       ·exact .inr ⟨β j,0*mE.length,cap,cs,te,(0,0),rfl,kh,by have:=A9 JD 0 l.length;simpa using this⟩
    ·exact hp.elim
   ·exact hp.elim
 ·exact⟨True,[],rfl,fun _=>.inl ⟨rfl,none,0,hr⟩⟩
 ·exact hp.elim
def yH (i d:Nat):Nat:=bif Nat.ble 1000 i&&Nat.blt i 1000000000 then 1000+d else 1000000000+d
theorem abV (i d:Nat):1000≤yH i d∧(1000000000≤yH i d∨(1000≤i∧i<1000000000)):=by
 unfold yH
 cases hc:Nat.ble 1000 i&&Nat.blt i 1000000000 with
 |false=>simp only [cond_false];omega
 |true=>
  simp only [ZB0] at hc
  have h1:=aZ hc.1
  have h2:i<1000000000:=aZ hc.2
  simp only [cond_true];omega
def aiI (pt:Bool) (d:Nat) (ek:EK) (v u:AV):Q Rs:=
 match v with
 |.o (.s (.xs i sz 0 m))=>bif Nat.beq sz ek.length then sW i fun
  |.rs mE l=>match rN mE ek l with
   |some l=>HD pt ek u fun p l2=>.ask (.b (yH i d)) fun
    |none=>.ret (.nk ((m=l.length∧l.length+l2.length≤1048576)∧p) [(.s d,.s (.xs (yH i d) ek.length 0 (l.length+l2.length))),(.b (yH i d),.rs ek (l++l2)),(.b i,.zz)])
    |some _=>.ret .no
   |none=>.ret .no
  |_=>.ret .no else .ret .no
 |.o (.s (.v (.slice none 0 0)))=>HD pt ek u fun p l2=>.ask (.b (1000+d)) fun
  |none=>.ret (.nk ((0<l2.length∧l2.length≤1048576)∧p) [(.s d,.s (.xs (1000+d) ek.length 0 l2.length)),(.b (1000+d),.rs ek l2)])
  |some _=>.ret .no
 |_=>.ret .no
theorem KQ {a:Act}{w:World}{v1 v2:Value}(h1:a.eval x=v1) (h2:a.eval y=v2) {v:Value}{w':World}(hr:(Builtin.append_ #[t,t] ty #[v1,v2]).run P w= .ok v w'):(execOp a.eval ⟨some d,.call ⟨.builtin .append,#[x,y],#[t,t]⟩,ty,pos,af,g⟩).run P w= .ok (.value v) w':=by
 simp [execOp,resolve,invoke,builtin,h1,h2,hr]
theorem aiG {pt:Bool}{ek:EK}{jd:Nat}(hf:Fits P t ek jd) (hd:d<N):fw P N ⟨some d,.call ⟨.builtin .append,#[x,y],#[t,t]⟩,ty,pos,af,g⟩ (cb x fun v=>cb y fun u=>aiI pt d ek v u):=by
 intro c τ a w hr hp K Q' hK
 obtain⟨T,β,hh⟩:=hr
 rw [da] at hp hK
 cases hx:ev τ x with
 |none=>rw [hx] at hp;exact hp.elim
 |some v=>
  rw [hx] at hp hK
  simp only [da] at hp hK
  cases hy:ev τ y with
  |none=>rw [hy] at hp;exact hp.elim
  |some u=>
   rw [hy] at hp hK
   simp only at hp hK
   have hv:=eR hh hx
   have hu:=eR hh hy
   unfold aiI at hp hK
   split at hp
   ·rename_i i sz m
    simp only at hK
    obtain⟨aet,ah7⟩:=abV i d
    generalize yH i d=nm at hp hK aet ah7
    cases hc:Nat.beq sz ek.length with
    |false=>rw [hc] at hp;exact hp.elim
    |true=>
     rw [hc] at hp hK
     simp only [cond_true,sW,Q.run] at hp hK
     have dk:sz=ek.length:=by simpa using hc
     subst dk
     cases hb:τ (.b i) with
     |none=>rw [hb] at hp;exact hp.elim
     |some av=>
      rw [hb] at hp hK
      simp only at hp hK
      split at hp
      ·rename_i mE l
       split at hp
       ·rename_i m0 h
        obtain⟨rfl,C1⟩:=ie h
        cases C1
        simp only [h] at hK
        obtain⟨p,l2,fm,hRd⟩:=wJ hh hu hp
        have hp':=hp
        rw [fm] at hp'
        simp only [Q.run] at hp'
        cases hn:τ (.b nm) with
        |some _=>rw [hn] at hp';exact hp'.elim
        |none=>
         rw [hn] at hp'
         obtain⟨⟨hm,hle⟩,hpp⟩:(m=l.length∧l.length+l2.length≤1048576)∧p:=hp'
         subst hm
         have hR:=hRd hpp
         have hid:i≠nm:=fun e=>by rw [e,hn] at hb;cases hb
         have FW:live τ i:=eF hb (by intro e;cases e)
         obtain⟨cs,te,kh,fB,zz,JD,hzz⟩:=hh.boxes i _ hb (by intro e;cases e)
         have fin:∀{w':World} {val:Value} {T':bc} {β':Nat→Nat},(Builtin.append_ #[t,t] ty #[a.eval x,a.eval y]).run P w= .ok val w'→Holds N c T' β' ((τ.ap [(.b i,.zz)]).ap [(.b nm,.rs mE (l++l2))]) a w'→(SV.xs nm mE.length 0 (l.length+l2.length)).rel T' β' val→Oper.wp P ⟨some d,.call ⟨.builtin .append,#[x,y],#[t,t]⟩,ty,pos,af,g⟩ a w K Q':=by
          intro w' val T' β' z6 hh' c7
          unfold Oper.wp
          rw [KQ rfl rfl z6]
          show K (a.put (some d) val) w'
          refine hK [(.s d,.s (.xs nm mE.length 0 (l.length+l2.length))),(.b nm,.rs mE (l++l2)),(.b i,.zz)] _ _ ?_ ⟨_,_,hh'.put hd (av:=.s (.xs nm mE.length 0 (l.length+l2.length))) c7 (by simp [AV.boxes,A0.boxes,SV.boxes,ur])⟩
          rw [fm]
          simp only [Q.run,hn]
          rfl
         by_cases h2:l2=[]
         ·
          subst h2
          have h0:(Builtin.append_ #[t,t] ty #[a.eval x,a.eval y]).run P w= .ok (a.eval x) w:=by
           rcases hR with ⟨_,p2,c2,e2⟩ |⟨b2,o2,c2,_,_,_,e2,_⟩
           ·rcases hv with ⟨zk,p1,e1⟩ |⟨cap,n,e1,hmc,_⟩
            ·rw [e1,e2];exact sb hf w (ZB6 _) (fun _=>rfl)
            ·rw [e1,e2];exact sb hf w hmc (by simp)
           ·rcases hv with ⟨zk,p1,e1⟩ |⟨cap,n,e1,hmc,_⟩
            ·rw [e1,e2];exact sb hf w (ZB6 _) (fun _=>rfl)
            ·rw [e1,e2];exact sb hf w hmc (by simp)
          have hmv:=hh.TB (i:=i) (d:=nm) aet ah7 hn (av:=.rs mE (l++[])) FW kh (w':=w) ⟨kh,fun _ _=>rfl,rfl,rfl,rfl,rfl⟩ rfl ⟨fB,zz,by simpa using JD,hzz⟩ rfl
          refine fin h0 hmv ?_
          rcases hv with ⟨zk,p1,e1⟩ |⟨cap,n,e1,hmc,hT,hcn⟩
          ·exact .inl ⟨by simpa using zk,p1,e1⟩
          ·refine .inr ⟨cap,n,?_,by simpa using hmc,?_,hcn⟩
           ·rw [e1];unfold oy;rw [if_pos rfl];simp
           ·unfold oy;rw [if_pos rfl];exact hT
         ·rcases hv with ⟨zk,p1,e1⟩ |⟨cap,n,e1,hmc,hT,hcn⟩
          ·
           have hl:l=[]:=ZD4.1 zk
           subst hl
           obtain⟨w',xz,z',mr,e',z6,hpu,T5,hz',EH⟩:=zA (ty:=ty) hf (p:=p1) (cap:=0) (l1:=[]) (.inl ⟨rfl,fun _=>rfl⟩) hR h2 (by have:=List.length_pos_iff.2 h2;simpa using this) (by simpa using hle)
           have h3:=(hh.kill (i:=i)).tH (d:=nm) aet (by rw [ur,if_neg (by simp;exact fun h=>hid h.symm)];exact hn) (av:=.rs mE ([]++l2)) hpu ⟨fB,z',T5,hz'⟩ (by simp [AV.boxes])
           refine fin (by rw [e1];exact z6) h3 (.inr ⟨xz,mr.size,?_,by rw [EH];omega,?_,?_⟩)
           ·unfold oy;rw [if_pos rfl,ZG8]
           ·unfold oy xq;rw [if_pos rfl,if_pos rfl]
           ·rw [←ZE5,T5,cC];simp [EH]
          ·rw [ZG8] at e1
           have hnn:=hh.ZB hT kh
           by_cases oi:l.length+l2.length≤cap
           ·
            have E9:(l.length+l2.length)*mE.length≤cap*mE.length:=ZG4 _ oi
            rw [ZA7] at hcn
            obtain⟨w',z6,hw⟩:=RB (ty:=ty) hf (b:=β i) (o:=0) (m:=l.length) (cap:=cap) kh (JG _) hR h2 oi (by rw [ZA7];omega)
            rw [ZA7] at hw
            have hzl:(l++zz).length*mE.length=cs.size:=by rw [←cC,←JD,ZE5]
            have ams:l2.length≤zz.length:=by
             have h1:(l.length+l2.length)*mE.length≤(l++zz).length*mE.length:=by omega
             have h2:=Nat.le_of_mul_le_mul_right h1 (List.length_pos_iff.2 fB)
             simp at h2;omega
            have ala:(spl cs (l.length*mE.length) (flat mE l2)).toList=flat mE (l++l2++zz.drop l2.length):=by
             have e2:(l++zz).take l.length=l:=by simp
             have e3:(l++zz).drop (l.length+l2.length)=zz.drop l2.length:=by rw [ZF7]
             rw [mJ _ _ _ (by rw [cC,←ZE3];omega),JD,cC,←ZE3,ni,pw,e2,e3,gF,gF]
            have hmv:=hh.TB (i:=i) (d:=nm) aet ah7 hn (av:=.rs mE (l++l2)) FW kh hw (nL _ _ _) ⟨fB,zz.drop l2.length,ala,fun x hx=>hzz x (ZF4 hx)⟩ rfl
            refine fin (by rw [e1];exact z6) hmv (.inr ⟨cap,n,?_,oi,?_,by rw [ZA7];exact hcn⟩)
            ·unfold oy;rw [if_pos rfl,ZG8]
            ·unfold oy;rw [if_pos rfl];exact hT
           ·obtain⟨w',xz,z',mr,e',z6,hpu,T5,hz',EH⟩:=zA (ty:=ty) hf (p:=some ⟨β i,0,none⟩) (cap:=cap) (l1:=l) (.inr ⟨β i,0,cs,te,(0,0),rfl,kh,U7 JD⟩) hR h2 (by omega) hle
            have h3:=(hh.kill (i:=i)).tH (d:=nm) aet (by rw [ur,if_neg (by simp;exact fun h=>hid h.symm)];exact hn) (av:=.rs mE (l++l2)) hpu ⟨fB,z',T5,hz'⟩ (by simp [AV.boxes])
            refine fin (by rw [e1];exact z6) h3 (.inr ⟨xz,mr.size,?_,by rw [EH];omega,?_,?_⟩)
            ·unfold oy;rw [if_pos rfl,ZG8]
            ·unfold oy xq;rw [if_pos rfl,if_pos rfl]
            ·rw [←ZE5,T5,cC];simp [EH,ZF8]
       ·exact hp.elim
      ·exact hp.elim
   ·simp only at hK
    obtain⟨p,l2,fm,hRd⟩:=wJ hh hu hp
    have hp':=hp
    rw [fm] at hp' hK
    simp only [Q.run] at hp' hK
    cases hn:τ (.b (1000+d)) with
    |some _=>rw [hn] at hp';exact hp'.elim
    |none=>
     rw [hn] at hp' hK
     obtain⟨⟨hm,hle⟩,hpp⟩:(0<l2.length∧l2.length≤1048576)∧p:=hp'
     have hR:=hRd hpp
     have e1:a.eval x= .slice none 0 0:=hv
     obtain⟨w',xz,z',mr,e',z6,hpu,T5,hz',EH⟩:=zA (ty:=ty) hf (p:=none) (cap:=0) (l1:=[]) (.inl ⟨rfl,fun _=>rfl⟩) hR (List.length_pos_iff.1 hm) (by simpa using hm) (by simpa using hle)
     have h3:=hh.tH (d:=1000+d) (by omega) hn (av:=.rs ek l2) hpu ⟨hf.ne,z',by simpa using T5,hz'⟩ (by simp [AV.boxes])
     unfold Oper.wp
     rw [KQ (x:=x) (y:=y) e1 rfl z6]
     refine hK _ _ _ rfl ⟨_,_,h3.put hd (av:=.s (.xs (1000+d) ek.length 0 l2.length)) (.inr ⟨xz,mr.size,?_,by rw [EH];simp,?_,?_⟩) (by simp [AV.boxes,A0.boxes,SV.boxes,ur])⟩
     ·unfold oy;rw [if_pos rfl,ZG8];simp
     ·unfold oy xq;rw [if_pos rfl,if_pos rfl]
     ·rw [←ZE5,T5,cC];simp [EH]
   ·exact hp.elim
end
end GL
namespace GL
section
variable {P:Program}{N:Nat}{τ:St}
variable {d:Nat}{x y z:Operand}{t u ty:TypeId}{pos:String}{af:Array Edge}{g:Option (Nat×Bool)}
def acz (ek:EK):SV→Option Nat
 |.sl mE n=>bif EK.beq mE ek then some n else none
 |.v (.slice none 0 0)=>some 0
 |_=>none
theorem wq {T:bc}{β:Nat→Nat}{ek:EK}{v:SV}{n:Nat}(h:acz ek v=some n) {y:Value}(hr:v.rel T β y):(SV.sl ek n).rel T β y:=by
 unfold acz at h
 split at h
 ·rename_i mE m
  cases hb:EK.beq mE ek with
  |false=>rw [hb] at h;cases h
  |true=>
   rw [hb] at h;cases h
   have he:=EK.eq_of_beq hb
   subst he
   exact hr
 ·cases h
  exact .inl ⟨rfl,none,hr⟩
 ·cases h
theorem ZA {T:bc}{β:Nat→Nat}{w:World}(hT:WT T w) {ek:EK}{n:Nat}{y:Value}(hr:(SV.sl ek n).rel T β y):∃l:List (EK.Ty ek),l.length=n∧(∀x∈l,EK.ok ek x)∧Rd w y ek l:=by
 rcases hr with ⟨rfl,p,rfl⟩ |⟨b,o,cap,m,rfl,h2,h3,h4⟩
 ·exact⟨[],rfl,by simp,.inl ⟨rfl,p,0,rfl⟩⟩
 ·obtain⟨fB,cs,e,fr,l,hb,kg,mf⟩:=hT b _ h3
  have hlen:((l.drop o).take n).length=n:=by simp [mf.1];omega
  refine⟨(l.drop o).take n,hlen,fun x hx=>mf.2.1 x (ZF4 (ZE6 hx)),.inr ⟨b,o*ek.length,cap,cs,e,fr,by rw [hlen],hb,?_⟩⟩
  have:=wB (GA mf) o n
  rwa [ZA7] at this
def aiJ (pt:Bool) (d:Nat) (ek:EK) (v u:AV):Q Rs:=
 match v,u with
 |.o (.s v'),.o (.s u')=>match acz ek v' with
  |some m=>match acz ek u' with
   |some n=>.ret (.nk (m+n≤1048576) [(.s d,.s (.sl ek (m+n)))])
   |none=>HD pt ek u fun p l2=>.ret (.nk (m+l2.length≤1048576∧p∧SX ek l2) [(.s d,.s (.sl ek (m+l2.length)))])
  |none=>.ret .no
 |_,_=>.ret .no
theorem afK {ek:EK}{jd:Nat}(hf:Fits P t ek jd) {c:Ctx}{T:bc}{β:Nat→Nat}{a:Act}{w:World}(hh:Holds N c T β τ a w) {m:Nat}{v1 v2:Value}(h1:(SV.sl ek m).rel T β v1) {l2:List (EK.Ty ek)}(h2:Rd w v2 ek l2) (cA:∀x∈l2,EK.ok ek x) (hle:m+l2.length≤1048576):
  ∃val T' w',(Builtin.append_ #[t,t] ty #[v1,v2]).run P w= .ok val w'∧Holds N c T' β τ a w'∧(SV.sl ek (m+l2.length)).rel T' β val:=by
 by_cases hn:l2=[]
 ·subst hn
  have h0:(Builtin.append_ #[t,t] ty #[v1,v2]).run P w= .ok v1 w:=by
   have e2:∃p c2,v2= .slice p 0 c2:=by
    rcases h2 with ⟨_,p,c2,e⟩ |⟨b,o,c2,_,_,_,e,_⟩
    ·exact⟨p,c2,e⟩
    ·exact⟨_,c2,e⟩
   obtain⟨p2,c2,rfl⟩:=e2
   rcases h1 with ⟨rfl,p,rfl⟩ |⟨b,o,cap,n,rfl,hmc,_,_⟩
   ·exact sb hf w (ZB6 _) (fun _=>rfl)
   ·exact sb hf w hmc (by simp)
  exact⟨v1,T,w,h0,hh,h1⟩
 ·have grow:∀{p:Option Addr} {cap:Nat} {l1:List (EK.Ty ek)},v1= .slice p l1.length cap→l1.length=m→(∀x∈l1,EK.ok ek x)→((l1=[]∧(p=none→cap=0))∨∃b o cs e' fr,p=some ⟨b,o,none⟩∧w.heap[b]?=some (.cells cs e' fr)∧win cs o (flat ek l1))→cap<m+l2.length→
    ∃val T' w',(Builtin.append_ #[t,t] ty #[v1,v2]).run P w= .ok val w'∧Holds N c T' β τ a w'∧(SV.sl ek (m+l2.length)).rel T' β val:=by
   intro p cap l1 e1 hl1 alf hw1 bU
   subst e1;subst hl1
   obtain⟨w',xz,zz,mr,e',fm,hpu,JD,hz,E9⟩:=zA (ty:=ty) hf hw1 h2 hn bU hle
   have h3:=hh.CK (k:=.ty ek xz) hpu ⟨hf.ne,mr,e',(0,0),l1++l2++zz,hpu.new,JG _,by simp [E9,ZF8],fun x hx=>by
    rcases ZB5.1 hx with h |h
    ·rcases ZB5.1 h with h |h
     ·exact alf x h
     ·exact cA x h
    ·exact hz x h,JD⟩
   exact⟨_,_,_,fm,h3,.inr ⟨w.heap.size,0,xz,xz,by rw [ZG8],by omega,by unfold xq;rw [if_pos rfl],by omega⟩⟩
  have h1':=h1
  rcases h1 with ⟨rfl,p,rfl⟩ |⟨b,o,cap,n,rfl,hmc,hT,hon⟩
  ·exact grow (p:=p) (cap:=0) (l1:=[]) rfl rfl (by simp) (.inl ⟨rfl,fun _=>rfl⟩) (by have:=List.length_pos_iff.2 hn;omega)
  ·obtain⟨fB,cs,e,fr,l,hb,kg,mf⟩:=hh.typed b _ hT
   by_cases oi:m+l2.length≤cap
   ·have dk:cs.size=n*ek.length:=by rw [←ZE5,mf.2.2,cC,mf.1]
    have hb1:(o+(m+l2.length))*ek.length≤n*ek.length:=ZG4 _ (by omega)
    obtain⟨w',fm,hw⟩:=RB (ty:=ty) hf (m:=m) (cap:=cap) hb kg h2 hn oi (by rw [dk,←ZE3];exact hb1)
    have hm1:o*ek.length+m*ek.length=(o+m)*ek.length:=by rw [ZE3]
    rw [hm1] at hw
    have vL:(spl cs ((o+m)*ek.length) (flat ek l2)).toList=flat ek (l.take (o+m)++l2++l.drop (o+m+l2.length)):=by
     rw [mJ _ _ _ (by rw [cC,←ZE3,dk];exact ZG4 _ (by omega)),mf.2.2,cC,←ZE3,ni,pw,gF,gF]
    refine⟨_,T,w',fm,hh.uW hT hw (by rw [nL];exact kg) (l:=l.take (o+m)++l2++l.drop (o+m+l2.length)) ⟨?_,fun x hx=>?_,vL⟩,.inr ⟨b,o,cap,n,rfl,oi,hT,hon⟩⟩
    ·have:=mf.1;simp;omega
    ·rcases ZB5.1 hx with h |h
     ·rcases ZB5.1 h with h |h
      ·exact mf.2.1 x (ZE6 h)
      ·exact cA x h
     ·exact mf.2.1 x (ZF4 h)
   ·have hlen:((l.drop o).take m).length=m:=by simp [mf.1];omega
    refine grow (p:=some ⟨b,o*ek.length,none⟩) (cap:=cap) (l1:=(l.drop o).take m) (by rw [hlen]) hlen (fun x hx=>mf.2.1 x (ZF4 (ZE6 hx))) (.inr ⟨b,o*ek.length,cs,e,fr,rfl,hb,?_⟩) (by omega)
    have:=wB (GA mf) o m
    rwa [ZA7] at this
theorem aiH {pt:Bool}{ek:EK}{jd:Nat}(hf:Fits P t ek jd) (hd:d<N):fw P N ⟨some d,.call ⟨.builtin .append,#[x,y],#[t,t]⟩,ty,pos,af,g⟩ (cb x fun v=>cb y fun u=>aiJ pt d ek v u):=by
 intro c τ a w hr hp K Q' hK
 obtain⟨T,β,hh⟩:=hr
 rw [da] at hp hK
 cases hx:ev τ x with
 |none=>rw [hx] at hp;exact hp.elim
 |some v=>
  rw [hx] at hp hK
  simp only [da] at hp hK
  cases hy:ev τ y with
  |none=>rw [hy] at hp;exact hp.elim
  |some u=>
   rw [hy] at hp hK
   simp only at hp hK
   have hv:=eR hh hx
   have hu:=eR hh hy
   have fin:∀{l2:List (EK.Ty ek)} {m:Nat},(SV.sl ek m).rel T β (a.eval x)→Rd w (a.eval y) ek l2→(∀x∈l2,EK.ok ek x)→m+l2.length≤1048576→(∀a' w',Rel N c (τ.ap [(.s d,.s (.sl ek (m+l2.length)))]) a' w'→K a' w')→Oper.wp P ⟨some d,.call ⟨.builtin .append,#[x,y],#[t,t]⟩,ty,pos,af,g⟩ a w K Q':=by
    intro l2 m h1 h2 cA hle hK
    obtain⟨val,T',w',fm,hh',c7⟩:=afK (ty:=ty) hf hh h1 h2 cA hle
    unfold Oper.wp
    rw [KQ (x:=x) (y:=y) rfl rfl fm]
    show K (a.put (some d) val) w'
    exact hK _ _ ⟨_,_,hh'.put hd (av:=.s (.sl ek (m+l2.length))) c7 (by simp [AV.boxes,A0.boxes,SV.boxes])⟩
   unfold aiJ at hp hK
   split at hp
   ·rename_i v' u'
    split at hp
    ·rename_i m hm
     simp only [hm] at hK
     split at hp
     ·rename_i n hn
      simp only [hn,Q.run] at hK
      obtain⟨l2,hl2,cA,hRd⟩:=ZA hh.typed (wq hn hu)
      subst hl2
      exact fin (wq hm hv) hRd cA hp (fun a' w' h=>hK _ _ _ rfl h)
     ·rename_i hn
      simp only [hn] at hK
      obtain⟨p,l2,fm,hRd⟩:=wJ hh hu hp
      rw [fm] at hp hK
      obtain⟨h1,h2,h3⟩:m+l2.length≤1048576∧p∧SX ek l2:=hp
      exact fin (wq hm hv) (hRd h2) (CG h3) h1 (fun a' w' h=>hK _ _ _ rfl h)
    ·exact hp.elim
   ·exact hp.elim
def fc (l:List Int):ByteArray:=l.foldl (fun r n=>r.push (UInt8.ofNat n.toNat)) ByteArray.empty
theorem nJ:∀(l:List Int) (r:ByteArray),(l.foldl (fun r n=>r.push (UInt8.ofNat n.toNat)) r).size=r.size+l.length
 |[],r=>by simp
 |n::l,r=>by
  rw [List.foldl_cons,nJ l]
  simp [ByteArray.size_push];omega
abbrev kL:EK:=[.u8]
theorem P1:∀l:List Int,flat kL l=l.map (Value.int .u8)
 |[]=>rfl
 |n::l=>by
  have:=P1 l
  rw [iU,this];rfl
theorem acS {e:TypeId}(hs:P.underlying t=some (.slice e)) (he:P.underlying e=some (.int .u8)) (hd:P.underlying u=some .string) {w:World}{v:Value}{l:List Int}(h:Rd w v kL l):(convert t u v).run P w= .ok (.string (fc l)) w:=by
 rcases h with ⟨rfl,p,cap,rfl⟩ |⟨b,o,cap,cs,e',fr,rfl,hb,hw⟩
 ·rw [run_convert_bytes_string w t u e p 0 cap hs he hd]
  cases p with
  |none=>simp [Conv.bytesToString,fc]
  |some p=>
   rw [run_bytesToString (P:=P) w p 0 cap [] (by simp [loadCells,loadCellsFrom])]
   rfl
 ·rw [run_convert_bytes_string w t u e _ _ cap hs he hd]
  have h1:=run_loadCells_list (P:=P) w ⟨b,o,none⟩ (flat kL l) (Rd.cells (ek:=kL) hb hw)
  rw [cC,P1] at h1
  simp only [List.length_singleton,Nat.mul_one] at h1
  rw [run_bytesToString (P:=P) w ⟨b,o,none⟩ l.length cap l h1]
  rfl
def acK (pt:Bool) (d:Nat) (v:AV):Q Rs:=
 match v with
 |.o (.s v')=>match acz kL v' with
  |some n=>.ret (.ex True ByteArray (fun s=>s.size=n) [(.s d,fun s=>.str s)])
  |none=>HD pt kL v fun p (l:List Int)=>.ret (.nk p [(.s d,.str (fc l))])
 |_=>.ret .no
theorem ait {pt:Bool}{e:TypeId}(hs:P.underlying t=some (.slice e)) (he:P.underlying e=some (.int .u8)) (hu:P.underlying u=some .string) (hd:d<N):fw P N ⟨some d,.convert t u x,ty,pos,af,g⟩ (cb x fun v=>acK pt d v):=by
 intro c τ a w hr hp K Q' hK
 obtain⟨T,β,hh⟩:=hr
 rw [da] at hp hK
 cases hx:ev τ x with
 |none=>rw [hx] at hp;exact hp.elim
 |some v=>
  rw [hx] at hp hK
  simp only at hp hK
  have hv:=eR hh hx
  have hex:∀{l:List Int},Rd w (a.eval x) kL l→(execOp a.eval ⟨some d,.convert t u x,ty,pos,af,g⟩).run P w= .ok (.value (.string (fc l))) w:=fun h=>by
   simp [execOp,acS hs he hu h]
  unfold acK at hp hK
  split at hp
  ·rename_i v'
   split at hp
   ·rename_i n hn
    simp only [hn] at hK
    obtain⟨l,hl,cA,hRd⟩:=ZA hh.typed (wq hn hv)
    have dk:(fc l).size=n:=by
     have:=nJ l ByteArray.empty
     unfold fc
     rw [this,←hl];simp
    exact fw.value (av:=.str (fc l)) hh rfl hd (hex hRd) rfl (by simp [AV.boxes,A0.boxes,SV.boxes]) (fun a' h=>hK _ _ _ ⟨_,dk,rfl⟩ h)
   ·rename_i hn
    simp only [hn] at hK
    obtain⟨p,l,fm,hRd⟩:=wJ hh hv hp
    rw [fm] at hp hK
    exact fw.value (av:=.str (fc l)) hh rfl hd (hex (hRd hp)) rfl (by simp [AV.boxes,A0.boxes,SV.boxes]) (fun a' h=>hK _ _ _ rfl h)
  ·exact hp.elim
def acQ (v:AV):V1:=
 match v with
 |.o (.s (.sl ek n))=>.nk (0<n) (.s (.sl ek n))
 |_=>.no
theorem aiu {e:TypeId}(hs:P.underlying t=some (.slice e)) (he:P.underlying e=some (.int .u8)) (hd:d<N):fw P N ⟨some d,.convert t t x,ty,pos,af,g⟩ (cb x fun v=>.ret ((acQ v).rs d)):=by
 intro c τ a w hr hp K Q' hK
 obtain⟨T,β,hh⟩:=hr
 rw [da] at hp hK
 cases hx:ev τ x with
 |none=>rw [hx] at hp;exact hp.elim
 |some v=>
  rw [hx] at hp hK
  simp only at hp hK
  have hv:=eR hh hx
  unfold acQ at hp hK
  split at hp
  ·rename_i ek n
   simp only at hK
   rcases hv with ⟨rfl,p,e1⟩ |⟨b,o,cap,m,e1,h2,h3,h4⟩
   ·exact absurd (show 0<0 from hp) (by omega)
   ·obtain⟨fB,cs,e',fr,l,hb,kg,mf⟩:=hh.typed b _ h3
    have ah4:w.shape? b=some (e',cs.size):=by simp [World.shape?,hb]
    have hex:(execOp a.eval ⟨some d,.convert t t x,ty,pos,af,g⟩).run P w= .ok (.value (.slice (some ⟨b,o*ek.length,none⟩) n cap)) (w.freeze ⟨b,cs.size,none⟩ 1):=by
     simp [execOp,e1,convert,run_underlying hs,run_underlying he,markStringish,ah4]
    have hfz:QK w b (.cells cs e' (if fr.1==fr.2 then (cs.size,cs.size+1) else (min fr.1 cs.size,max fr.2 (cs.size+1)))) (w.freeze ⟨b,cs.size,none⟩ 1):= {
     at_:=by simp [World.freeze,Array.getElem?_modify,hb]
     other:=fun k hk=>by simp only [World.freeze];rw [if_neg (by omega)];simp only [Array.getElem?_modify];rw [if_neg (by omega)]
     size:=by simp [World.freeze]
     os:=rfl
     tape:=rfl
     output:=rfl }
    have h5:=hh.uW h3 hfz (by
     split
     ·exact .inr ⟨ZB6 _,by simp⟩
     ·rcases kg with h |h
      ·rename_i fB;exact absurd (by simpa using h) fB
      ·exact .inr ⟨by simp;omega,by simp;omega⟩) mf
    unfold Oper.wp
    rw [hex]
    exact hK _ _ _ rfl ⟨_,_,h5.put hd (av:=.s (.sl ek n)) (.inr ⟨b,o,cap,m,rfl,h2,h3,h4⟩) (by simp [AV.boxes,A0.boxes,SV.boxes])⟩
  ·exact hp.elim
end
end GL
namespace GL
inductive SP where
 |int
 |byte
 |str
 |bool
 |sl (ek:EK)
 |vz (ek:EK)
 |vw (ek:EK)
 |xb (i:Nat) (ek:EK)
abbrev SP.Ty:SP→Type
 |.int=>Int
 |.byte=>Int
 |.str=>ByteArray
 |.bool=>Bool
 |.sl _=>Nat
 |.vz ek=>List (EK.Ty ek)
 |.vw ek=>List (EK.Ty ek)
 |.xb _ _=>Nat
def SP.sv:(p:SP)→p.Ty→SV
 |.int,n=>.v (.int .i64 n)
 |.byte,n=>.v (.int .u8 n)
 |.str,s=>.v (.string s)
 |.bool,b=>.q b
 |.sl ek,n=>.sl ek n
 |.vz ek,l=>.vz ek l
 |.vw ek,l=>.vw ek l
 |.xb i ek,m=>.xs i ek.length 0 m
def SP.parse:(p:SP)→SV→Option p.Ty
 |.int,.v (.int .i64 n)=>some n
 |.byte,.v (.int .u8 n)=>some n
 |.str,.v (.string s)=>some s
 |.bool,.q b=>some b
 |.bool,.v (.bool b)=>some b
 |.sl ek,x=>acz ek x
 |.vz ek,.vz mE l=>rN mE ek l
 |.vz ek,.vw mE l=>rN mE ek l
 |.vz _,.v (.slice none 0 0)=>some []
 |.vw ek,.vw mE l=>rN mE ek l
 |.vw _,.v (.slice none 0 0)=>some []
 |.xb i ek,.xs j sz 0 m=>bif Nat.beq i j&&Nat.beq sz ek.length then some m else none
 |_,_=>none
theorem SP.eP {T:bc}{β:Nat→Nat}{p:SP}{x:SV}{v:p.Ty}(h:p.parse x=some v):(∀{y:Value},x.rel T β y→(p.sv v).rel T β y)∧∀i∈(p.sv v).boxes,i∈x.boxes:=by
 unfold SP.parse at h
 split at h
 ·cases h;exact⟨fun hr=>hr,fun _ hi=>hi⟩
 ·cases h;exact⟨fun hr=>hr,fun _ hi=>hi⟩
 ·cases h;exact⟨fun hr=>hr,fun _ hi=>hi⟩
 ·cases h;exact⟨fun hr=>hr,fun _ hi=>hi⟩
 ·cases h;exact⟨fun hr=>hr,fun _ hi=>hi⟩
 ·exact⟨fun hr=>wq h hr,fun i hi=>by simp [SP.sv,SV.boxes] at hi⟩
 ·obtain⟨rfl,hm⟩:=ie h
  cases hm;exact⟨fun hr=>hr,fun _ hi=>hi⟩
 ·obtain⟨rfl,hm⟩:=ie h
  cases hm
  refine⟨fun hr=>?_,fun i hi=>by simp [SP.sv,SV.boxes] at hi⟩
  rcases hr with hr |⟨b,o,cap,cs,e,fr,h1,h2,h3,h4⟩
  ·exact .inl hr
  ·exact .inr ⟨b,o,cap,cs,h1,h2,.inl ⟨e,fr,h3⟩,h4⟩
 ·cases h;exact⟨fun hr=>.inl ⟨rfl,none,0,hr⟩,fun i hi=>by simp [SP.sv,SV.boxes] at hi⟩
 ·obtain⟨rfl,hm⟩:=ie h
  cases hm;exact⟨fun hr=>hr,fun _ hi=>hi⟩
 ·cases h;exact⟨fun hr=>.inl ⟨rfl,none,0,hr⟩,fun i hi=>by simp [SP.sv,SV.boxes] at hi⟩
 ·rename_i i ek j sz m
  cases hc:Nat.beq i j&&Nat.beq sz ek.length with
  |false=>rw [hc] at h;cases h
  |true=>
   rw [hc] at h;cases h
   simp only [ZB0] at hc
   have h1:i=j:=by simpa using hc.1
   have h2:sz=ek.length:=by simpa using hc.2
   subst h1;subst h2
   exact⟨fun hr=>hr,fun _ hi=>hi⟩
 ·cases h
abbrev pC.Ty:List SP→Type
 |[]=>Unit
 |[p]=>p.Ty
 |p::q::l=>p.Ty×pC.Ty (q::l)
def pC.A5:(l:List SP)→pC.Ty l→List SV
 |[],_=>[]
 |[p],x=>[p.sv x]
 |p::q::l,x=>p.sv x.1::pC.A5 (q::l) x.2
def pC.parse:(l:List SP)→List SV→Option (pC.Ty l)
 |[],[]=>some ()
 |[p],[x]=>p.parse x
 |p::q::l,x::m=>match p.parse x,pC.parse (q::l) m with
  |some v,some r=>some (v,r)
  |_,_=>none
 |_,_=>none
theorem pC.eP {T:bc}{β:Nat→Nat}:∀{l:List SP}{m:List SV}{v:pC.Ty l},pC.parse l m=some v→(∀{ys:List Value},dO T β m ys→dO T β (pC.A5 l v) ys)∧∀i∈cg (pC.A5 l v),i∈cg m
 |[],[],_,_=>⟨fun h=>h,fun i hi=>hi⟩
 |[],_::_,_,h=>by simp [pC.parse] at h
 |[p],[],_,h=>by simp [pC.parse] at h
 |[p],[x],v,h=>by
  have:=SP.eP (T:=T) (β:=β) (p:=p) h
  refine⟨fun {ys} h'=>?_,fun i hi=>?_⟩
  ·match ys,h' with
   |[y],h'=>exact⟨this.1 h'.1,trivial⟩
  ·simp only [pC.A5,cg,ZE4] at hi ⊢
   exact this.2 i hi
 |[p],_::_::_,v,h=>by simp [pC.parse] at h
 |p::q::l,[],v,h=>by simp [pC.parse] at h
 |p::q::l,x::m,v,h=>by
  simp only [pC.parse] at h
  split at h
  ·rename_i v1 r1 h1 h2
   cases h
   have g1:=SP.eP (T:=T) (β:=β) h1
   have g2:=pC.eP (T:=T) (β:=β) (l:=q::l) h2
   refine⟨fun {ys} h'=>?_,fun i hi=>?_⟩
   ·match ys,h' with
    |y::ys,h'=>exact⟨g1.1 h'.1,g2.1 h'.2⟩
   ·simp only [pC.A5,cg,ZB5] at hi ⊢
    rcases hi with hi |hi
    ·exact .inl (g1.2 i hi)
    ·exact .inr (g2.2 i hi)
  ·cases h
inductive AP where
 |s (p:SP)
 |a (l:List SP)
 |b (i:Nat)
 |r (ek:EK)
 |fn (f:Nat) (is:List Nat)
 |vs (l:List SP)
abbrev AP.Ty:AP→Type
 |.s p=>p.Ty
 |.a l=>pC.Ty l
 |.b _=>Unit
 |.r ek=>List (EK.Ty ek)
 |.fn _ _=>Unit
 |.vs l=>pC.Ty l
def SP.cv:(p:SP)→p.Ty→CV
 |.int,n=>.v (.int .i64 n)
 |.byte,n=>.v (.int .u8 n)
 |.str,s=>.v (.string s)
 |.bool,b=>.q b
 |.vz ek,l=>.vz ek l
 |_,_=>.v undef
def SP.LH:SP→Bool
 |.int=>true
 |.byte=>true
 |.str=>true
 |.bool=>true
 |.vz _=>true
 |_=>false
def pC.LH:List SP→Bool
 |[]=>true
 |p::l=>p.LH&&pC.LH l
def pC.cvl:(l:List SP)→pC.Ty l→List CV
 |[],_=>[]
 |[p],x=>[p.cv x]
 |p::q::l,x=>p.cv x.1::pC.cvl (q::l) x.2
theorem SP.JY {T:bc}{β:Nat→Nat}{p:SP}(h:p.LH=true) {x:p.Ty}{v:Value}(hr:(p.sv x).rel T β v):(p.cv x).rel T v:=by
 cases p<;>first|exact hr|cases h
theorem pC.JY {T:bc}{β:Nat→Nat}:∀{l:List SP},pC.LH l=true→∀{x:pC.Ty l}{vs:List Value},dO T β (pC.A5 l x) vs→xu T (pC.cvl l x) vs
 |[],_,_,vs,hr=>by cases vs<;>first|trivial|exact hr.elim
 |[p],h,x,vs,hr=>by
  simp only [pC.LH,ZB0] at h
  match vs,hr with
  |[v],hr=>exact⟨SP.JY h.1 hr.1,trivial⟩
  |_::_::_,hr=>exact hr.2.elim
 |p::q::l,h,x,vs,hr=>by
  simp only [pC.LH,ZB0] at h
  match vs,hr with
  |v::vs,hr=>exact⟨SP.JY h.1 hr.1,pC.JY (l:=q::l) (by simp [pC.LH,h.2]) hr.2⟩
def zc:List Nat→List (Nat×Nat)
 |[]=>[]
 |i::l=>(i,0)::zc l
def afv:List Nat→List (Nat×Nat)→Bool
 |[],[]=>true
 |i::l,p::m=>(Nat.beq i p.1&&Nat.beq 0 p.2)&&afv l m
 |_,_=>false
theorem aaL:∀{l:List Nat}{m:List (Nat×Nat)},afv l m=true→m=zc l
 |[],[],_=>rfl
 |[],_::_,h=>by cases h
 |_::_,[],h=>by cases h
 |i::l,(a,b)::m,h=>by
  simp only [afv,ZB0,Nat.beq_eq] at h
  obtain⟨⟨rfl,rfl⟩,h2⟩:=h
  rw [zc,aaL h2]
def AP.av:(p:AP)→p.Ty→AV
 |.s p,x=>.s (p.sv x)
 |.a l,x=>.a (pC.A5 l x)
 |.b i,_=>.s (.bp i 0)
 |.r ek,l=>.rs ek l
 |.fn f is,_=>.fn f (zc is)
 |.vs l,x=>.s (.vs (pC.cvl l x) 0)
def AP.parse:(p:AP)→AV→Option p.Ty
 |.s p,.o (.s x)=>p.parse x
 |.a l,.o (.a m)=>pC.parse l m
 |.b i,.o (.s (.bp j 0))=>bif Nat.beq i j then some () else none
 |.r ek,.rs mE l=>rN mE ek l
 |.fn f is,.fn f' l=>bif Nat.beq f f'&&afv is l then some () else none
 |.vs l,.o (.s (.vs m 0))=>bif pC.LH l then pC.parse l (cvs m) else none
 |_,_=>none
theorem AP.eP {T:bc}{β:Nat→Nat}{p:AP}{x:AV}{v:p.Ty}(h:p.parse x=some v):(∀{y:Value},x.rel T β y→(p.av v).rel T β y)∧(∀{cs:Array Value},x.rZ T β cs→(p.av v).rZ T β cs)∧∀i∈(p.av v).boxes,i∈x.boxes:=by
 unfold AP.parse at h
 split at h
 ·rename_i q x'
  exact⟨fun hr=>(SP.eP h).1 hr,fun hc=>hc.elim,fun i hi=>(SP.eP (T:=T) (β:=β) h).2 i hi⟩
 ·rename_i l m
  refine⟨fun hr=>?_,fun hc=>?_,fun i hi=>?_⟩
  ·obtain⟨cs,e,hl⟩:=hr
   exact⟨cs,e,(pC.eP h).1 hl⟩
  ·exact (pC.eP h).1 hc
  ·exact (pC.eP (T:=T) (β:=β) h).2 i hi
 ·rename_i i j
  cases hb:Nat.beq i j with
  |false=>rw [hb] at h;cases h
  |true=>
   have:i=j:=by simpa using hb
   subst this
   exact⟨fun hr=>hr,fun hc=>hc.elim,fun k hk=>hk⟩
 ·rename_i ek mE l
  obtain⟨rfl,hm⟩:=ie h
  cases hm
  exact⟨fun hr=>hr,fun hc=>hc,fun k hk=>hk⟩
 ·rename_i f is f' l
  cases hb:Nat.beq f f'&&afv is l with
  |false=>rw [hb] at h;cases h
  |true=>
   simp only [ZB0,Nat.beq_eq] at hb
   obtain⟨rfl,h2⟩:=hb
   rw [aaL h2]
   exact⟨fun hr=>hr,fun hc=>hc.elim,fun k hk=>hk⟩
 ·rename_i l m
  cases hb:pC.LH l with
  |false=>rw [hb] at h;cases h
  |true=>
   rw [hb] at h
   have h':pC.parse l (cvs m)=some v:=h
   refine⟨fun hr=>?_,fun hc=>hc.elim,fun k hk=>by simp [AP.av,AV.boxes,A0.boxes,SV.boxes] at hk⟩
   obtain⟨b,cs,e,h1,h2⟩:=hr
   exact⟨b,cs,e,h1,pC.JY (β:=β) hb ((pC.eP h').1 (zC h2))⟩
 ·cases h
abbrev APs.Ty:List AP→Type
 |[]=>Unit
 |[p]=>p.Ty
 |p::q::l=>p.Ty×APs.Ty (q::l)
def APs.gh:(l:List AP)→APs.Ty l→List AV
 |[],_=>[]
 |[p],x=>[p.av x]
 |p::q::l,x=>p.av x.1::APs.gh (q::l) x.2
def APs.parse:(l:List AP)→List AV→Option (APs.Ty l)
 |[],[]=>some ()
 |[p],[x]=>p.parse x
 |p::q::l,x::m=>match p.parse x,APs.parse (q::l) m with
  |some v,some r=>some (v,r)
  |_,_=>none
 |_,_=>none
theorem APs.fF:∀(l:List AP) (v:APs.Ty l),(APs.gh l v).length=l.length
 |[],_=>rfl
 |[_],_=>rfl
 |p::q::l,v=>by simp [APs.gh,APs.fF (q::l) v.2]
theorem APs.HP:∀{l:List AP}{m:List AV}{v:APs.Ty l},APs.parse l m=some v→m.length=l.length∧∀(i:Nat) (av:AV),(APs.gh l v)[i]?=some av→∃(p:AP) (x:AV) (u:p.Ty),m[i]?=some x∧p.parse x=some u∧av=p.av u
 |[],[],_,_=>⟨rfl,by simp [APs.gh]⟩
 |[],_::_,_,h=>by simp [APs.parse] at h
 |[p],[],_,h=>by simp [APs.parse] at h
 |[p],[x],v,h=>by
  refine⟨rfl,fun i av hi=>?_⟩
  cases i with
  |zero=>
   have:p.av v=av:=by simpa [APs.gh] using hi
   exact⟨p,x,v,rfl,h,this.symm⟩
  |succ i=>simp [APs.gh] at hi
 |[p],_::_::_,v,h=>by simp [APs.parse] at h
 |p::q::l,[],v,h=>by simp [APs.parse] at h
 |p::q::l,x::m,v,h=>by
  simp only [APs.parse] at h
  split at h
  ·rename_i v1 r1 h1 h2
   cases h
   obtain⟨g1,g2⟩:=APs.HP (l:=q::l) h2
   refine⟨by simp at g1 ⊢;exact g1,fun i av hi=>?_⟩
   cases i with
   |zero=>
    have:p.av v1=av:=by simpa [APs.gh] using hi
    exact⟨p,x,v1,rfl,h1,this.symm⟩
   |succ i=>
    simp only [APs.gh,List.getElem?_cons_succ] at hi
    obtain⟨p',x',u,g3,g4,g5⟩:=g2 i av hi
    exact⟨p',x',u,by simpa using g3,g4,g5⟩
  ·cases h
structure Con where
 A:List AP
 B:List AP
 pre:APs.Ty A→APs.Ty B→Prop
 α:APs.Ty A→APs.Ty B→Type
 φ:∀x y,α x y→Prop
 r:∀x y,α x y→AV
 o:∀x y,α x y→List AV
 nf:Nat
 mv:Bool:=false
 ro:Bool:=false
def wx (P:Program) (f:FuncId) (c:Con):Prop:=
 ∀x y,c.pre x y→TC P f c.mv (APs.gh c.A x) (APs.gh c.B y) (fun r os=>∃z,c.φ x y z∧r=c.r x y z∧os=c.o x y z∧os.length=c.B.length+c.nf)
end GL
end Go.Proofs.YtbfgjadbfjkcdaaGreatDoor
