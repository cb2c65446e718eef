/- FnTreeOk returns true for every code (its row lists package variables, tied by the card): part 7 of 39. -/
import Derived.Test.YtbfgjadbfjkcdaaGreatDoorPaf
set_option maxHeartbeats 20000000
set_option linter.all false
namespace Go.Proofs.YtbfgjadbfjkcdaaGreatDoor
namespace GL
section
variable {P:Program} {N:Nat} {τ:St}
variable {d:Nat} {x y z:Operand} {t u ty:TypeId} {pos:String} {af:Array Edge} {g:Option (Nat×Bool)}
def Rd (w:World) (v:Value) (ek:EK) (l:List (EK.Ty ek)):Prop:=
 (l=[]∧∃p cap,v= .slice p 0 cap)∨∃b o cap cs e fr,v= .slice (some ⟨b,o,none⟩) l.length cap∧w.heap[b]?=some (.cells cs e fr)∧win cs o (flat ek l)
theorem Rd.cells {w:World} {ek:EK} {b o:Nat} {cs:Array Value} {e:TypeId} {fr:Nat×Nat} {l:List Value} (hb:w.heap[b]?=some (.cells cs e fr)) (hw:win cs o l):∀j v,l[j]?=some v→w.cell? ((⟨b,o,none⟩:Addr).add j)=some v:=by
 intro j v hj
 rw [fS,rh hb]
 exact hw j v hj
theorem rW {ek:EK} {iV:Nat} (hf:Fits P t ek iV) (w:World) {p p2:Option Addr} {m cap c2:Nat} (hm:m≤cap) (hp:p=none→cap=0):(Builtin.append_ #[t,t] ty #[.slice p m cap, .slice p2 0 c2]).run P w= .ok (.slice p m cap) w:=by
 obtain ⟨e,i,z,ht,hi,hz,db,hby,hzs⟩:=jQ hf.info
 have h2:(Builtin.firstCells i.size 0 (.slice p2 0 c2)).run P w= .ok #[] w:=by
  cases p2 with
  |none=>simp [Builtin.firstCells]
  |some b=>exact run_firstCells_some (P:=P) w i.size 0 b 0 c2 [] (by simp) (by simp)
 cases p with
 |none=>
  have hc:=hp rfl
  subst hc
  have CQ:m=0:=by omega
  subst CQ
  simp [Builtin.append_,run_underlying ht,sizeOf,typeInfo,hi,Builtin.lenOf,h2]
 |some a=>
  simp [Builtin.append_,run_underlying ht,sizeOf,typeInfo,hi,Builtin.lenOf,h2,hm,storeCells]
theorem Q4 {ek:EK} {iV:Nat} (hf:Fits P t ek iV) {w:World} {b o m cap:Nat} {cs:Array Value} {e':TypeId} {fr:Nat×Nat} (hb:w.heap[b]?=some (.cells cs e' fr)) (j6:free fr cs.size) {l2:List (EK.Ty ek)} {y2:Value} (h2:Rd w y2 ek l2) (fq:l2≠[]) (n0:m+l2.length≤cap) (akK:o+(m+l2.length) * ek.length≤cs.size):
  ∃w',(Builtin.append_ #[t,t] ty #[.slice (some ⟨b,o,none⟩) m cap,y2]).run P w= .ok (.slice (some ⟨b,o,none⟩) (m+l2.length) cap) w'∧QB w b (.cells (spl cs (o+m * ek.length) (flat ek l2)) e' fr) w':=by
 obtain ⟨e,i,z,ht,hi,hz,db,hby,hzs⟩:=jQ hf.info
 rcases h2 with ⟨h,_⟩ |⟨b2,o2,c2,cs2,e2,fr2,rfl,hb2,hw2⟩
 ·exact absurd h fq
 ·have hfc:=run_firstCells_some (P:=P) w i.size l2.length ⟨b2,o2,none⟩ l2.length c2 (flat ek l2) (by rw [ct,db]) (Rd.cells (ek:=ek) hb2 hw2)
  obtain ⟨w',hst,hw⟩:=pq (P:=P) (b:=b) (off:=o+m * i.size) (flat ek l2) 0 cs w hb (by rw [ct,db,Nat.add_zero,Nat.add_assoc,←Nat.add_mul];exact akK) j6 (aeH ek l2)
  refine ⟨w',?_,by rw [Nat.add_zero,db] at hw;exact hw⟩
  simp [Builtin.append_,run_underlying ht,sizeOf,typeInfo,hi,Builtin.lenOf,n0,hfc,fS,hst]
theorem zr {ek:EK} {iV:Nat} (hf:Fits P t ek iV) {w:World} {p:Option Addr} {cap:Nat} {l1:List (EK.Ty ek)} (h1:(l1=[]∧(p=none→cap=0))∨∃b o cs e' fr,p=some ⟨b,o,none⟩∧w.heap[b]?=some (.cells cs e' fr)∧win cs o (flat ek l1)) {l2:List (EK.Ty ek)} {y2:Value} (h2:Rd w y2 ek l2) (fq:l2≠[]) (n0:cap < l1.length+l2.length) (hle:l1.length+l2.length≤1048576):
  ∃w' xq zz cs e',(Builtin.append_ #[t,t] ty #[.slice p l1.length cap,y2]).run P w= .ok (.slice (some ⟨w.heap.size,0,none⟩) (l1.length+l2.length) xq) w'∧oG w (.cells cs e' (0,0)) w'∧cs.toList=flat ek (l1++l2++zz)∧(∀x∈zz,EK.ok ek x)∧xq=l1.length+l2.length+zz.length:=by
 obtain ⟨e,i,z,ht,hi,hz,db,hby,hzs⟩:=jQ hf.info
 have ajz:(l1.length+l2.length) * i.bytes≤140737488355328:=by
  have hs:=hf.small
  have:(l1.length+l2.length) * i.bytes≤1048576 * 1048576:=Nat.mul_le_mul hle (by rw [hby];exact hs)
  omega
 have hl2:0 < l2.length:=List.length_pos_iff.2 fq
 have hzz:∀k,(Builtin.zeroCells z.cells k).toList=flat ek (List.replicate k (EK.zero ek)):=fun k=>by
  have:=L2 hf.ne hzs k
  have hzl:z.cells.size=ek.length:=by rw [←Array.length_toList,hzs,EK.bF]
  unfold Builtin.zeroCells
  rw [hzl] at this ⊢
  exact this
 rcases h2 with ⟨h,_⟩ |⟨b2,o2,c2,cs2,e2,fr2,rfl,hb2,hw2⟩
 ·exact absurd h fq
 ·have aex:=Rd.cells (ek:=ek) hb2 hw2
  have fin:∀(pa:Addr),p=some pa→(∀j v,(flat ek l1)[j]?=some v→w.cell? (pa.add j)=some v)→∃w' xq zz cs e',(Builtin.append_ #[t,t] ty #[.slice p l1.length cap, .slice (some ⟨b2,o2,none⟩) l2.length c2]).run P w= .ok (.slice (some ⟨w.heap.size,0,none⟩) (l1.length+l2.length) xq) w'∧oG w (.cells cs e' (0,0)) w'∧cs.toList=flat ek (l1++l2++zz)∧(∀x∈zz,EK.ok ek x)∧xq=l1.length+l2.length+zz.length:=by
   intro pa hpa hc1
   subst hpa
   have TY:=growslice_fits (need:=l1.length+l2.length) (old:=cap) (bytes:=i.bytes) n0 ajz
   have fc:=run_append_grow (P:=P) (w:=w) t ty e i z ht hi hz pa l1.length cap (flat ek l1) (by rw [ct,db]) hc1 ⟨b2,o2,none⟩ l2.length c2 (flat ek l2) (by rw [ct,db]) aex n0 (by omega) TY
   have EU:l1.length+l2.length≤grownCap w (l1.length+l2.length) cap e:=by unfold grownCap;simp only [Question.cut];omega
   refine ⟨_,_,List.replicate (grownCap w (l1.length+l2.length) cap e - (l1.length+l2.length)) (EK.zero ek),_,e,fc,⟨rfl,rfl,rfl,rfl⟩,?_,fun x hx=>by rw [List.eq_of_mem_replicate hx];exact EK.sQ ek,by rw [List.length_replicate];omega⟩
   rw [Array.toList_append,Array.toList_append,hzz,gu,gu]
  rcases h1 with ⟨rfl,hp⟩ |⟨b,o,cs,e',fr,rfl,hb,hw⟩
  ·cases p with
   |none=>
    have hc:=hp rfl
    subst hc
    have fc:=run_append_nil (P:=P) (w:=w) t ty e i z ht hi hz ⟨b2,o2,none⟩ l2.length c2 (flat ek l2) (by rw [ct,db]) aex hl2 (by simp at hle;omega) (by simp at ajz;omega)
    have EU:l2.length≤grownCap w l2.length 0 e:=by unfold grownCap;simp only [Question.cut];omega
    refine ⟨w.drew.alloc (.cells ((flat ek l2).toArray++Builtin.zeroCells z.cells (grownCap w l2.length 0 e - l2.length)) e),grownCap w l2.length 0 e,List.replicate (grownCap w l2.length 0 e - l2.length) (EK.zero ek),_,e,by simpa using fc,⟨rfl,rfl,rfl,rfl⟩,?_,fun x hx=>by rw [List.eq_of_mem_replicate hx];exact EK.sQ ek,by simp;omega⟩
    rw [Array.toList_append,hzz,List.nil_append,gu]
   |some pa=>exact fin pa rfl (by simp [flat])
  ·exact fin _ rfl (Rd.cells (ek:=ek) hb hw)
def ahb {mx ek:EK} (h:mx=ek) (l:List (EK.Ty mx)):List (EK.Ty ek):=h ▸ l
theorem da {ek:EK} (h:ek=ek) (l:List (EK.Ty ek)):ahb h l=l:=rfl
def rB (mx ek:EK) (l:List (EK.Ty mx)):Option (List (EK.Ty ek)):=match h:EK.beq mx ek with
 |true=>some (ahb (EK.eq_of_beq h) l)
 |false=>none
theorem gV {mx ek:EK} {l:List (EK.Ty mx)} {m:List (EK.Ty ek)} (h:rB mx ek l=some m):mx=ek∧HEq l m:=by
 unfold rB at h
 split at h
 ·rename_i hb
  have he:=EK.eq_of_beq hb
  subst he
  cases h
  exact ⟨rfl,HEq.rfl⟩
 ·cases h
def G2 (pt:Bool) (ek:EK) (v:AV) (k:Prop→List (EK.Ty ek)→Q Rs):Q Rs:=
 match v with
 | .o (.s (.vw mx l))=>match rB mx ek l with
  |some m=>k True m
  |none=>.ret .no
 | .o (.s (.vz mx l))=>match rB mx ek l with
  |some m=>k True m
  |none=>.ret .no
 | .o (.s (.xs j sz o m))=>sN j fun
  | .rs mx l=>match rB mx ek l with
   |some l=>bif Nat.beq sz ek.length then (match pt with
    |true=>k (o+m≤l.length) ((l.drop o).take m)
    |false=>k (o=0∧m=l.length) l) else .ret .no
   |none=>.ret .no
  |_=>.ret .no
 | .o (.s (.v (.slice none 0 0)))=>k True []
 |_=>.ret .no
theorem wC {pt:Bool} {c:Ctx} {T:a7} {β:Nat→Nat} {a:Act} {w:World} (hh:Holds N c T β τ a w) {ek:EK} {v:AV} {y:Value} (hr:v.rel T β y) {k:Prop→List (EK.Ty ek)→Q Rs} (hp:((G2 pt ek v k).run τ).pre):
  ∃(p:Prop) (l:List (EK.Ty ek)),(G2 pt ek v k).run τ=(k p l).run τ∧(p→Rd w y ek l):=by
 unfold G2 at hp ⊢
 split at hp
 ·rename_i mx l
  split at hp
  ·rename_i m h
   obtain ⟨rfl,hm⟩:=gV h
   cases hm
   refine ⟨True,l,rfl,fun _=>?_⟩
   rcases hr with ⟨rfl,p,cap,rfl⟩ |⟨b,o,cap,cs,e,fr,h1,h2,h3,h4⟩
   ·exact .inl ⟨rfl,p,cap,rfl⟩
   ·exact .inr ⟨b,o,cap,cs,e,fr,h1,hh.typed b _ h3,h4⟩
  ·exact hp.elim
 ·rename_i mx l
  split at hp
  ·rename_i m h
   obtain ⟨rfl,hm⟩:=gV h
   cases hm
   refine ⟨True,l,rfl,fun _=>?_⟩
   rcases hr with ⟨rfl,p,cap,rfl⟩ |⟨b,o,cap,cs,h1,h2,h3,h4⟩
   ·exact .inl ⟨rfl,p,cap,rfl⟩
   ·obtain ⟨e,fr,hb⟩:=E6 hh.typed h3
    exact .inr ⟨b,o,cap,cs,e,fr,h1,hb,h4⟩
  ·exact hp.elim
 ·rename_i j sz o m
  simp only [sN,Q.run] at hp ⊢
  cases hb:τ (.b j) with
  |none=>rw [hb] at hp;exact hp.elim
  |some av=>
   rw [hb] at hp
   simp only at hp ⊢
   split at hp
   ·rename_i mx l
    split at hp
    ·rename_i m' h
     obtain ⟨rfl,hm⟩:=gV h
     cases hm
     cases hc:Nat.beq sz mx.length with
     |false=>rw [hc] at hp;exact hp.elim
     |true=>
      have db:sz=mx.length:=by simpa using hc
      subst db
      obtain ⟨cs,te,j7,_,z,I2,_⟩:=hh.boxes j _ hb (by intro e;cases e)
      cases pt with
      |true=>
       refine ⟨o+m≤l.length,(l.drop o).take m,rfl,fun hle=>?_⟩
       have hlen:((l.drop o).take m).length=m:=by simp;omega
       rcases hr with ⟨rfl,p,rfl⟩ |⟨cap,n,rfl,_⟩
       ·exact .inl ⟨by simp,p,0,rfl⟩
       ·exact .inr ⟨β j,o * mx.length,cap,cs,te,(0,0),by rw [hlen],j7,AZ I2 o m⟩
      |false=>
       refine ⟨o=0∧m=l.length,l,rfl,fun hle=>?_⟩
       obtain ⟨rfl,rfl⟩:=hle
       rcases hr with ⟨ze,p,rfl⟩ |⟨cap,n,rfl,_⟩
       ·exact .inl ⟨List.length_eq_zero_iff.1 ze,p,0,rfl⟩
       ·exact .inr ⟨β j,0 * mx.length,cap,cs,te,(0,0),rfl,j7,by have:=AZ I2 0 l.length;simpa using this⟩
    ·exact hp.elim
   ·exact hp.elim
 ·exact ⟨True,[],rfl,fun _=>.inl ⟨rfl,none,0,hr⟩⟩
 ·exact hp.elim
def yD (i d:Nat):Nat:=bif Nat.ble 1000 i&&Nat.blt i 1000000000 then 1000+d else 1000000000+d
theorem abN (i d:Nat):1000≤yD i d∧(1000000000≤yD i d∨(1000≤i∧i < 1000000000)):=by
 unfold yD
 cases hc:Nat.ble 1000 i&&Nat.blt i 1000000000 with
 |false=>simp only [cond_false];omega
 |true=>
  simp only [Bool.and_eq_true] at hc
  have h1:=cH hc.1
  have h2:i < 1000000000:=cH hc.2
  simp only [cond_true];omega
def aiv (pt:Bool) (d:Nat) (ek:EK) (v u:AV):Q Rs:=
 match v with
 | .o (.s (.xs i sz 0 m))=>bif Nat.beq sz ek.length then sN i fun
  | .rs mx l=>match rB mx ek l with
   |some l=>G2 pt ek u fun p l2=>.ask (.b (yD i d)) fun
    |none=>.ret (.mZ ((m=l.length∧l.length+l2.length≤1048576)∧p) [(.s d, .s (.xs (yD i d) ek.length 0 (l.length+l2.length))),(.b (yD i d), .rs ek (l++l2)),(.b i, .zz)])
    |some _=>.ret .no
   |none=>.ret .no
  |_=>.ret .no else .ret .no
 | .o (.s (.v (.slice none 0 0)))=>G2 pt ek u fun p l2=>.ask (.b (1000+d)) fun
  |none=>.ret (.mZ ((0 < l2.length∧l2.length≤1048576)∧p) [(.s d, .s (.xs (1000+d) ek.length 0 l2.length)),(.b (1000+d), .rs ek l2)])
  |some _=>.ret .no
 |_=>.ret .no
theorem KF {a:Act} {w:World} {v1 v2:Value} (h1:a.eval x=v1) (h2:a.eval y=v2) {v:Value} {w':World} (hr:(Builtin.append_ #[t,t] ty #[v1,v2]).run P w= .ok v w'):(execOp a.eval ⟨some d, .call ⟨.builtin .append,#[x,y],#[t,t]⟩,ty,pos,af,g⟩).run P w= .ok (.value v) w':=by
 simp [execOp,resolve,invoke,builtin,h1,h2,hr]
theorem ait {pt:Bool} {ek:EK} {iV:Nat} (hf:Fits P t ek iV) (hd:d < N):fk P N ⟨some d, .call ⟨.builtin .append,#[x,y],#[t,t]⟩,ty,pos,af,g⟩ (bR x fun v=>bR y fun u=>aiv pt d ek v u):=by
 intro c τ a w hr hp K Q' hK
 obtain ⟨T,β,hh⟩:=hr
 rw [cX] at hp hK
 cases hx:ev τ x with
 |none=>rw [hx] at hp;exact hp.elim
 |some v=>
  rw [hx] at hp hK
  simp only [cX] at hp hK
  cases hy:ev τ y with
  |none=>rw [hy] at hp;exact hp.elim
  |some u=>
   rw [hy] at hp hK
   simp only at hp hK
   have hv:=eK hh hx
   have hu:=eK hh hy
   unfold aiv at hp hK
   split at hp
   ·rename_i i sz m
    simp only at hK
    obtain ⟨aek,ahU⟩:=abN i d
    generalize yD i d=nm at hp hK aek ahU
    cases hc:Nat.beq sz ek.length with
    |false=>rw [hc] at hp;exact hp.elim
    |true=>
     rw [hc] at hp hK
     simp only [cond_true,sN,Q.run] at hp hK
     have db:sz=ek.length:=by simpa using hc
     subst db
     cases hb:τ (.b i) with
     |none=>rw [hb] at hp;exact hp.elim
     |some av=>
      rw [hb] at hp hK
      simp only at hp hK
      split at hp
      ·rename_i mx l
       split at hp
       ·rename_i m0 h
        obtain ⟨rfl,CQ⟩:=gV h
        cases CQ
        simp only [h] at hK
        obtain ⟨p,l2,fc,hRd⟩:=wC hh hu hp
        have hp':=hp
        rw [fc] at hp'
        simp only [Q.run] at hp'
        cases hn:τ (.b nm) with
        |some _=>rw [hn] at hp';exact hp'.elim
        |none=>
         rw [hn] at hp'
         obtain ⟨⟨hm,hle⟩,hpp⟩:(m=l.length∧l.length+l2.length≤1048576)∧p:=hp'
         subst hm
         have hR:=hRd hpp
         have hid:i≠nm:=fun e=>by rw [e,hn] at hb;cases hb
         have FH:live τ i:=ey hb (by intro e;cases e)
         obtain ⟨cs,te,j7,fq,zz,I2,hzz⟩:=hh.boxes i _ hb (by intro e;cases e)
         have fin:∀ {w':World} {val:Value} {T':a7} {β':Nat→Nat},(Builtin.append_ #[t,t] ty #[a.eval x,a.eval y]).run P w= .ok val w'→Holds N c T' β' ((τ.ap [(.b i, .zz)]).ap [(.b nm, .rs mx (l++l2))]) a w'→(SV.xs nm mx.length 0 (l.length+l2.length)).rel T' β' val→Oper.wp P ⟨some d, .call ⟨.builtin .append,#[x,y],#[t,t]⟩,ty,pos,af,g⟩ a w K Q':=by
          intro w' val T' β' zS hh' cV
          unfold Oper.wp
          rw [KF rfl rfl zS]
          show K (a.put (some d) val) w'
          refine hK [(.s d, .s (.xs nm mx.length 0 (l.length+l2.length))),(.b nm, .rs mx (l++l2)),(.b i, .zz)] _ _ ?_ ⟨_,_,hh'.put hd (av:=.s (.xs nm mx.length 0 (l.length+l2.length))) cV (by simp [AV.boxes,A0.boxes,SV.boxes,ui])⟩
          rw [fc]
          simp only [Q.run,hn]
          rfl
         by_cases h2:l2=[]
         ·
          subst h2
          have h0:(Builtin.append_ #[t,t] ty #[a.eval x,a.eval y]).run P w= .ok (a.eval x) w:=by
           rcases hR with ⟨_,p2,c2,e2⟩ |⟨b2,o2,c2,_,_,_,e2,_⟩
           ·rcases hv with ⟨ze,p1,e1⟩ |⟨cap,n,e1,hmc,_⟩
            ·rw [e1,e2];exact rW hf w (Nat.le_refl _) (fun _=>rfl)
            ·rw [e1,e2];exact rW hf w hmc (by simp)
           ·rcases hv with ⟨ze,p1,e1⟩ |⟨cap,n,e1,hmc,_⟩
            ·rw [e1,e2];exact rW hf w (Nat.le_refl _) (fun _=>rfl)
            ·rw [e1,e2];exact rW hf w hmc (by simp)
          have hmv:=hh.S3 (i:=i) (d:=nm) aek ahU hn (av:=.rs mx (l++[])) FH j7 (w':=w) ⟨j7,fun _ _=>rfl,rfl,rfl,rfl,rfl⟩ rfl ⟨fq,zz,by simpa using I2,hzz⟩ rfl
          refine fin h0 hmv ?_
          rcases hv with ⟨ze,p1,e1⟩ |⟨cap,n,e1,hmc,hT,hcn⟩
          ·exact .inl ⟨by simpa using ze,p1,e1⟩
          ·refine .inr ⟨cap,n,?_,by simpa using hmc,?_,hcn⟩
           ·rw [e1];unfold oo;rw [if_pos rfl];simp
           ·unfold oo;rw [if_pos rfl];exact hT
         ·rcases hv with ⟨ze,p1,e1⟩ |⟨cap,n,e1,hmc,hT,hcn⟩
          ·
           have hl:l=[]:=List.length_eq_zero_iff.1 ze
           subst hl
           obtain ⟨w',xq,z',mg,e',zS,hpu,TX,hz',D3⟩:=zr (ty:=ty) hf (p:=p1) (cap:=0) (l1:=[]) (.inl ⟨rfl,fun _=>rfl⟩) hR h2 (by have:=List.length_pos_iff.2 h2;simpa using this) (by simpa using hle)
           have h3:=(hh.kill (i:=i)).tB (d:=nm) aek (by rw [ui,if_neg (by simp;exact fun h=>hid h.symm)];exact hn) (av:=.rs mx ([]++l2)) hpu ⟨fq,z',TX,hz'⟩ (by simp [AV.boxes])
           refine fin (by rw [e1];exact zS) h3 (.inr ⟨xq,mg.size,?_,by rw [D3];omega,?_,?_⟩)
           ·unfold oo;rw [if_pos rfl,Nat.zero_mul]
           ·unfold oo xi;rw [if_pos rfl,if_pos rfl]
           ·rw [←Array.length_toList,TX,ct];simp [D3]
          ·rw [Nat.zero_mul] at e1
           have hnn:=hh.Y4 hT j7
           by_cases n0:l.length+l2.length≤cap
           ·
            have EU:(l.length+l2.length) * mx.length≤cap * mx.length:=Nat.mul_le_mul_right _ n0
            rw [Nat.zero_add] at hcn
            obtain ⟨w',zS,hw⟩:=Q4 (ty:=ty) hf (b:=β i) (o:=0) (m:=l.length) (cap:=cap) j7 (I5 _) hR h2 n0 (by rw [Nat.zero_add];omega)
            rw [Nat.zero_add] at hw
            have hzl:(l++zz).length * mx.length=cs.size:=by rw [←ct,←I2,Array.length_toList]
            have al1:l2.length≤zz.length:=by
             have h1:(l.length+l2.length) * mx.length≤(l++zz).length * mx.length:=by omega
             have h2:=Nat.le_of_mul_le_mul_right h1 (List.length_pos_iff.2 fq)
             simp at h2;omega
            have akL:(spl cs (l.length * mx.length) (flat mx l2)).toList=flat mx (l++l2++zz.drop l2.length):=by
             have e2:(l++zz).take l.length=l:=by simp
             have e3:(l++zz).drop (l.length+l2.length)=zz.drop l2.length:=by rw [List.drop_length_add_append]
             rw [mC _ _ _ (by rw [ct,←Nat.add_mul];omega),I2,ct,←Nat.add_mul,mX,o7,e2,e3,gu,gu]
            have hmv:=hh.S3 (i:=i) (d:=nm) aek ahU hn (av:=.rs mx (l++l2)) FH j7 hw (nE _ _ _) ⟨fq,zz.drop l2.length,akL,fun x hx=>hzz x (List.mem_of_mem_drop hx)⟩ rfl
            refine fin (by rw [e1];exact zS) hmv (.inr ⟨cap,n,?_,n0,?_,by rw [Nat.zero_add];exact hcn⟩)
            ·unfold oo;rw [if_pos rfl,Nat.zero_mul]
            ·unfold oo;rw [if_pos rfl];exact hT
           ·obtain ⟨w',xq,z',mg,e',zS,hpu,TX,hz',D3⟩:=zr (ty:=ty) hf (p:=some ⟨β i,0,none⟩) (cap:=cap) (l1:=l) (.inr ⟨β i,0,cs,te,(0,0),rfl,j7,UZ I2⟩) hR h2 (by omega) hle
            have h3:=(hh.kill (i:=i)).tB (d:=nm) aek (by rw [ui,if_neg (by simp;exact fun h=>hid h.symm)];exact hn) (av:=.rs mx (l++l2)) hpu ⟨fq,z',TX,hz'⟩ (by simp [AV.boxes])
            refine fin (by rw [e1];exact zS) h3 (.inr ⟨xq,mg.size,?_,by rw [D3];omega,?_,?_⟩)
            ·unfold oo;rw [if_pos rfl,Nat.zero_mul]
            ·unfold oo xi;rw [if_pos rfl,if_pos rfl]
            ·rw [←Array.length_toList,TX,ct];simp [D3,Nat.add_assoc]
       ·exact hp.elim
      ·exact hp.elim
   ·simp only at hK
    obtain ⟨p,l2,fc,hRd⟩:=wC hh hu hp
    have hp':=hp
    rw [fc] at hp' hK
    simp only [Q.run] at hp' hK
    cases hn:τ (.b (1000+d)) with
    |some _=>rw [hn] at hp';exact hp'.elim
    |none=>
     rw [hn] at hp' hK
     obtain ⟨⟨hm,hle⟩,hpp⟩:(0 < l2.length∧l2.length≤1048576)∧p:=hp'
     have hR:=hRd hpp
     have e1:a.eval x= .slice none 0 0:=hv
     obtain ⟨w',xq,z',mg,e',zS,hpu,TX,hz',D3⟩:=zr (ty:=ty) hf (p:=none) (cap:=0) (l1:=[]) (.inl ⟨rfl,fun _=>rfl⟩) hR (List.length_pos_iff.1 hm) (by simpa using hm) (by simpa using hle)
     have h3:=hh.tB (d:=1000+d) (by omega) hn (av:=.rs ek l2) hpu ⟨hf.ne,z',by simpa using TX,hz'⟩ (by simp [AV.boxes])
     unfold Oper.wp
     rw [KF (x:=x) (y:=y) e1 rfl zS]
     refine hK _ _ _ rfl ⟨_,_,h3.put hd (av:=.s (.xs (1000+d) ek.length 0 l2.length)) (.inr ⟨xq,mg.size,?_,by rw [D3];simp,?_,?_⟩) (by simp [AV.boxes,A0.boxes,SV.boxes,ui])⟩
     ·unfold oo;rw [if_pos rfl,Nat.zero_mul];simp
     ·unfold oo xi;rw [if_pos rfl,if_pos rfl]
     ·rw [←Array.length_toList,TX,ct];simp [D3]
   ·exact hp.elim
end
end GL
namespace GL
section
variable {P:Program} {N:Nat} {τ:St}
variable {d:Nat} {x y z:Operand} {t u ty:TypeId} {pos:String} {af:Array Edge} {g:Option (Nat×Bool)}
def acp (ek:EK):SV→Option Nat
 | .sl mx n=>bif EK.beq mx ek then some n else none
 | .v (.slice none 0 0)=>some 0
 |_=>none
theorem wh {T:a7} {β:Nat→Nat} {ek:EK} {v:SV} {n:Nat} (h:acp ek v=some n) {y:Value} (hr:v.rel T β y):(SV.sl ek n).rel T β y:=by
 unfold acp at h
 split at h
 ·rename_i mx m
  cases hb:EK.beq mx ek with
  |false=>rw [hb] at h;cases h
  |true=>
   rw [hb] at h;cases h
   have he:=EK.eq_of_beq hb
   subst he
   exact hr
 ·cases h
  exact .inl ⟨rfl,none,hr⟩
 ·cases h
theorem Y3 {T:a7} {β:Nat→Nat} {w:World} (hT:WT T w) {ek:EK} {n:Nat} {y:Value} (hr:(SV.sl ek n).rel T β y):∃l:List (EK.Ty ek),l.length=n∧(∀x∈l,EK.ok ek x)∧Rd w y ek l:=by
 rcases hr with ⟨rfl,p,rfl⟩ |⟨b,o,cap,m,rfl,h2,h3,h4⟩
 ·exact ⟨[],rfl,by simp, .inl ⟨rfl,p,0,rfl⟩⟩
 ·obtain ⟨fq,cs,e,fr,l,hb,j6,l7⟩:=hT b _ h3
  have hlen:((l.drop o).take n).length=n:=by simp [l7.1];omega
  refine ⟨(l.drop o).take n,hlen,fun x hx=>l7.2.1 x (List.mem_of_mem_drop (List.mem_of_mem_take hx)), .inr ⟨b,o * ek.length,cap,cs,e,fr,by rw [hlen],hb,?_⟩⟩
  have:=wq (FX l7) o n
  rwa [Nat.zero_add] at this
def aiw (pt:Bool) (d:Nat) (ek:EK) (v u:AV):Q Rs:=
 match v,u with
 | .o (.s v'), .o (.s u')=>match acp ek v' with
  |some m=>match acp ek u' with
   |some n=>.ret (.mZ (m+n≤1048576) [(.s d, .s (.sl ek (m+n)))])
   |none=>G2 pt ek u fun p l2=>.ret (.mZ (m+l2.length≤1048576∧p∧SN ek l2) [(.s d, .s (.sl ek (m+l2.length)))])
  |none=>.ret .no
 |_,_=>.ret .no
theorem afB {ek:EK} {iV:Nat} (hf:Fits P t ek iV) {c:Ctx} {T:a7} {β:Nat→Nat} {a:Act} {w:World} (hh:Holds N c T β τ a w) {m:Nat} {v1 v2:Value} (h1:(SV.sl ek m).rel T β v1) {l2:List (EK.Ty ek)} (h2:Rd w v2 ek l2) (cq:∀x∈l2,EK.ok ek x) (hle:m+l2.length≤1048576):
  ∃val T' w',(Builtin.append_ #[t,t] ty #[v1,v2]).run P w= .ok val w'∧Holds N c T' β τ a w'∧(SV.sl ek (m+l2.length)).rel T' β val:=by
 by_cases hn:l2=[]
 ·subst hn
  have h0:(Builtin.append_ #[t,t] ty #[v1,v2]).run P w= .ok v1 w:=by
   have e2:∃p c2,v2= .slice p 0 c2:=by
    rcases h2 with ⟨_,p,c2,e⟩ |⟨b,o,c2,_,_,_,e,_⟩
    ·exact ⟨p,c2,e⟩
    ·exact ⟨_,c2,e⟩
   obtain ⟨p2,c2,rfl⟩:=e2
   rcases h1 with ⟨rfl,p,rfl⟩ |⟨b,o,cap,n,rfl,hmc,_,_⟩
   ·exact rW hf w (Nat.le_refl _) (fun _=>rfl)
   ·exact rW hf w hmc (by simp)
  exact ⟨v1,T,w,h0,hh,h1⟩
 ·have grow:∀ {p:Option Addr} {cap:Nat} {l1:List (EK.Ty ek)},v1= .slice p l1.length cap→l1.length=m→(∀x∈l1,EK.ok ek x)→((l1=[]∧(p=none→cap=0))∨∃b o cs e' fr,p=some ⟨b,o,none⟩∧w.heap[b]?=some (.cells cs e' fr)∧win cs o (flat ek l1))→cap < m+l2.length→
    ∃val T' w',(Builtin.append_ #[t,t] ty #[v1,v2]).run P w= .ok val w'∧Holds N c T' β τ a w'∧(SV.sl ek (m+l2.length)).rel T' β val:=by
   intro p cap l1 e1 hl1 akQ hw1 bM
   subst e1;subst hl1
   obtain ⟨w',xq,zz,mg,e',fc,hpu,I2,hz,EU⟩:=zr (ty:=ty) hf hw1 h2 hn bM hle
   have h3:=hh.CA (k:=.ty ek xq) hpu ⟨hf.ne,mg,e',(0,0),l1++l2++zz,hpu.new,I5 _,by simp [EU,Nat.add_assoc],fun x hx=>by
    rcases List.mem_append.1 hx with h |h
    ·rcases List.mem_append.1 h with h |h
     ·exact akQ x h
     ·exact cq x h
    ·exact hz x h,I2⟩
   exact ⟨_,_,_,fc,h3, .inr ⟨w.heap.size,0,xq,xq,by rw [Nat.zero_mul],by omega,by unfold xi;rw [if_pos rfl],by omega⟩⟩
  have h1':=h1
  rcases h1 with ⟨rfl,p,rfl⟩ |⟨b,o,cap,n,rfl,hmc,hT,hon⟩
  ·exact grow (p:=p) (cap:=0) (l1:=[]) rfl rfl (by simp) (.inl ⟨rfl,fun _=>rfl⟩) (by have:=List.length_pos_iff.2 hn;omega)
  ·obtain ⟨fq,cs,e,fr,l,hb,j6,l7⟩:=hh.typed b _ hT
   by_cases n0:m+l2.length≤cap
   ·have db:cs.size=n * ek.length:=by rw [←Array.length_toList,l7.2.2,ct,l7.1]
    have hb1:(o+(m+l2.length)) * ek.length≤n * ek.length:=Nat.mul_le_mul_right _ (by omega)
    obtain ⟨w',fc,hw⟩:=Q4 (ty:=ty) hf (m:=m) (cap:=cap) hb j6 h2 hn n0 (by rw [db,←Nat.add_mul];exact hb1)
    have hm1:o * ek.length+m * ek.length=(o+m) * ek.length:=by rw [Nat.add_mul]
    rw [hm1] at hw
    have vF:(spl cs ((o+m) * ek.length) (flat ek l2)).toList=flat ek (l.take (o+m)++l2++l.drop (o+m+l2.length)):=by
     rw [mC _ _ _ (by rw [ct,←Nat.add_mul,db];exact Nat.mul_le_mul_right _ (by omega)),l7.2.2,ct,←Nat.add_mul,mX,o7,gu,gu]
    refine ⟨_,T,w',fc,hh.uQ hT hw (by rw [nE];exact j6) (l:=l.take (o+m)++l2++l.drop (o+m+l2.length)) ⟨?_,fun x hx=>?_,vF⟩, .inr ⟨b,o,cap,n,rfl,n0,hT,hon⟩⟩
    ·have:=l7.1;simp;omega
    ·rcases List.mem_append.1 hx with h |h
     ·rcases List.mem_append.1 h with h |h
      ·exact l7.2.1 x (List.mem_of_mem_take h)
      ·exact cq x h
     ·exact l7.2.1 x (List.mem_of_mem_drop h)
   ·have hlen:((l.drop o).take m).length=m:=by simp [l7.1];omega
    refine grow (p:=some ⟨b,o * ek.length,none⟩) (cap:=cap) (l1:=(l.drop o).take m) (by rw [hlen]) hlen (fun x hx=>l7.2.1 x (List.mem_of_mem_drop (List.mem_of_mem_take hx))) (.inr ⟨b,o * ek.length,cs,e,fr,rfl,hb,?_⟩) (by omega)
    have:=wq (FX l7) o m
    rwa [Nat.zero_add] at this
theorem aiu {pt:Bool} {ek:EK} {iV:Nat} (hf:Fits P t ek iV) (hd:d < N):fk P N ⟨some d, .call ⟨.builtin .append,#[x,y],#[t,t]⟩,ty,pos,af,g⟩ (bR x fun v=>bR y fun u=>aiw pt d ek v u):=by
 intro c τ a w hr hp K Q' hK
 obtain ⟨T,β,hh⟩:=hr
 rw [cX] at hp hK
 cases hx:ev τ x with
 |none=>rw [hx] at hp;exact hp.elim
 |some v=>
  rw [hx] at hp hK
  simp only [cX] at hp hK
  cases hy:ev τ y with
  |none=>rw [hy] at hp;exact hp.elim
  |some u=>
   rw [hy] at hp hK
   simp only at hp hK
   have hv:=eK hh hx
   have hu:=eK hh hy
   have fin:∀ {l2:List (EK.Ty ek)} {m:Nat},(SV.sl ek m).rel T β (a.eval x)→Rd w (a.eval y) ek l2→(∀x∈l2,EK.ok ek x)→m+l2.length≤1048576→(∀a' w',Rel N c (τ.ap [(.s d, .s (.sl ek (m+l2.length)))]) a' w'→K a' w')→Oper.wp P ⟨some d, .call ⟨.builtin .append,#[x,y],#[t,t]⟩,ty,pos,af,g⟩ a w K Q':=by
    intro l2 m h1 h2 cq hle hK
    obtain ⟨val,T',w',fc,hh',cV⟩:=afB (ty:=ty) hf hh h1 h2 cq hle
    unfold Oper.wp
    rw [KF (x:=x) (y:=y) rfl rfl fc]
    show K (a.put (some d) val) w'
    exact hK _ _ ⟨_,_,hh'.put hd (av:=.s (.sl ek (m+l2.length))) cV (by simp [AV.boxes,A0.boxes,SV.boxes])⟩
   unfold aiw at hp hK
   split at hp
   ·rename_i v' u'
    split at hp
    ·rename_i m hm
     simp only [hm] at hK
     split at hp
     ·rename_i n hn
      simp only [hn,Q.run] at hK
      obtain ⟨l2,hl2,cq,hRd⟩:=Y3 hh.typed (wh hn hu)
      subst hl2
      exact fin (wh hm hv) hRd cq hp (fun a' w' h=>hK _ _ _ rfl h)
     ·rename_i hn
      simp only [hn] at hK
      obtain ⟨p,l2,fc,hRd⟩:=wC hh hu hp
      rw [fc] at hp hK
      obtain ⟨h1,h2,h3⟩:m+l2.length≤1048576∧p∧SN ek l2:=hp
      exact fin (wh hm hv) (hRd h2) (B6 h3) h1 (fun a' w' h=>hK _ _ _ rfl h)
    ·exact hp.elim
   ·exact hp.elim
def ft (l:List Int):ByteArray:=l.foldl (fun r n=>r.push (UInt8.ofNat n.toNat)) ByteArray.empty
theorem nC:∀(l:List Int) (r:ByteArray),(l.foldl (fun r n=>r.push (UInt8.ofNat n.toNat)) r).size=r.size+l.length
 |[],r=>by simp
 |n::l,r=>by
  rw [List.foldl_cons,nC l]
  simp [ByteArray.size_push];omega
abbrev kE:EK:=[.u8]
theorem PS:∀l:List Int,flat kE l=l.map (Value.int .u8)
 |[]=>rfl
 |n::l=>by
  have:=PS l
  rw [iL,this];rfl
theorem acI {e:TypeId} (hs:P.underlying t=some (.slice e)) (he:P.underlying e=some (.int .u8)) (hd:P.underlying u=some .string) {w:World} {v:Value} {l:List Int} (h:Rd w v kE l):(convert t u v).run P w= .ok (.string (ft l)) w:=by
 rcases h with ⟨rfl,p,cap,rfl⟩ |⟨b,o,cap,cs,e',fr,rfl,hb,hw⟩
 ·rw [run_convert_bytes_string w t u e p 0 cap hs he hd]
  cases p with
  |none=>simp [Conv.bytesToString,ft]
  |some p=>
   rw [run_bytesToString (P:=P) w p 0 cap [] (by simp [loadCells,loadCellsFrom])]
   rfl
 ·rw [run_convert_bytes_string w t u e _ _ cap hs he hd]
  have h1:=run_loadCells_list (P:=P) w ⟨b,o,none⟩ (flat kE l) (Rd.cells (ek:=kE) hb hw)
  rw [ct,PS] at h1
  simp only [List.length_singleton,Nat.mul_one] at h1
  rw [run_bytesToString (P:=P) w ⟨b,o,none⟩ l.length cap l h1]
  rfl
def acB (pt:Bool) (d:Nat) (v:AV):Q Rs:=
 match v with
 | .o (.s v')=>match acp kE v' with
  |some n=>.ret (.ex True ByteArray (fun s=>s.size=n) [(.s d,fun s=>.str s)])
  |none=>G2 pt kE v fun p (l:List Int)=>.ret (.mZ p [(.s d, .str (ft l))])
 |_=>.ret .no
theorem aif {pt:Bool} {e:TypeId} (hs:P.underlying t=some (.slice e)) (he:P.underlying e=some (.int .u8)) (hu:P.underlying u=some .string) (hd:d < N):fk P N ⟨some d, .convert t u x,ty,pos,af,g⟩ (bR x fun v=>acB pt d v):=by
 intro c τ a w hr hp K Q' hK
 obtain ⟨T,β,hh⟩:=hr
 rw [cX] at hp hK
 cases hx:ev τ x with
 |none=>rw [hx] at hp;exact hp.elim
 |some v=>
  rw [hx] at hp hK
  simp only at hp hK
  have hv:=eK hh hx
  have hex:∀ {l:List Int},Rd w (a.eval x) kE l→(execOp a.eval ⟨some d, .convert t u x,ty,pos,af,g⟩).run P w= .ok (.value (.string (ft l))) w:=fun h=>by
   simp [execOp,acI hs he hu h]
  unfold acB at hp hK
  split at hp
  ·rename_i v'
   split at hp
   ·rename_i n hn
    simp only [hn] at hK
    obtain ⟨l,hl,cq,hRd⟩:=Y3 hh.typed (wh hn hv)
    have db:(ft l).size=n:=by
     have:=nC l ByteArray.empty
     unfold ft
     rw [this,←hl];simp
    exact fk.value (av:=.str (ft l)) hh rfl hd (hex hRd) rfl (by simp [AV.boxes,A0.boxes,SV.boxes]) (fun a' h=>hK _ _ _ ⟨_,db,rfl⟩ h)
   ·rename_i hn
    simp only [hn] at hK
    obtain ⟨p,l,fc,hRd⟩:=wC hh hv hp
    rw [fc] at hp hK
    exact fk.value (av:=.str (ft l)) hh rfl hd (hex (hRd hp)) rfl (by simp [AV.boxes,A0.boxes,SV.boxes]) (fun a' h=>hK _ _ _ rfl h)
  ·exact hp.elim
def acG (v:AV):V1:=
 match v with
 | .o (.s (.sl ek n))=>.mZ (0 < n) (.s (.sl ek n))
 |_=>.no
theorem aih {e:TypeId} (hs:P.underlying t=some (.slice e)) (he:P.underlying e=some (.int .u8)) (hd:d < N):fk P N ⟨some d, .convert t t x,ty,pos,af,g⟩ (bR x fun v=>.ret ((acG v).rs d)):=by
 intro c τ a w hr hp K Q' hK
 obtain ⟨T,β,hh⟩:=hr
 rw [cX] at hp hK
 cases hx:ev τ x with
 |none=>rw [hx] at hp;exact hp.elim
 |some v=>
  rw [hx] at hp hK
  simp only at hp hK
  have hv:=eK hh hx
  unfold acG at hp hK
  split at hp
  ·rename_i ek n
   simp only at hK
   rcases hv with ⟨rfl,p,e1⟩ |⟨b,o,cap,m,e1,h2,h3,h4⟩
   ·exact absurd (show 0 < 0 from hp) (by omega)
   ·obtain ⟨fq,cs,e',fr,l,hb,j6,l7⟩:=hh.typed b _ h3
    have ahR:w.shape? b=some (e',cs.size):=by simp [World.shape?,hb]
    have hex:(execOp a.eval ⟨some d, .convert t t x,ty,pos,af,g⟩).run P w= .ok (.value (.slice (some ⟨b,o * ek.length,none⟩) n cap)) (w.freeze ⟨b,cs.size,none⟩ 1):=by
     simp [execOp,e1,convert,run_underlying hs,run_underlying he,markStringish,ahR]
    have hfz:QB w b (.cells cs e' (if fr.1==fr.2 then (cs.size,cs.size+1) else (min fr.1 cs.size,max fr.2 (cs.size+1)))) (w.freeze ⟨b,cs.size,none⟩ 1):= {
     at_:=by simp [World.freeze,Array.getElem?_modify,hb]
     other:=fun k hk=>by simp only [World.freeze];rw [if_neg (by omega)];simp only [Array.getElem?_modify];rw [if_neg (by omega)]
     size:=by simp [World.freeze]
     os:=rfl
     tape:=rfl
     output:=rfl }
    have h5:=hh.uQ h3 hfz (by
     split
     ·exact .inr ⟨Nat.le_refl _,by simp⟩
     ·rcases j6 with h |h
      ·rename_i fq;exact absurd (by simpa using h) fq
      ·exact .inr ⟨by simp;omega,by simp;omega⟩) l7
    unfold Oper.wp
    rw [hex]
    exact hK _ _ _ rfl ⟨_,_,h5.put hd (av:=.s (.sl ek n)) (.inr ⟨b,o,cap,m,rfl,h2,h3,h4⟩) (by simp [AV.boxes,A0.boxes,SV.boxes])⟩
  ·exact hp.elim
end
end GL
namespace GL
inductive SP where
 |int
 |byte
 |str
 |bool
 |sl (ek:EK)
 |vz (ek:EK)
 |vw (ek:EK)
 |xb (i:Nat) (ek:EK)
abbrev SP.Ty:SP→Type
 | .int=>Int
 | .byte=>Int
 | .str=>ByteArray
 | .bool=>Bool
 | .sl _=>Nat
 | .vz ek=>List (EK.Ty ek)
 | .vw ek=>List (EK.Ty ek)
 | .xb _ _=>Nat
def SP.sv:(p:SP)→p.Ty→SV
 | .int,n=>.v (.int .i64 n)
 | .byte,n=>.v (.int .u8 n)
 | .str,s=>.v (.string s)
 | .bool,b=>.q b
 | .sl ek,n=>.sl ek n
 | .vz ek,l=>.vz ek l
 | .vw ek,l=>.vw ek l
 | .xb i ek,m=>.xs i ek.length 0 m
def SP.parse:(p:SP)→SV→Option p.Ty
 | .int, .v (.int .i64 n)=>some n
 | .byte, .v (.int .u8 n)=>some n
 | .str, .v (.string s)=>some s
 | .bool, .q b=>some b
 | .bool, .v (.bool b)=>some b
 | .sl ek,x=>acp ek x
 | .vz ek, .vz mx l=>rB mx ek l
 | .vz ek, .vw mx l=>rB mx ek l
 | .vz _, .v (.slice none 0 0)=>some []
 | .vw ek, .vw mx l=>rB mx ek l
 | .vw _, .v (.slice none 0 0)=>some []
 | .xb i ek, .xs j sz 0 m=>bif Nat.beq i j&&Nat.beq sz ek.length then some m else none
 |_,_=>none
theorem SP.eI {T:a7} {β:Nat→Nat} {p:SP} {x:SV} {v:p.Ty} (h:p.parse x=some v):(∀ {y:Value},x.rel T β y→(p.sv v).rel T β y)∧∀i∈(p.sv v).boxes,i∈x.boxes:=by
 unfold SP.parse at h
 split at h
 ·cases h;exact ⟨fun hr=>hr,fun _ hi=>hi⟩
 ·cases h;exact ⟨fun hr=>hr,fun _ hi=>hi⟩
 ·cases h;exact ⟨fun hr=>hr,fun _ hi=>hi⟩
 ·cases h;exact ⟨fun hr=>hr,fun _ hi=>hi⟩
 ·cases h;exact ⟨fun hr=>hr,fun _ hi=>hi⟩
 ·exact ⟨fun hr=>wh h hr,fun i hi=>by simp [SP.sv,SV.boxes] at hi⟩
 ·obtain ⟨rfl,hm⟩:=gV h
  cases hm;exact ⟨fun hr=>hr,fun _ hi=>hi⟩
 ·obtain ⟨rfl,hm⟩:=gV h
  cases hm
  refine ⟨fun hr=>?_,fun i hi=>by simp [SP.sv,SV.boxes] at hi⟩
  rcases hr with hr |⟨b,o,cap,cs,e,fr,h1,h2,h3,h4⟩
  ·exact .inl hr
  ·exact .inr ⟨b,o,cap,cs,h1,h2, .inl ⟨e,fr,h3⟩,h4⟩
 ·cases h;exact ⟨fun hr=>.inl ⟨rfl,none,0,hr⟩,fun i hi=>by simp [SP.sv,SV.boxes] at hi⟩
 ·obtain ⟨rfl,hm⟩:=gV h
  cases hm;exact ⟨fun hr=>hr,fun _ hi=>hi⟩
 ·cases h;exact ⟨fun hr=>.inl ⟨rfl,none,0,hr⟩,fun i hi=>by simp [SP.sv,SV.boxes] at hi⟩
 ·rename_i i ek j sz m
  cases hc:Nat.beq i j&&Nat.beq sz ek.length with
  |false=>rw [hc] at h;cases h
  |true=>
   rw [hc] at h;cases h
   simp only [Bool.and_eq_true] at hc
   have h1:i=j:=by simpa using hc.1
   have h2:sz=ek.length:=by simpa using hc.2
   subst h1;subst h2
   exact ⟨fun hr=>hr,fun _ hi=>hi⟩
 ·cases h
abbrev pe.Ty:List SP→Type
 |[]=>Unit
 |[p]=>p.Ty
 |p::q::l=>p.Ty×pe.Ty (q::l)
def pe.AU:(l:List SP)→pe.Ty l→List SV
 |[],_=>[]
 |[p],x=>[p.sv x]
 |p::q::l,x=>p.sv x.1::pe.AU (q::l) x.2
def pe.parse:(l:List SP)→List SV→Option (pe.Ty l)
 |[],[]=>some ()
 |[p],[x]=>p.parse x
 |p::q::l,x::m=>match p.parse x,pe.parse (q::l) m with
  |some v,some r=>some (v,r)
  |_,_=>none
 |_,_=>none
theorem pe.eI {T:a7} {β:Nat→Nat}:∀ {l:List SP} {m:List SV} {v:pe.Ty l},pe.parse l m=some v→(∀ {ys:List Value},ee T β m ys→ee T β (pe.AU l v) ys)∧∀i∈bX (pe.AU l v),i∈bX m
 |[],[],_,_=>⟨fun h=>h,fun i hi=>hi⟩
 |[],_::_,_,h=>by simp [pe.parse] at h
 |[p],[],_,h=>by simp [pe.parse] at h
 |[p],[x],v,h=>by
  have:=SP.eI (T:=T) (β:=β) (p:=p) h
  refine ⟨fun {ys} h'=>?_,fun i hi=>?_⟩
  ·match ys,h' with
   |[y],h'=>exact ⟨this.1 h'.1,trivial⟩
  ·simp only [pe.AU,bX,List.append_nil] at hi ⊢
   exact this.2 i hi
 |[p],_::_::_,v,h=>by simp [pe.parse] at h
 |p::q::l,[],v,h=>by simp [pe.parse] at h
 |p::q::l,x::m,v,h=>by
  simp only [pe.parse] at h
  split at h
  ·rename_i v1 r1 h1 h2
   cases h
   have g1:=SP.eI (T:=T) (β:=β) h1
   have g2:=pe.eI (T:=T) (β:=β) (l:=q::l) h2
   refine ⟨fun {ys} h'=>?_,fun i hi=>?_⟩
   ·match ys,h' with
    |y::ys,h'=>exact ⟨g1.1 h'.1,g2.1 h'.2⟩
   ·simp only [pe.AU,bX,List.mem_append] at hi ⊢
    rcases hi with hi |hi
    ·exact .inl (g1.2 i hi)
    ·exact .inr (g2.2 i hi)
  ·cases h
inductive AP where
 |s (p:SP)
 |a (l:List SP)
 |b (i:Nat)
 |r (ek:EK)
 |fn (f:Nat) (is:List Nat)
 |vs (l:List SP)
abbrev AP.Ty:AP→Type
 | .s p=>p.Ty
 | .a l=>pe.Ty l
 | .b _=>Unit
 | .r ek=>List (EK.Ty ek)
 | .fn _ _=>Unit
 | .vs l=>pe.Ty l
def SP.cv:(p:SP)→p.Ty→CV
 | .int,n=>.v (.int .i64 n)
 | .byte,n=>.v (.int .u8 n)
 | .str,s=>.v (.string s)
 | .bool,b=>.q b
 | .vz ek,l=>.vz ek l
 |_,_=>.v undef
def SP.K6:SP→Bool
 | .int=>true
 | .byte=>true
 | .str=>true
 | .bool=>true
 | .vz _=>true
 |_=>false
def pe.K6:List SP→Bool
 |[]=>true
 |p::l=>p.K6&&pe.K6 l
def pe.cvl:(l:List SP)→pe.Ty l→List CV
 |[],_=>[]
 |[p],x=>[p.cv x]
 |p::q::l,x=>p.cv x.1::pe.cvl (q::l) x.2
theorem SP.JN {T:a7} {β:Nat→Nat} {p:SP} (h:p.K6=true) {x:p.Ty} {v:Value} (hr:(p.sv x).rel T β v):(p.cv x).rel T v:=by
 cases p<;>first |exact hr |cases h
theorem pe.JN {T:a7} {β:Nat→Nat}:∀ {l:List SP},pe.K6 l=true→∀ {x:pe.Ty l} {vs:List Value},ee T β (pe.AU l x) vs→xj T (pe.cvl l x) vs
 |[],_,_,vs,hr=>by cases vs<;>first |trivial |exact hr.elim
 |[p],h,x,vs,hr=>by
  simp only [pe.K6,Bool.and_eq_true] at h
  match vs,hr with
  |[v],hr=>exact ⟨SP.JN h.1 hr.1,trivial⟩
  |_::_::_,hr=>exact hr.2.elim
 |p::q::l,h,x,vs,hr=>by
  simp only [pe.K6,Bool.and_eq_true] at h
  match vs,hr with
  |v::vs,hr=>exact ⟨SP.JN h.1 hr.1,pe.JN (l:=q::l) (by simp [pe.K6,h.2]) hr.2⟩
def zc:List Nat→List (Nat×Nat)
 |[]=>[]
 |i::l=>(i,0)::zc l
def afm:List Nat→List (Nat×Nat)→Bool
 |[],[]=>true
 |i::l,p::m=>(Nat.beq i p.1&&Nat.beq 0 p.2)&&afm l m
 |_,_=>false
theorem aaD:∀ {l:List Nat} {m:List (Nat×Nat)},afm l m=true→m=zc l
 |[],[],_=>rfl
 |[],_::_,h=>by cases h
 |_::_,[],h=>by cases h
 |i::l,(a,b)::m,h=>by
  simp only [afm,Bool.and_eq_true,Nat.beq_eq] at h
  obtain ⟨⟨rfl,rfl⟩,h2⟩:=h
  rw [zc,aaD h2]
def AP.av:(p:AP)→p.Ty→AV
 | .s p,x=>.s (p.sv x)
 | .a l,x=>.a (pe.AU l x)
 | .b i,_=>.s (.bp i 0)
 | .r ek,l=>.rs ek l
 | .fn f is,_=>.fn f (zc is)
 | .vs l,x=>.s (.vs (pe.cvl l x) 0)
def AP.parse:(p:AP)→AV→Option p.Ty
 | .s p, .o (.s x)=>p.parse x
 | .a l, .o (.a m)=>pe.parse l m
 | .b i, .o (.s (.bp j 0))=>bif Nat.beq i j then some () else none
 | .r ek, .rs mx l=>rB mx ek l
 | .fn f is, .fn f' l=>bif Nat.beq f f'&&afm is l then some () else none
 | .vs l, .o (.s (.vs m 0))=>bif pe.K6 l then pe.parse l (cvs m) else none
 |_,_=>none
theorem AP.eI {T:a7} {β:Nat→Nat} {p:AP} {x:AV} {v:p.Ty} (h:p.parse x=some v):(∀ {y:Value},x.rel T β y→(p.av v).rel T β y)∧(∀ {cs:Array Value},x.rN T β cs→(p.av v).rN T β cs)∧∀i∈(p.av v).boxes,i∈x.boxes:=by
 unfold AP.parse at h
 split at h
 ·rename_i q x'
  exact ⟨fun hr=>(SP.eI h).1 hr,fun hc=>hc.elim,fun i hi=>(SP.eI (T:=T) (β:=β) h).2 i hi⟩
 ·rename_i l m
  refine ⟨fun hr=>?_,fun hc=>?_,fun i hi=>?_⟩
  ·obtain ⟨cs,e,hl⟩:=hr
   exact ⟨cs,e,(pe.eI h).1 hl⟩
  ·exact (pe.eI h).1 hc
  ·exact (pe.eI (T:=T) (β:=β) h).2 i hi
 ·rename_i i j
  cases hb:Nat.beq i j with
  |false=>rw [hb] at h;cases h
  |true=>
   have:i=j:=by simpa using hb
   subst this
   exact ⟨fun hr=>hr,fun hc=>hc.elim,fun k hk=>hk⟩
 ·rename_i ek mx l
  obtain ⟨rfl,hm⟩:=gV h
  cases hm
  exact ⟨fun hr=>hr,fun hc=>hc,fun k hk=>hk⟩
 ·rename_i f is f' l
  cases hb:Nat.beq f f'&&afm is l with
  |false=>rw [hb] at h;cases h
  |true=>
   simp only [Bool.and_eq_true,Nat.beq_eq] at hb
   obtain ⟨rfl,h2⟩:=hb
   rw [aaD h2]
   exact ⟨fun hr=>hr,fun hc=>hc.elim,fun k hk=>hk⟩
 ·rename_i l m
  cases hb:pe.K6 l with
  |false=>rw [hb] at h;cases h
  |true=>
   rw [hb] at h
   have h':pe.parse l (cvs m)=some v:=h
   refine ⟨fun hr=>?_,fun hc=>hc.elim,fun k hk=>by simp [AP.av,AV.boxes,A0.boxes,SV.boxes] at hk⟩
   obtain ⟨b,cs,e,h1,h2⟩:=hr
   exact ⟨b,cs,e,h1,pe.JN (β:=β) hb ((pe.eI h').1 (zt h2))⟩
 ·cases h
abbrev APs.Ty:List AP→Type
 |[]=>Unit
 |[p]=>p.Ty
 |p::q::l=>p.Ty×APs.Ty (q::l)
def APs.iS:(l:List AP)→APs.Ty l→List AV
 |[],_=>[]
 |[p],x=>[p.av x]
 |p::q::l,x=>p.av x.1::APs.iS (q::l) x.2
def APs.parse:(l:List AP)→List AV→Option (APs.Ty l)
 |[],[]=>some ()
 |[p],[x]=>p.parse x
 |p::q::l,x::m=>match p.parse x,APs.parse (q::l) m with
  |some v,some r=>some (v,r)
  |_,_=>none
 |_,_=>none
theorem APs.jY:∀(l:List AP) (v:APs.Ty l),(APs.iS l v).length=l.length
 |[],_=>rfl
 |[_],_=>rfl
 |p::q::l,v=>by simp [APs.iS,APs.jY (q::l) v.2]
theorem APs.HE:∀ {l:List AP} {m:List AV} {v:APs.Ty l},APs.parse l m=some v→m.length=l.length∧∀(i:Nat) (av:AV),(APs.iS l v)[i]?=some av→∃(p:AP) (x:AV) (u:p.Ty),m[i]?=some x∧p.parse x=some u∧av=p.av u
 |[],[],_,_=>⟨rfl,by simp [APs.iS]⟩
 |[],_::_,_,h=>by simp [APs.parse] at h
 |[p],[],_,h=>by simp [APs.parse] at h
 |[p],[x],v,h=>by
  refine ⟨rfl,fun i av hi=>?_⟩
  cases i with
  |zero=>
   have:p.av v=av:=by simpa [APs.iS] using hi
   exact ⟨p,x,v,rfl,h,this.symm⟩
  |succ i=>simp [APs.iS] at hi
 |[p],_::_::_,v,h=>by simp [APs.parse] at h
 |p::q::l,[],v,h=>by simp [APs.parse] at h
 |p::q::l,x::m,v,h=>by
  simp only [APs.parse] at h
  split at h
  ·rename_i v1 r1 h1 h2
   cases h
   obtain ⟨g1,g2⟩:=APs.HE (l:=q::l) h2
   refine ⟨by simp at g1 ⊢;exact g1,fun i av hi=>?_⟩
   cases i with
   |zero=>
    have:p.av v1=av:=by simpa [APs.iS] using hi
    exact ⟨p,x,v1,rfl,h1,this.symm⟩
   |succ i=>
    simp only [APs.iS,List.getElem?_cons_succ] at hi
    obtain ⟨p',x',u,g3,g4,g5⟩:=g2 i av hi
    exact ⟨p',x',u,by simpa using g3,g4,g5⟩
  ·cases h
structure Con where
 A:List AP
 B:List AP
 pre:APs.Ty A→APs.Ty B→Prop
 α:APs.Ty A→APs.Ty B→Type
 φ:∀x y,α x y→Prop
 r:∀x y,α x y→AV
 o:∀x y,α x y→List AV
 nf:Nat
 mv:Bool:=false
 ro:Bool:=false
def xK (P:Program) (f:FuncId) (c:Con):Prop:=
 ∀x y,c.pre x y→TC P f c.mv (APs.iS c.A x) (APs.iS c.B y) (fun r os=>∃z,c.φ x y z∧r=c.r x y z∧os=c.o x y z∧os.length=c.B.length+c.nf)
end GL
end Go.Proofs.YtbfgjadbfjkcdaaGreatDoor
