/- Part 3 of the proof of a drawn law. -/
import Derived.Test.YtndmmmcglebllaaGreatDoorRab
set_option maxHeartbeats 20000000
set_option maxRecDepth 100000
set_option linter.all false
namespace Go.Proofs.YtndmmmcglebllaaGreatDoor
namespace GL
section
variable {P:Program}{N:Nat}{τ:St}
variable {d:Nat}{x y z:Operand}{t u ty:TypeId}{pos:String}{af:Array Edge}{g:Option (Nat×Bool)}
def Rd (w:World) (v:Value) (ek:EK) (l:List (EK.Ty ek)):Prop:=
 (l=[]/\∃p cap,v= .slice p 0 cap)\/∃b o cap cs e fr,v= .slice (some ⟨b,o,none⟩) l.length cap/\w.heap[b]?=some (.cells cs e fr)/\win cs o (flat ek l)
def Rd.cells {w:World}{ek:EK}{b o:Nat}{cs:Array Value}{e:TypeId}{fr:Nat×Nat}{l:List Value}(hb:w.heap[b]?=some (.cells cs e fr)) (hw:win cs o l):∀j v,l[j]?=some v->w.cell? ((⟨b,o,none⟩:Addr).add j)=some v:=by
 intro j v hj
 rw [gV,bO hb]
 exact hw j v hj
def ug {ek:EK}{jX:Nat}(hf:Fits P t ek jX) (w:World) {p p2:Option Addr}{m cap c2:Nat}(hm:m<=cap) (hp:p=none->cap=0):(Builtin.append_ #[t,t] ty #[.slice p m cap,.slice p2 0 c2]).run P w= .ok (.slice p m cap) w:=by
 obtain⟨e,i,z,ht,hi,hz,db,hby,hzs⟩:=kR hf.info
 have h2:(Builtin.firstCells i.size 0 (.slice p2 0 c2)).run P w= .ok #[] w:=by
  cases p2 with
  |none=>simp [Builtin.firstCells]
  |some b=>exact run_firstCells_some (P:=P) w i.size 0 b 0 c2 [] (by simp) (by simp)
 cases p with
 |none=>
  have hc:=hp rfl
  subst hc
  have wW:m=0:=by omega
  subst wW
  simp [Builtin.append_,run_underlying ht,sizeOf,typeInfo,hi,Builtin.lenOf,h2]
 |some a=>
  simp [Builtin.append_,run_underlying ht,sizeOf,typeInfo,hi,Builtin.lenOf,h2,hm,storeCells]
def YB {ek:EK}{jX:Nat}(hf:Fits P t ek jX) {w:World}{b o m cap:Nat}{cs:Array Value}{e':TypeId}{fr:Nat×Nat}(hb:w.heap[b]?=some (.cells cs e' fr)) (jV:free fr cs.size) {l2:List (EK.Ty ek)}{y2:Value}(h2:Rd w y2 ek l2) (ft:l2≠[]) (nu:m+l2.length<=cap) (aqN:o+(m+l2.length)*ek.length<=cs.size):
  ∃w',(Builtin.append_ #[t,t] ty #[.slice (some ⟨b,o,none⟩) m cap,y2]).run P w= .ok (.slice (some ⟨b,o,none⟩) (m+l2.length) cap) w'/\XC w b (.cells (spl cs (o+m*ek.length) (flat ek l2)) e' fr) w':=by
 obtain⟨e,i,z,ht,hi,hz,db,hby,hzs⟩:=kR hf.info
 rcases h2 with ⟨h,_⟩ |⟨b2,o2,c2,cs2,e2,fr2,rfl,hb2,hw2⟩
 ·exact absurd h ft
 ·have hfc:=run_firstCells_some (P:=P) w i.size l2.length ⟨b2,o2,none⟩ l2.length c2 (flat ek l2) (by rw [cR,db]) (Rd.cells (ek:=ek) hb2 hw2)
  obtain⟨w',xe,hw⟩:=q8 (P:=P) (b:=b) (off:=o+m*i.size) (flat ek l2) 0 cs w hb (by rw [cR,db,Nat.add_zero,ZG5,<-ZF0];exact aqN) jV (ajL ek l2)
  refine⟨w',?_,by rw [Nat.add_zero,db] at hw;exact hw⟩
  simp [Builtin.append_,run_underlying ht,sizeOf,typeInfo,hi,Builtin.lenOf,nu,hfc,gV,xe]
def DP {ek:EK}{jX:Nat}(hf:Fits P t ek jX) {w:World}{p:Option Addr}{cap:Nat}{l1:List (EK.Ty ek)}(h1:(l1=[]/\(p=none->cap=0))\/∃b o cs e' fr,p=some ⟨b,o,none⟩/\w.heap[b]?=some (.cells cs e' fr)/\win cs o (flat ek l1)) {l2:List (EK.Ty ek)}{y2:Value}(h2:Rd w y2 ek l2) (ft:l2≠[]) (nu:cap<l1.length+l2.length) (hle:l1.length+l2.length<=1048576):
  ∃w' z6 zz cs e',(Builtin.append_ #[t,t] ty #[.slice p l1.length cap,y2]).run P w= .ok (.slice (some ⟨w.heap.size,0,none⟩) (l1.length+l2.length) z6) w'/\qk w (.cells cs e' (0,0)) w'/\cs.toList=flat ek (l1++l2++zz)/\(∀x∈zz,EK.ok ek x)/\z6=l1.length+l2.length+zz.length:=by
 obtain⟨e,i,z,ht,hi,hz,db,hby,hzs⟩:=kR hf.info
 have ajB:(l1.length+l2.length)*i.bytes<=140737488355328:=by
  have hs:=hf.small
  have:(l1.length+l2.length)*i.bytes<=1048576*1048576:=Nat.mul_le_mul hle (by rw [hby];exact hs)
  omega
 have hl2:0<l2.length:=ZI1.2 ft
 have hzz:∀k,(Builtin.zeroCells z.cells k).toList=flat ek (List.replicate k (EK.zero ek)):=λk=>by
  have:=R8 hf.ne hzs k
  have hzl:z.cells.size=ek.length:=by rw [<-ZD6,hzs,EK.bV]
  unfold Builtin.zeroCells
  rw [hzl] at this ⊢
  exact this
 rcases h2 with ⟨h,_⟩ |⟨b2,o2,c2,cs2,e2,fr2,rfl,hb2,hw2⟩
 ·exact absurd h ft
 ·have ajz:=Rd.cells (ek:=ek) hb2 hw2
  have fin:∀(pa:Addr),p=some pa->(∀j v,(flat ek l1)[j]?=some v->w.cell? (pa.add j)=some v)->∃w' z6 zz cs e',(Builtin.append_ #[t,t] ty #[.slice p l1.length cap,.slice (some ⟨b2,o2,none⟩) l2.length c2]).run P w= .ok (.slice (some ⟨w.heap.size,0,none⟩) (l1.length+l2.length) z6) w'/\qk w (.cells cs e' (0,0)) w'/\cs.toList=flat ek (l1++l2++zz)/\(∀x∈zz,EK.ok ek x)/\z6=l1.length+l2.length+zz.length:=by
   intro pa hpa hc1
   subst hpa
   have Q6:=growslice_fits (need:=l1.length+l2.length) (old:=cap) (bytes:=i.bytes) nu ajB
   have fK:=run_append_grow (P:=P) (w:=w) t ty e i z ht hi hz pa l1.length cap (flat ek l1) (by rw [cR,db]) hc1 ⟨b2,o2,none⟩ l2.length c2 (flat ek l2) (by rw [cR,db]) ajz nu (by omega) Q6
   have xg:l1.length+l2.length<=grownCap w (l1.length+l2.length) cap e:=by unfold grownCap;simp only [Question.cut];omega
   refine⟨_,_,List.replicate (grownCap w (l1.length+l2.length) cap e-(l1.length+l2.length)) (EK.zero ek),_,e,fK,⟨ζ,ζ,ζ,ζ⟩,?_,λx hx=>by rw [List.eq_of_mem_replicate hx];exact EK.vd ek,by rw [ZF9];omega⟩
   rw [ZI2,ZI2,hzz,iA,iA]
  rcases h1 with ⟨rfl,hp⟩ |⟨b,o,cs,e',fr,rfl,hb,hw⟩
  ·cases p with
   |none=>
    have hc:=hp rfl
    subst hc
    have fK:=run_append_nil (P:=P) (w:=w) t ty e i z ht hi hz ⟨b2,o2,none⟩ l2.length c2 (flat ek l2) (by rw [cR,db]) ajz hl2 (by simp at hle;omega) (by simp at ajB;omega)
    have xg:l2.length<=grownCap w l2.length 0 e:=by unfold grownCap;simp only [Question.cut];omega
    refine⟨w.drew.alloc (.cells ((flat ek l2).toArray++Builtin.zeroCells z.cells (grownCap w l2.length 0 e-l2.length)) e),grownCap w l2.length 0 e,List.replicate (grownCap w l2.length 0 e-l2.length) (EK.zero ek),_,e,by simpa using fK,⟨ζ,ζ,ζ,ζ⟩,?_,λx hx=>by rw [List.eq_of_mem_replicate hx];exact EK.vd ek,by simp;omega⟩
    rw [ZI2,hzz,ZC9,iA]
   |some pa=>exact fin pa rfl (by simp [flat])
  ·exact fin _ rfl (Rd.cells (ek:=ek) hb hw)
def amI {nT ek:EK}(h:nT=ek) (l:List (EK.Ty nT)):List (EK.Ty ek):=h ▸ l
theorem dO {ek:EK}(h:ek=ek) (l:List (EK.Ty ek)):amI h l=l:=rfl
def tC (nT ek:EK) (l:List (EK.Ty nT)):Option (List (EK.Ty ek)):=match h:EK.beq nT ek with
 |true=>some (amI (EK.eq_of_beq h) l)
 |false=>none
def je {nT ek:EK}{l:List (EK.Ty nT)}{m:List (EK.Ty ek)}(h:tC nT ek l=some m):nT=ek/\HEq l m:=by
 unfold tC at h
 split at h
 ·rename_i hb
  have he:=EK.eq_of_beq hb
  subst he
  cases h
  exact⟨rfl,HEq.rfl⟩
 ·cases h
def ML (pt:Bool) (ek:EK) (v:AV) (k:Prop->List (EK.Ty ek)->Q Rs):Q Rs:=
 match v with
 |.o (.s (.vw nT l))=>match tC nT ek l with
  |some m=>k True m
  |none=>.ret .no
 |.o (.s (.vz nT l))=>match tC nT ek l with
  |some m=>k True m
  |none=>.ret .no
 |.o (.s (.xs j sz o m))=>uZ j fun
  |.rs nT l=>match tC nT ek l with
   |some l=>bif Nat.beq sz ek.length then (match pt with
    |true=>k (o+m<=l.length) ((l.drop o).take m)
    |false=>k (o=0/\m=l.length) l) else .ret .no
   |none=>.ret .no
  |_=>.ret .no
 |.o (.s (.v (.slice none 0 0)))=>k True []
 |_=>.ret .no
def zp {pt:Bool}{c:Ctx}{T:a8}{β:Nat->Nat}{a:Act}{w:World}(hh:Holds N c T β τ a w) {ek:EK}{v:AV}{y:Value}(hr:v.rel T β y) {k:Prop->List (EK.Ty ek)->Q Rs}(hp:((ML pt ek v k).run τ).pre):
  ∃(p:Prop) (l:List (EK.Ty ek)),(ML pt ek v k).run τ=(k p l).run τ/\(p->Rd w y ek l):=by
 unfold ML at hp ⊢
 split at hp
 ·rename_i nT l
  split at hp
  ·rename_i m h
   obtain⟨rfl,hm⟩:=je h
   cases hm
   refine⟨True,l,ζ,λ_=>?_⟩
   rcases hr with ⟨rfl,p,cap,rfl⟩ |⟨b,o,cap,cs,e,fr,h1,h2,h3,h4⟩
   ·exact .inl ⟨rfl,p,cap,rfl⟩
   ·exact .inr ⟨b,o,cap,cs,e,fr,h1,hh.typed b _ h3,h4⟩
  ·exact hp.elim
 ·rename_i nT l
  split at hp
  ·rename_i m h
   obtain⟨rfl,hm⟩:=je h
   cases hm
   refine⟨True,l,ζ,λ_=>?_⟩
   rcases hr with ⟨rfl,p,cap,rfl⟩ |⟨b,o,cap,cs,h1,h2,h3,h4⟩
   ·exact .inl ⟨rfl,p,cap,rfl⟩
   ·obtain⟨e,fr,hb⟩:=DT hh.typed h3
    exact .inr ⟨b,o,cap,cs,e,fr,h1,hb,h4⟩
  ·exact hp.elim
 ·rename_i j sz o m
  simp only [uZ,Q.run] at hp ⊢
  cases hb:τ (.b j) with
  |none=>rw [hb] at hp;exact hp.elim
  |some av=>
   rw [hb] at hp
   simp only at hp ⊢
   split at hp
   ·rename_i nT l
    split at hp
    ·rename_i m' h
     obtain⟨rfl,hm⟩:=je h
     cases hm
     cases hc:Nat.beq sz nT.length with
     |false=>rw [hc] at hp;exact hp.elim
     |true=>
      have db:sz=nT.length:=by simpa using hc
      subst db
      obtain⟨cs,te,lj,_,z,hfl,_⟩:=hh.boxes j _ hb (by intro e;cases e)
      cases pt with
      |true=>
       refine⟨o+m<=l.length,(l.drop o).take m,ζ,λhle=>?_⟩
       have hlen:((l.drop o).take m).length=m:=by simp;omega
       rcases hr with ⟨rfl,p,rfl⟩ |⟨cap,n,rfl,_⟩
       ·exact .inl ⟨by simp,p,0,rfl⟩
       ·exact .inr ⟨β j,o*nT.length,cap,cs,te,(0,0),by rw [hlen],lj,xo hfl o m⟩
      |false=>
       refine⟨o=0/\m=l.length,l,ζ,λhle=>?_⟩
       obtain⟨rfl,rfl⟩:=hle
       rcases hr with ⟨AG,p,rfl⟩ |⟨cap,n,rfl,_⟩
       ·exact .inl ⟨ZE2.1 AG,p,0,rfl⟩
       ·exact .inr ⟨β j,0*nT.length,cap,cs,te,(0,0),rfl,lj,by have:=xo hfl 0 l.length;simpa using this⟩
    ·exact hp.elim
   ·exact hp.elim
 ·exact⟨True,[],rfl,λ_=>.inl ⟨rfl,none,0,hr⟩⟩
 ·exact hp.elim
def B0 (i d:Nat):Nat:=bif Nat.ble 1000 i&&Nat.blt i 1000000000 then 1000+d else 1000000000+d
def agq (i d:Nat):1000<=B0 i d/\(1000000000<=B0 i d\/(1000<=i/\i<1000000000)):=by
 unfold B0
 cases hc:Nat.ble 1000 i&&Nat.blt i 1000000000 with
 |false=>simp only [cond_false];omega
 |true=>
  simp only [ZB1] at hc
  have h1:=zqNlb hc.1
  have h2:i<1000000000:=zqNlb hc.2
  simp only [cond_true];omega
def aof (pt:Bool) (d:Nat) (ek:EK) (v u:AV):Q Rs:=
 match v with
 |.o (.s (.xs i sz 0 m))=>bif Nat.beq sz ek.length then uZ i fun
  |.rs nT l=>match tC nT ek l with
   |some l=>ML pt ek u λp l2=>.ask (.b (B0 i d)) fun
    |none=>.ret (.oJ ((m=l.length/\l.length+l2.length<=1048576)/\p) [(.s d,.s (.xs (B0 i d) ek.length 0 (l.length+l2.length))),(.b (B0 i d),.rs ek (l++l2)),(.b i,.zz)])
    |some _=>.ret .no
   |none=>.ret .no
  |_=>.ret .no else .ret .no
 |.o (.s (.v (.slice none 0 0)))=>ML pt ek u λp l2=>.ask (.b (1000+d)) fun
  |none=>.ret (.oJ ((0<l2.length/\l2.length<=1048576)/\p) [(.s d,.s (.xs (1000+d) ek.length 0 l2.length)),(.b (1000+d),.rs ek l2)])
  |some _=>.ret .no
 |_=>.ret .no
def QC {a:Act}{w:World}{v1 v2:Value}(h1:a.eval x=v1) (h2:a.eval y=v2) {v:Value}{w':World}(hr:(Builtin.append_ #[t,t] ty #[v1,v2]).run P w= .ok v w'):(execOp a.eval ⟨some d,.call ⟨.builtin .append,#[x,y],#[t,t]⟩,ty,pos,af,g⟩).run P w= .ok (.value v) w':=by
 simp [execOp,resolve,invoke,builtin,h1,h2,hr]
def aod {pt:Bool}{ek:EK}{jX:Nat}(hf:Fits P t ek jX) (hd:d<N):gl P N ⟨some d,.call ⟨.builtin .append,#[x,y],#[t,t]⟩,ty,pos,af,g⟩ (cq x λv=>cq y λu=>aof pt d ek v u):=by
 intro c τ a w hr hp K Q' hK
 obtain⟨T,β,hh⟩:=hr
 rw [dJ] at hp hK
 cases hx:ev τ x with
 |none=>rw [hx] at hp;exact hp.elim
 |some v=>
  rw [hx] at hp hK
  simp only [dJ] at hp hK
  cases hy:ev τ y with
  |none=>rw [hy] at hp;exact hp.elim
  |some u=>
   rw [hy] at hp hK
   simp only at hp hK
   have hv:=fA hh hx
   have hu:=fA hh hy
   unfold aof at hp hK
   split at hp
   ·rename_i i sz m
    simp only at hK
    obtain⟨aji,anF⟩:=agq i d
    generalize B0 i d=nm at hp hK aji anF
    cases hc:Nat.beq sz ek.length with
    |false=>rw [hc] at hp;exact hp.elim
    |true=>
     rw [hc] at hp hK
     simp only [cond_true,uZ,Q.run] at hp hK
     have db:sz=ek.length:=by simpa using hc
     subst db
     cases hb:τ (.b i) with
     |none=>rw [hb] at hp;exact hp.elim
     |some av=>
      rw [hb] at hp hK
      simp only at hp hK
      split at hp
      ·rename_i nT l
       split at hp
       ·rename_i m0 h
        obtain⟨rfl,wW⟩:=je h
        cases wW
        simp only [h] at hK
        obtain⟨p,l2,fK,hRd⟩:=zp hh hu hp
        have hp':=hp
        rw [fK] at hp'
        simp only [Q.run] at hp'
        cases hn:τ (.b nm) with
        |some _=>rw [hn] at hp';exact hp'.elim
        |none=>
         rw [hn] at hp'
         obtain⟨⟨hm,hle⟩,hpp⟩:(m=l.length/\l.length+l2.length<=1048576)/\p:=hp'
         subst hm
         have hR:=hRd hpp
         have hid:i≠nm:=λe=>by rw [e,hn] at hb;cases hb
         have KS:live τ i:=fg hb (by intro e;cases e)
         obtain⟨cs,te,lj,ft,zz,hfl,hzz⟩:=hh.boxes i _ hb (by intro e;cases e)
         have fin:∀{w':World} {val:Value} {T':a8} {β':Nat->Nat},(Builtin.append_ #[t,t] ty #[a.eval x,a.eval y]).run P w= .ok val w'->Holds N c T' β' ((τ.ap [(.b i,.zz)]).ap [(.b nm,.rs nT (l++l2))]) a w'->(SV.xs nm nT.length 0 (l.length+l2.length)).rel T' β' val->Oper.wp P ⟨some d,.call ⟨.builtin .append,#[x,y],#[t,t]⟩,ty,pos,af,g⟩ a w K Q':=by
          intro w' val T' β' EM hh' cB
          unfold Oper.wp
          rw [QC rfl rfl EM]
          show K (a.put (some d) val) w'
          refine hK [(.s d,.s (.xs nm nT.length 0 (l.length+l2.length))),(.b nm,.rs nT (l++l2)),(.b i,.zz)] _ _ ?_ ⟨_,_,hh'.put hd (av:=.s (.xs nm nT.length 0 (l.length+l2.length))) cB (by simp [AV.boxes,A0.boxes,SV.boxes,wN])⟩
          rw [fK]
          simp only [Q.run,hn]
          rfl
         by_cases h2:l2=[]
         ·
          subst h2
          have h0:(Builtin.append_ #[t,t] ty #[a.eval x,a.eval y]).run P w= .ok (a.eval x) w:=by
           rcases hR with ⟨_,p2,c2,e2⟩ |⟨b2,o2,c2,_,_,_,e2,_⟩
           ·rcases hv with ⟨AG,p1,e1⟩ |⟨cap,n,e1,hmc,_⟩
            ·rw [e1,e2];exact ug hf w (ZB0 _) (λ_=>rfl)
            ·rw [e1,e2];exact ug hf w hmc (by simp)
           ·rcases hv with ⟨AG,p1,e1⟩ |⟨cap,n,e1,hmc,_⟩
            ·rw [e1,e2];exact ug hf w (ZB0 _) (λ_=>rfl)
            ·rw [e1,e2];exact ug hf w hmc (by simp)
          have hmv:=hh.aab (i:=i) (d:=nm) aji anF hn (av:=.rs nT (l++[])) KS lj (w':=w) ⟨lj,λ_ _=>rfl,rfl,rfl,rfl,rfl⟩ rfl ⟨ft,zz,by simpa using hfl,hzz⟩ rfl
          refine fin h0 hmv ?_
          rcases hv with ⟨AG,p1,e1⟩ |⟨cap,n,e1,hmc,hT,hcn⟩
          ·exact .inl ⟨by simpa using AG,p1,e1⟩
          ·refine .inr ⟨cap,n,?_,by simpa using hmc,?_,hcn⟩
           ·rw [e1];unfold pV;rw [if_pos rfl];simp
           ·unfold pV;rw [if_pos rfl];exact hT
         ·rcases hv with ⟨AG,p1,e1⟩ |⟨cap,n,e1,hmc,hT,hcn⟩
          ·
           have hl:l=[]:=ZE2.1 AG
           subst hl
           obtain⟨w',z6,z',mD,e',EM,hpu,aaH,hz',JG⟩:=DP (ty:=ty) hf (p:=p1) (cap:=0) (l1:=[]) (.inl ⟨rfl,λ_=>rfl⟩) hR h2 (by have:=ZI1.2 h2;simpa using this) (by simpa using hle)
           have h3:=(hh.kill (i:=i)).vX (d:=nm) aji (by rw [wN,if_neg (by simp;exact λh=>hid h.symm)];exact hn) (av:=.rs nT ([]++l2)) hpu ⟨ft,z',aaH,hz'⟩ (by simp [AV.boxes])
           refine fin (by rw [e1];exact EM) h3 (.inr ⟨z6,mD.size,?_,by rw [JG];omega,?_,?_⟩)
           ·unfold pV;rw [if_pos rfl,ZH6]
           ·unfold pV qW;rw [if_pos rfl,if_pos rfl]
           ·rw [<-ZD6,aaH,cR];simp [JG]
          ·rw [ZH6] at e1
           have hnn:=hh.ad0 hT lj
           by_cases nu:l.length+l2.length<=cap
           ·
            have xg:(l.length+l2.length)*nT.length<=cap*nT.length:=ZG9 _ nu
            rw [ZA6] at hcn
            obtain⟨w',EM,hw⟩:=YB (ty:=ty) hf (b:=β i) (o:=0) (m:=l.length) (cap:=cap) lj (O6 _) hR h2 nu (by rw [ZA6];omega)
            rw [ZA6] at hw
            have hzl:(l++zz).length*nT.length=cs.size:=by rw [<-cR,<-hfl,ZD6]
            have ar8:l2.length<=zz.length:=by
             have h1:(l.length+l2.length)*nT.length<=(l++zz).length*nT.length:=by omega
             have h2:=Nat.le_of_mul_le_mul_right h1 (ZI1.2 ft)
             simp at h2;omega
            have aqO:(spl cs (l.length*nT.length) (flat nT l2)).toList=flat nT (l++l2++zz.drop l2.length):=by
             have e2:(l++zz).take l.length=l:=by simp
             have e3:(l++zz).drop (l.length+l2.length)=zz.drop l2.length:=by rw [ZG2]
             rw [n0 _ _ _ (by rw [cR,<-ZF0];omega),hfl,cR,<-ZF0,oE,qM,e2,e3,iA,iA]
            have hmv:=hh.aab (i:=i) (d:=nm) aji anF hn (av:=.rs nT (l++l2)) KS lj hw (ph _ _ _) ⟨ft,zz.drop l2.length,aqO,λx hx=>hzz x (ZF5 hx)⟩ rfl
            refine fin (by rw [e1];exact EM) hmv (.inr ⟨cap,n,?_,nu,?_,by rw [ZA6];exact hcn⟩)
            ·unfold pV;rw [if_pos rfl,ZH6]
            ·unfold pV;rw [if_pos rfl];exact hT
           ·obtain⟨w',z6,z',mD,e',EM,hpu,aaH,hz',JG⟩:=DP (ty:=ty) hf (p:=some ⟨β i,0,none⟩) (cap:=cap) (l1:=l) (.inr ⟨β i,0,cs,te,(0,0),rfl,lj,abi hfl⟩) hR h2 (by omega) hle
            have h3:=(hh.kill (i:=i)).vX (d:=nm) aji (by rw [wN,if_neg (by simp;exact λh=>hid h.symm)];exact hn) (av:=.rs nT (l++l2)) hpu ⟨ft,z',aaH,hz'⟩ (by simp [AV.boxes])
            refine fin (by rw [e1];exact EM) h3 (.inr ⟨z6,mD.size,?_,by rw [JG];omega,?_,?_⟩)
            ·unfold pV;rw [if_pos rfl,ZH6]
            ·unfold pV qW;rw [if_pos rfl,if_pos rfl]
            ·rw [<-ZD6,aaH,cR];simp [JG,ZG5]
       ·exact hp.elim
      ·exact hp.elim
   ·simp only at hK
    obtain⟨p,l2,fK,hRd⟩:=zp hh hu hp
    have hp':=hp
    rw [fK] at hp' hK
    simp only [Q.run] at hp' hK
    cases hn:τ (.b (1000+d)) with
    |some _=>rw [hn] at hp';exact hp'.elim
    |none=>
     rw [hn] at hp' hK
     obtain⟨⟨hm,hle⟩,hpp⟩:(0<l2.length/\l2.length<=1048576)/\p:=hp'
     have hR:=hRd hpp
     have e1:a.eval x= .slice none 0 0:=hv
     obtain⟨w',z6,z',mD,e',EM,hpu,aaH,hz',JG⟩:=DP (ty:=ty) hf (p:=none) (cap:=0) (l1:=[]) (.inl ⟨rfl,λ_=>rfl⟩) hR (ZI1.1 hm) (by simpa using hm) (by simpa using hle)
     have h3:=hh.vX (d:=1000+d) (by omega) hn (av:=.rs ek l2) hpu ⟨hf.ne,z',by simpa using aaH,hz'⟩ (by simp [AV.boxes])
     unfold Oper.wp
     rw [QC (x:=x) (y:=y) e1 rfl EM]
     refine hK _ _ _ rfl ⟨_,_,h3.put hd (av:=.s (.xs (1000+d) ek.length 0 l2.length)) (.inr ⟨z6,mD.size,?_,by rw [JG];simp,?_,?_⟩) (by simp [AV.boxes,A0.boxes,SV.boxes,wN])⟩
     ·unfold pV;rw [if_pos rfl,ZH6];simp
     ·unfold pV qW;rw [if_pos rfl,if_pos rfl]
     ·rw [<-ZD6,aaH,cR];simp [JG]
   ·exact hp.elim
end
end GL
namespace GL
section
variable {P:Program}{N:Nat}{τ:St}
variable {d:Nat}{x y z:Operand}{t u ty:TypeId}{pos:String}{af:Array Edge}{g:Option (Nat×Bool)}
def ag7 (ek:EK):SV->Option Nat
 |.sl nT n=>bif EK.beq nT ek then some n else none
 |.v (.slice none 0 0)=>some 0
 |_=>none
def y9 {T:a8}{β:Nat->Nat}{ek:EK}{v:SV}{n:Nat}(h:ag7 ek v=some n) {y:Value}(hr:v.rel T β y):(SV.sl ek n).rel T β y:=by
 unfold ag7 at h
 split at h
 ·rename_i nT m
  cases hb:EK.beq nT ek with
  |false=>rw [hb] at h;cases h
  |true=>
   rw [hb] at h;cases h
   have he:=EK.eq_of_beq hb
   subst he
   exact hr
 ·cases h
  exact .inl ⟨rfl,none,hr⟩
 ·cases h
def adZ {T:a8}{β:Nat->Nat}{w:World}(hT:WT T w) {ek:EK}{n:Nat}{y:Value}(hr:(SV.sl ek n).rel T β y):∃l:List (EK.Ty ek),l.length=n/\(∀x∈l,EK.ok ek x)/\Rd w y ek l:=by
 rcases hr with ⟨rfl,p,rfl⟩ |⟨b,o,cap,m,rfl,h2,h3,h4⟩
 ·exact⟨[],rfl,by simp,.inl ⟨rfl,p,0,rfl⟩⟩
 ·obtain⟨ft,cs,e,fr,l,hb,jV,nv⟩:=hT b _ h3
  have hlen:((l.drop o).take n).length=n:=by simp [nv.1];omega
  refine⟨(l.drop o).take n,hlen,λx hx=>nv.2.1 x (ZF5 (ZE5 hx)),.inr ⟨b,o*ek.length,cap,cs,e,fr,by rw [hlen],hb,?_⟩⟩
  have:=zh (LB nv) o n
  rwa [ZA6] at this
def aog (pt:Bool) (d:Nat) (ek:EK) (v u:AV):Q Rs:=
 match v,u with
 |.o (.s v'),.o (.s u')=>match ag7 ek v' with
  |some m=>match ag7 ek u' with
   |some n=>.ret (.oJ (m+n<=1048576) [(.s d,.s (.sl ek (m+n)))])
   |none=>ML pt ek u λp l2=>.ret (.oJ (m+l2.length<=1048576/\p/\ZX ek l2) [(.s d,.s (.sl ek (m+l2.length)))])
  |none=>.ret .no
 |_,_=>.ret .no
def akL {ek:EK}{jX:Nat}(hf:Fits P t ek jX) {c:Ctx}{T:a8}{β:Nat->Nat}{a:Act}{w:World}(hh:Holds N c T β τ a w) {m:Nat}{v1 v2:Value}(h1:(SV.sl ek m).rel T β v1) {l2:List (EK.Ty ek)}(h2:Rd w v2 ek l2) (cn:∀x∈l2,EK.ok ek x) (hle:m+l2.length<=1048576):
  ∃val T' w',(Builtin.append_ #[t,t] ty #[v1,v2]).run P w= .ok val w'/\Holds N c T' β τ a w'/\(SV.sl ek (m+l2.length)).rel T' β val:=by
 by_cases hn:l2=[]
 ·subst hn
  have h0:(Builtin.append_ #[t,t] ty #[v1,v2]).run P w= .ok v1 w:=by
   have e2:∃p c2,v2= .slice p 0 c2:=by
    rcases h2 with ⟨_,p,c2,e⟩ |⟨b,o,c2,_,_,_,e,_⟩
    ·exact⟨p,c2,e⟩
    ·exact⟨_,c2,e⟩
   obtain⟨p2,c2,rfl⟩:=e2
   rcases h1 with ⟨rfl,p,rfl⟩ |⟨b,o,cap,n,rfl,hmc,_,_⟩
   ·exact ug hf w (ZB0 _) (λ_=>rfl)
   ·exact ug hf w hmc (by simp)
  exact⟨v1,T,w,h0,hh,h1⟩
 ·have grow:∀{p:Option Addr} {cap:Nat} {l1:List (EK.Ty ek)},v1= .slice p l1.length cap->l1.length=m->(∀x∈l1,EK.ok ek x)->((l1=[]/\(p=none->cap=0))\/∃b o cs e' fr,p=some ⟨b,o,none⟩/\w.heap[b]?=some (.cells cs e' fr)/\win cs o (flat ek l1))->cap<m+l2.length->
    ∃val T' w',(Builtin.append_ #[t,t] ty #[v1,v2]).run P w= .ok val w'/\Holds N c T' β τ a w'/\(SV.sl ek (m+l2.length)).rel T' β val:=by
   intro p cap l1 e1 hl1 aqU hw1 bR
   subst e1;subst hl1
   obtain⟨w',z6,zz,mD,e',fK,hpu,hfl,hz,xg⟩:=DP (ty:=ty) hf hw1 h2 hn bR hle
   have h3:=hh.HK (k:=.ty ek z6) hpu ⟨hf.ne,mD,e',(0,0),l1++l2++zz,hpu.new,O6 _,by simp [xg,ZG5],λx hx=>by
    rcases ZB5.1 hx with h |h
    ·rcases ZB5.1 h with h |h
     ·exact aqU x h
     ·exact cn x h
    ·exact hz x h,hfl⟩
   exact⟨_,_,_,fK,h3,.inr ⟨w.heap.size,0,z6,z6,by rw [ZH6],by omega,by unfold qW;rw [if_pos rfl],by omega⟩⟩
  have h1':=h1
  rcases h1 with ⟨rfl,p,rfl⟩ |⟨b,o,cap,n,rfl,hmc,hT,hon⟩
  ·exact grow (p:=p) (cap:=0) (l1:=[]) rfl rfl (by simp) (.inl ⟨rfl,λ_=>rfl⟩) (by have:=ZI1.2 hn;omega)
  ·obtain⟨ft,cs,e,fr,l,hb,jV,nv⟩:=hh.typed b _ hT
   by_cases nu:m+l2.length<=cap
   ·have db:cs.size=n*ek.length:=by rw [<-ZD6,nv.2.2,cR,nv.1]
    have hb1:(o+(m+l2.length))*ek.length<=n*ek.length:=ZG9 _ (by omega)
    obtain⟨w',fK,hw⟩:=YB (ty:=ty) hf (m:=m) (cap:=cap) hb jV h2 hn nu (by rw [db,<-ZF0];exact hb1)
    have CB:o*ek.length+m*ek.length=(o+m)*ek.length:=by rw [ZF0]
    rw [CB] at hw
    have tJ:(spl cs ((o+m)*ek.length) (flat ek l2)).toList=flat ek (l.take (o+m)++l2++l.drop (o+m+l2.length)):=by
     rw [n0 _ _ _ (by rw [cR,<-ZF0,db];exact ZG9 _ (by omega)),nv.2.2,cR,<-ZF0,oE,qM,iA,iA]
    refine⟨_,T,w',fK,hh.xt hT hw (by rw [ph];exact jV) (l:=l.take (o+m)++l2++l.drop (o+m+l2.length)) ⟨?_,λx hx=>?_,tJ⟩,.inr ⟨b,o,cap,n,ζ,nu,hT,hon⟩⟩
    ·have:=nv.1;simp;omega
    ·rcases ZB5.1 hx with h |h
     ·rcases ZB5.1 h with h |h
      ·exact nv.2.1 x (ZE5 h)
      ·exact cn x h
     ·exact nv.2.1 x (ZF5 h)
   ·have hlen:((l.drop o).take m).length=m:=by simp [nv.1];omega
    refine grow (p:=some ⟨b,o*ek.length,none⟩) (cap:=cap) (l1:=(l.drop o).take m) (by rw [hlen]) hlen (λx hx=>nv.2.1 x (ZF5 (ZE5 hx))) (.inr ⟨b,o*ek.length,cs,e,fr,rfl,hb,?_⟩) (by omega)
    have:=zh (LB nv) o m
    rwa [ZA6] at this
def aoe {pt:Bool}{ek:EK}{jX:Nat}(hf:Fits P t ek jX) (hd:d<N):gl P N ⟨some d,.call ⟨.builtin .append,#[x,y],#[t,t]⟩,ty,pos,af,g⟩ (cq x λv=>cq y λu=>aog pt d ek v u):=by
 intro c τ a w hr hp K Q' hK
 obtain⟨T,β,hh⟩:=hr
 rw [dJ] at hp hK
 cases hx:ev τ x with
 |none=>rw [hx] at hp;exact hp.elim
 |some v=>
  rw [hx] at hp hK
  simp only [dJ] at hp hK
  cases hy:ev τ y with
  |none=>rw [hy] at hp;exact hp.elim
  |some u=>
   rw [hy] at hp hK
   simp only at hp hK
   have hv:=fA hh hx
   have hu:=fA hh hy
   have fin:∀{l2:List (EK.Ty ek)} {m:Nat},(SV.sl ek m).rel T β (a.eval x)->Rd w (a.eval y) ek l2->(∀x∈l2,EK.ok ek x)->m+l2.length<=1048576->(∀a' w',Rel N c (τ.ap [(.s d,.s (.sl ek (m+l2.length)))]) a' w'->K a' w')->Oper.wp P ⟨some d,.call ⟨.builtin .append,#[x,y],#[t,t]⟩,ty,pos,af,g⟩ a w K Q':=by
    intro l2 m h1 h2 cn hle hK
    obtain⟨val,T',w',fK,hh',cB⟩:=akL (ty:=ty) hf hh h1 h2 cn hle
    unfold Oper.wp
    rw [QC (x:=x) (y:=y) rfl rfl fK]
    show K (a.put (some d) val) w'
    exact hK _ _ ⟨_,_,hh'.put hd (av:=.s (.sl ek (m+l2.length))) cB (by simp [AV.boxes,A0.boxes,SV.boxes])⟩
   unfold aog at hp hK
   split at hp
   ·rename_i v' u'
    split at hp
    ·rename_i m hm
     simp only [hm] at hK
     split at hp
     ·rename_i n hn
      simp only [hn,Q.run] at hK
      obtain⟨l2,hl2,cn,hRd⟩:=adZ hh.typed (y9 hn hu)
      subst hl2
      exact fin (y9 hm hv) hRd cn hp (λa' w' h=>hK _ _ _ rfl h)
     ·rename_i hn
      simp only [hn] at hK
      obtain⟨p,l2,fK,hRd⟩:=zp hh hu hp
      rw [fK] at hp hK
      obtain⟨h1,h2,h3⟩:m+l2.length<=1048576/\p/\ZX ek l2:=hp
      exact fin (y9 hm hv) (hRd h2) (HF h3) h1 (λa' w' h=>hK _ _ _ rfl h)
    ·exact hp.elim
   ·exact hp.elim
def gp (l:List Int):ByteArray:=l.foldl (λr n=>r.push (UInt8.ofNat n.toNat)) ByteArray.empty
def pc:∀(l:List Int) (r:ByteArray),(l.foldl (λr n=>r.push (UInt8.ofNat n.toNat)) r).size=r.size+l.length
 |[],r=>by simp
 |n::l,r=>by
  rw [List.foldl_cons,pc l]
  simp [ByteArray.size_push];omega
abbrev nJ:EK:=[.u8]
theorem WJ:∀l:List Int,flat nJ l=l.map (Value.int .u8)
 |[]=>rfl
 |n::l=>by
  have:=WJ l
  rw [im,this];rfl
def ahC {e:TypeId}(hs:P.underlying t=some (.slice e)) (he:P.underlying e=some (.int .u8)) (hd:P.underlying u=some .string) {w:World}{v:Value}{l:List Int}(h:Rd w v nJ l):(convert t u v).run P w= .ok (.string (gp l)) w:=by
 rcases h with ⟨rfl,p,cap,rfl⟩ |⟨b,o,cap,cs,e',fr,rfl,hb,hw⟩
 ·rw [run_convert_bytes_string w t u e p 0 cap hs he hd]
  cases p with
  |none=>simp [Conv.bytesToString,gp]
  |some p=>
   rw [run_bytesToString (P:=P) w p 0 cap [] (by simp [loadCells,loadCellsFrom])]
   rfl
 ·rw [run_convert_bytes_string w t u e _ _ cap hs he hd]
  have h1:=run_loadCells_list (P:=P) w ⟨b,o,none⟩ (flat nJ l) (Rd.cells (ek:=nJ) hb hw)
  rw [cR,WJ] at h1
  simp only [List.length_singleton,Nat.mul_one] at h1
  rw [run_bytesToString (P:=P) w ⟨b,o,none⟩ l.length cap l h1]
  rfl
def aho (pt:Bool) (d:Nat) (v:AV):Q Rs:=
 match v with
 |.o (.s v')=>match ag7 nJ v' with
  |some n=>.ret (.ex True ByteArray (λs=>s.size=n) [(.s d,λs=>.str s)])
  |none=>ML pt nJ v λp (l:List Int)=>.ret (.oJ p [(.s d,.str (gp l))])
 |_=>.ret .no
def an0 {pt:Bool}{e:TypeId}(hs:P.underlying t=some (.slice e)) (he:P.underlying e=some (.int .u8)) (hu:P.underlying u=some .string) (hd:d<N):gl P N ⟨some d,.convert t u x,ty,pos,af,g⟩ (cq x λv=>aho pt d v):=by
 intro c τ a w hr hp K Q' hK
 obtain⟨T,β,hh⟩:=hr
 rw [dJ] at hp hK
 cases hx:ev τ x with
 |none=>rw [hx] at hp;exact hp.elim
 |some v=>
  rw [hx] at hp hK
  simp only at hp hK
  have hv:=fA hh hx
  have hex:∀{l:List Int},Rd w (a.eval x) nJ l->(execOp a.eval ⟨some d,.convert t u x,ty,pos,af,g⟩).run P w= .ok (.value (.string (gp l))) w:=λh=>by
   simp [execOp,ahC hs he hu h]
  unfold aho at hp hK
  split at hp
  ·rename_i v'
   split at hp
   ·rename_i n hn
    simp only [hn] at hK
    obtain⟨l,hl,cn,hRd⟩:=adZ hh.typed (y9 hn hv)
    have db:(gp l).size=n:=by
     have:=pc l ByteArray.empty
     unfold gp
     rw [this,<-hl];simp
    exact gl.value (av:=.str (gp l)) hh rfl hd (hex hRd) rfl (by simp [AV.boxes,A0.boxes,SV.boxes]) (λa' h=>hK _ _ _ ⟨_,db,rfl⟩ h)
   ·rename_i hn
    simp only [hn] at hK
    obtain⟨p,l,fK,hRd⟩:=zp hh hv hp
    rw [fK] at hp hK
    exact gl.value (av:=.str (gp l)) hh rfl hd (hex (hRd hp)) rfl (by simp [AV.boxes,A0.boxes,SV.boxes]) (λa' h=>hK _ _ _ rfl h)
  ·exact hp.elim
def ahA (v:AV):V1:=
 match v with
 |.o (.s (.sl ek n))=>.oJ (0<n) (.s (.sl ek n))
 |_=>.no
def an1 {e:TypeId}(hs:P.underlying t=some (.slice e)) (he:P.underlying e=some (.int .u8)) (hd:d<N):gl P N ⟨some d,.convert t t x,ty,pos,af,g⟩ (cq x λv=>.ret ((ahA v).rs d)):=by
 intro c τ a w hr hp K Q' hK
 obtain⟨T,β,hh⟩:=hr
 rw [dJ] at hp hK
 cases hx:ev τ x with
 |none=>rw [hx] at hp;exact hp.elim
 |some v=>
  rw [hx] at hp hK
  simp only at hp hK
  have hv:=fA hh hx
  unfold ahA at hp hK
  split at hp
  ·rename_i ek n
   simp only at hK
   rcases hv with ⟨rfl,p,e1⟩ |⟨b,o,cap,m,e1,h2,h3,h4⟩
   ·exact absurd (show 0<0 from hp) (by omega)
   ·obtain⟨ft,cs,e',fr,l,hb,jV,nv⟩:=hh.typed b _ h3
    have anC:w.shape? b=some (e',cs.size):=by simp [World.shape?,hb]
    have hex:(execOp a.eval ⟨some d,.convert t t x,ty,pos,af,g⟩).run P w= .ok (.value (.slice (some ⟨b,o*ek.length,none⟩) n cap)) (w.freeze ⟨b,cs.size,none⟩ 1):=by
     simp [execOp,e1,convert,run_underlying hs,run_underlying he,markStringish,anC]
    have hfz:XC w b (.cells cs e' (if fr.1==fr.2 then (cs.size,cs.size+1) else (min fr.1 cs.size,max fr.2 (cs.size+1)))) (w.freeze ⟨b,cs.size,none⟩ 1):= {
     at_:=by simp [World.freeze,Array.getElem?_modify,hb]
     other:=λk hk=>by simp only [World.freeze];rw [if_neg (by omega)];simp only [Array.getElem?_modify];rw [if_neg (by omega)]
     size:=by simp [World.freeze]
     os:=rfl
     tape:=rfl
     output:=rfl }
    have h5:=hh.xt h3 hfz (by
     split
     ·exact .inr ⟨ZB0 _,by simp⟩
     ·rcases jV with h |h
      ·rename_i ft;exact absurd (by simpa using h) ft
      ·exact .inr ⟨by simp;omega,by simp;omega⟩) nv
    unfold Oper.wp
    rw [hex]
    exact hK _ _ _ rfl ⟨_,_,h5.put hd (av:=.s (.sl ek n)) (.inr ⟨b,o,cap,m,rfl,h2,h3,h4⟩) (by simp [AV.boxes,A0.boxes,SV.boxes])⟩
  ·exact hp.elim
end
end GL
namespace GL
inductive SP where
 |int
 |byte
 |str
 |bool
 |sl (ek:EK)
 |vz (ek:EK)
 |vw (ek:EK)
 |xb (i:Nat) (ek:EK)
abbrev SP.Ty:SP->Type
 |.int=>Int
 |.byte=>Int
 |.str=>ByteArray
 |.bool=>Bool
 |.sl _=>Nat
 |.vz ek=>List (EK.Ty ek)
 |.vw ek=>List (EK.Ty ek)
 |.xb _ _=>Nat
def SP.sv:(p:SP)->p.Ty->SV
 |.int,n=>.v (.int .i64 n)
 |.byte,n=>.v (.int .u8 n)
 |.str,s=>.v (.string s)
 |.bool,b=>.q b
 |.sl ek,n=>.sl ek n
 |.vz ek,l=>.vz ek l
 |.vw ek,l=>.vw ek l
 |.xb i ek,m=>.xs i ek.length 0 m
def SP.parse:(p:SP)->SV->Option p.Ty
 |.int,.v (.int .i64 n)=>some n
 |.byte,.v (.int .u8 n)=>some n
 |.str,.v (.string s)=>some s
 |.bool,.q b=>some b
 |.bool,.v (.bool b)=>some b
 |.sl ek,x=>ag7 ek x
 |.vz ek,.vz nT l=>tC nT ek l
 |.vz ek,.vw nT l=>tC nT ek l
 |.vz _,.v (.slice none 0 0)=>some []
 |.vw ek,.vw nT l=>tC nT ek l
 |.vw _,.v (.slice none 0 0)=>some []
 |.xb i ek,.xs j sz 0 m=>bif Nat.beq i j&&Nat.beq sz ek.length then some m else none
 |_,_=>none
def SP.fx {T:a8}{β:Nat->Nat}{p:SP}{x:SV}{v:p.Ty}(h:p.parse x=some v):(∀{y:Value},x.rel T β y->(p.sv v).rel T β y)/\∀i∈(p.sv v).boxes,i∈x.boxes:=by
 unfold SP.parse at h
 split at h
 ·cases h;exact⟨λhr=>hr,λ_ hi=>hi⟩
 ·cases h;exact⟨λhr=>hr,λ_ hi=>hi⟩
 ·cases h;exact⟨λhr=>hr,λ_ hi=>hi⟩
 ·cases h;exact⟨λhr=>hr,λ_ hi=>hi⟩
 ·cases h;exact⟨λhr=>hr,λ_ hi=>hi⟩
 ·exact⟨λhr=>y9 h hr,λi hi=>by simp [SP.sv,SV.boxes] at hi⟩
 ·obtain⟨rfl,hm⟩:=je h
  cases hm;exact⟨λhr=>hr,λ_ hi=>hi⟩
 ·obtain⟨rfl,hm⟩:=je h
  cases hm
  refine⟨λhr=>?_,λi hi=>by simp [SP.sv,SV.boxes] at hi⟩
  rcases hr with hr |⟨b,o,cap,cs,e,fr,h1,h2,h3,h4⟩
  ·exact .inl hr
  ·exact .inr ⟨b,o,cap,cs,h1,h2,.inl ⟨e,fr,h3⟩,h4⟩
 ·cases h;exact⟨λhr=>.inl ⟨rfl,none,0,hr⟩,λi hi=>by simp [SP.sv,SV.boxes] at hi⟩
 ·obtain⟨rfl,hm⟩:=je h
  cases hm;exact⟨λhr=>hr,λ_ hi=>hi⟩
 ·cases h;exact⟨λhr=>.inl ⟨rfl,none,0,hr⟩,λi hi=>by simp [SP.sv,SV.boxes] at hi⟩
 ·rename_i i ek j sz m
  cases hc:Nat.beq i j&&Nat.beq sz ek.length with
  |false=>rw [hc] at h;cases h
  |true=>
   rw [hc] at h;cases h
   simp only [ZB1] at hc
   have h1:i=j:=by simpa using hc.1
   have h2:sz=ek.length:=by simpa using hc.2
   subst h1;subst h2
   exact⟨λhr=>hr,λ_ hi=>hi⟩
 ·cases h
abbrev qR.Ty:List SP->Type
 |[]=>Unit
 |[p]=>p.Ty
 |p::q::l=>p.Ty×qR.Ty (q::l)
def qR.FQ:(l:List SP)->qR.Ty l->List SV
 |[],_=>[]
 |[p],x=>[p.sv x]
 |p::q::l,x=>p.sv x.1::qR.FQ (q::l) x.2
def qR.parse:(l:List SP)->List SV->Option (qR.Ty l)
 |[],[]=>some ()
 |[p],[x]=>p.parse x
 |p::q::l,x::m=>match p.parse x,qR.parse (q::l) m with
  |some v,some r=>some (v,r)
  |_,_=>none
 |_,_=>none
def qR.fx {T:a8}{β:Nat->Nat}:∀{l:List SP}{m:List SV}{v:qR.Ty l},qR.parse l m=some v->(∀{ys:List Value},dY T β m ys->dY T β (qR.FQ l v) ys)/\∀i∈ct (qR.FQ l v),i∈ct m
 |[],[],_,_=>⟨λh=>h,λi hi=>hi⟩
 |[],_::_,_,h=>by simp [qR.parse] at h
 |[p],[],_,h=>by simp [qR.parse] at h
 |[p],[x],v,h=>by
  have:=SP.fx (T:=T) (β:=β) (p:=p) h
  refine⟨λ{ys} h'=>?_,λi hi=>?_⟩
  ·match ys,h' with
   |[y],h'=>exact⟨this.1 h'.1,trivial⟩
  ·simp only [qR.FQ,ct,ZD4] at hi ⊢
   exact this.2 i hi
 |[p],_::_::_,v,h=>by simp [qR.parse] at h
 |p::q::l,[],v,h=>by simp [qR.parse] at h
 |p::q::l,x::m,v,h=>by
  simp only [qR.parse] at h
  split at h
  ·rename_i v1 r1 h1 h2
   cases h
   have g1:=SP.fx (T:=T) (β:=β) h1
   have g2:=qR.fx (T:=T) (β:=β) (l:=q::l) h2
   refine⟨λ{ys} h'=>?_,λi hi=>?_⟩
   ·match ys,h' with
    |y::ys,h'=>exact⟨g1.1 h'.1,g2.1 h'.2⟩
   ·simp only [qR.FQ,ct,ZB5] at hi ⊢
    rcases hi with hi |hi
    ·exact .inl (g1.2 i hi)
    ·exact .inr (g2.2 i hi)
  ·cases h
inductive AP where
 |s (p:SP)
 |a (l:List SP)
 |b (i:Nat)
 |r (ek:EK)
 |fn (f:Nat) (is:List Nat)
 |vs (l:List SP)
abbrev AP.Ty:AP->Type
 |.s p=>p.Ty
 |.a l=>qR.Ty l
 |.b _=>Unit
 |.r ek=>List (EK.Ty ek)
 |.fn _ _=>Unit
 |.vs l=>qR.Ty l
def SP.cv:(p:SP)->p.Ty->CV
 |.int,n=>.v (.int .i64 n)
 |.byte,n=>.v (.int .u8 n)
 |.str,s=>.v (.string s)
 |.bool,b=>.q b
 |.vz ek,l=>.vz ek l
 |_,_=>.v undef
def SP.RB:SP->Bool
 |.int=>true
 |.byte=>true
 |.str=>true
 |.bool=>true
 |.vz _=>true
 |_=>false
def qR.RB:List SP->Bool
 |[]=>true
 |p::l=>p.RB&&qR.RB l
def qR.cvl:(l:List SP)->qR.Ty l->List CV
 |[],_=>[]
 |[p],x=>[p.cv x]
 |p::q::l,x=>p.cv x.1::qR.cvl (q::l) x.2
def SP.PJ {T:a8}{β:Nat->Nat}{p:SP}(h:p.RB=true) {x:p.Ty}{v:Value}(hr:(p.sv x).rel T β v):(p.cv x).rel T v:=by
 cases p<;>first|exact hr|cases h
def qR.PJ {T:a8}{β:Nat->Nat}:∀{l:List SP},qR.RB l=true->∀{x:qR.Ty l}{vs:List Value},dY T β (qR.FQ l x) vs->uk T (qR.cvl l x) vs
 |[],_,_,vs,hr=>by cases vs<;>first|trivial|exact hr.elim
 |[p],h,x,vs,hr=>by
  simp only [qR.RB,ZB1] at h
  match vs,hr with
  |[v],hr=>exact⟨SP.PJ h.1 hr.1,trivial⟩
  |_::_::_,hr=>exact hr.2.elim
 |p::q::l,h,x,vs,hr=>by
  simp only [qR.RB,ZB1] at h
  match vs,hr with
  |v::vs,hr=>exact⟨SP.PJ h.1 hr.1,qR.PJ (l:=q::l) (by simp [qR.RB,h.2]) hr.2⟩
def zc:List Nat->List (Nat×Nat)
 |[]=>[]
 |i::l=>(i,0)::zc l
def akr:List Nat->List (Nat×Nat)->Bool
 |[],[]=>true
 |i::l,p::m=>(Nat.beq i p.1&&Nat.beq 0 p.2)&&akr l m
 |_,_=>false
theorem afa:∀{l:List Nat}{m:List (Nat×Nat)},akr l m=true->m=zc l
 |[],[],_=>rfl
 |[],_::_,h=>by cases h
 |_::_,[],h=>by cases h
 |i::l,(a,b)::m,h=>by
  simp only [akr,ZB1,Nat.beq_eq] at h
  obtain⟨⟨rfl,rfl⟩,h2⟩:=h
  rw [zc,afa h2]
def AP.av:(p:AP)->p.Ty->AV
 |.s p,x=>.s (p.sv x)
 |.a l,x=>.a (qR.FQ l x)
 |.b i,_=>.s (.bp i 0)
 |.r ek,l=>.rs ek l
 |.fn f is,_=>.fn f (zc is)
 |.vs l,x=>.s (.vs (qR.cvl l x) 0)
def AP.parse:(p:AP)->AV->Option p.Ty
 |.s p,.o (.s x)=>p.parse x
 |.a l,.o (.a m)=>qR.parse l m
 |.b i,.o (.s (.bp j 0))=>bif Nat.beq i j then some () else none
 |.r ek,.rs nT l=>tC nT ek l
 |.fn f is,.fn f' l=>bif Nat.beq f f'&&akr is l then some () else none
 |.vs l,.o (.s (.vs m 0))=>bif qR.RB l then qR.parse l (cvs m) else none
 |_,_=>none
def AP.fx {T:a8}{β:Nat->Nat}{p:AP}{x:AV}{v:p.Ty}(h:p.parse x=some v):(∀{y:Value},x.rel T β y->(p.av v).rel T β y)/\(∀{cs:Array Value},x.tW T β cs->(p.av v).tW T β cs)/\∀i∈(p.av v).boxes,i∈x.boxes:=by
 unfold AP.parse at h
 split at h
 ·rename_i q x'
  exact⟨λhr=>(SP.fx h).1 hr,λhc=>hc.elim,λi hi=>(SP.fx (T:=T) (β:=β) h).2 i hi⟩
 ·rename_i l m
  refine⟨λhr=>?_,λhc=>?_,λi hi=>?_⟩
  ·obtain⟨cs,e,hl⟩:=hr
   exact⟨cs,e,(qR.fx h).1 hl⟩
  ·exact (qR.fx h).1 hc
  ·exact (qR.fx (T:=T) (β:=β) h).2 i hi
 ·rename_i i j
  cases hb:Nat.beq i j with
  |false=>rw [hb] at h;cases h
  |true=>
   have:i=j:=by simpa using hb
   subst this
   exact⟨λhr=>hr,λhc=>hc.elim,λk hk=>hk⟩
 ·rename_i ek nT l
  obtain⟨rfl,hm⟩:=je h
  cases hm
  exact⟨λhr=>hr,λhc=>hc,λk hk=>hk⟩
 ·rename_i f is f' l
  cases hb:Nat.beq f f'&&akr is l with
  |false=>rw [hb] at h;cases h
  |true=>
   simp only [ZB1,Nat.beq_eq] at hb
   obtain⟨rfl,h2⟩:=hb
   rw [afa h2]
   exact⟨λhr=>hr,λhc=>hc.elim,λk hk=>hk⟩
 ·rename_i l m
  cases hb:qR.RB l with
  |false=>rw [hb] at h;cases h
  |true=>
   rw [hb] at h
   have h':qR.parse l (cvs m)=some v:=h
   refine⟨λhr=>?_,λhc=>hc.elim,λk hk=>by simp [AP.av,AV.boxes,A0.boxes,SV.boxes] at hk⟩
   obtain⟨b,cs,e,h1,h2⟩:=hr
   exact⟨b,cs,e,h1,qR.PJ (β:=β) hb ((qR.fx h').1 (DR h2))⟩
 ·cases h
abbrev APs.Ty:List AP->Type
 |[]=>Unit
 |[p]=>p.Ty
 |p::q::l=>p.Ty×APs.Ty (q::l)
def APs.avs:(l:List AP)->APs.Ty l->List AV
 |[],_=>[]
 |[p],x=>[p.av x]
 |p::q::l,x=>p.av x.1::APs.avs (q::l) x.2
def APs.parse:(l:List AP)->List AV->Option (APs.Ty l)
 |[],[]=>some ()
 |[p],[x]=>p.parse x
 |p::q::l,x::m=>match p.parse x,APs.parse (q::l) m with
  |some v,some r=>some (v,r)
  |_,_=>none
 |_,_=>none
theorem APs.jA:∀(l:List AP) (v:APs.Ty l),(APs.avs l v).length=l.length
 |[],_=>rfl
 |[_],_=>rfl
 |p::q::l,v=>by simp [APs.avs,APs.jA (q::l) v.2]
def APs.MX:∀{l:List AP}{m:List AV}{v:APs.Ty l},APs.parse l m=some v->m.length=l.length/\∀(i:Nat) (av:AV),(APs.avs l v)[i]?=some av->∃(p:AP) (x:AV) (u:p.Ty),m[i]?=some x/\p.parse x=some u/\av=p.av u
 |[],[],_,_=>⟨rfl,by simp [APs.avs]⟩
 |[],_::_,_,h=>by simp [APs.parse] at h
 |[p],[],_,h=>by simp [APs.parse] at h
 |[p],[x],v,h=>by
  refine⟨ζ,λi av hi=>?_⟩
  cases i with
  |zero=>
   have:p.av v=av:=by simpa [APs.avs] using hi
   exact⟨p,x,v,rfl,h,this.symm⟩
  |succ i=>simp [APs.avs] at hi
 |[p],_::_::_,v,h=>by simp [APs.parse] at h
 |p::q::l,[],v,h=>by simp [APs.parse] at h
 |p::q::l,x::m,v,h=>by
  simp only [APs.parse] at h
  split at h
  ·rename_i v1 r1 h1 h2
   cases h
   obtain⟨g1,g2⟩:=APs.MX (l:=q::l) h2
   refine⟨by simp at g1 ⊢;exact g1,λi av hi=>?_⟩
   cases i with
   |zero=>
    have:p.av v1=av:=by simpa [APs.avs] using hi
    exact⟨p,x,v1,rfl,h1,this.symm⟩
   |succ i=>
    simp only [APs.avs,List.getElem?_cons_succ] at hi
    obtain⟨p',x',u,g3,g4,g5⟩:=g2 i av hi
    exact⟨p',x',u,by simpa using g3,g4,g5⟩
  ·cases h
structure cu where
 A:List AP
 B:List AP
 pre:APs.Ty A->APs.Ty B->Prop
 α:APs.Ty A->APs.Ty B->Type:=λ_ _=>Unit
 φ:∀x y,α x y->Prop:=λ_ _ _=>True
 r:∀x y,α x y->AV
 o:∀x y,α x y->List AV
 nf:Nat:=0
 mv:Bool:=false
 ro:Bool:=false
def AR (P:Program) (f:FuncId) (c:cu):Prop:=
 ∀x y,c.pre x y->TC P f c.mv (APs.avs c.A x) (APs.avs c.B y) (λr os=>∃z,c.φ x y z/\r=c.r x y z/\os=c.o x y z/\os.length=c.B.length+c.nf)
end GL
namespace GL
section
variable {P:Program}{N:Nat}{τ:St}
variable {d:Nat}{x y z:Operand}{t u ty:TypeId}{pos:String}{af:Array Edge}{g:Option (Nat×Bool)}
def Enters (P : Program) (f : FuncId) : Prop := ∃ fn, P.funcs[f]? = some fn ∧ fn.body.isSome = true ∧ fn.name ≠ "runtime.NumGoroutine"
def afu {f:FuncId}(h:Enters P f) {args:Array Operand}{tys:Array TypeId}{ρ:Operand->Value}(hρ:ρ (.func f)= .func (.func f) #[] #[]) {w:World}{dst:Option Nat}:
  (execOp ρ ⟨dst,.call ⟨.value (.func f),args,tys⟩,ty,pos,af,g⟩).run P w= .ok (.enter f (args.map ρ)) w:=by
 obtain⟨fn,h1,h2,h3⟩:=h
 obtain⟨cd,hcd⟩:=Option.isSome_iff_exists.1 h2
 simp [execOp,resolve,hρ,Deferred.ofValue,invoke,callFunc,h1,hcd,h3]
def adA:List Operand->(List AV->Q Rs)->Q Rs
 |[],k=>k []
 |x::l,k=>cq x λv=>adA l λvs=>k (v::vs)
def evA (τ:St):List Operand->Option (List AV)
 |[]=>some []
 |x::l=>match ev τ x with
  |some v=>match evA τ l with
   |some vs=>some (v::vs)
   |none=>none
  |none=>none
theorem FE (τ:St):∀(l:List Operand) (k:List AV->Q Rs),(adA l k).run τ=match evA τ l with
  |some v=>(k v).run τ
  |none=>.no
 |[],k=>rfl
 |x::l,k=>by
  simp only [adA,dJ,evA]
  cases ev τ x with
  |none=>rfl
  |some v=>
   simp only [FE τ l]
   cases evA τ l<;>rfl
def aiV:SP->Bool
 |.xb _ _=>true
 |_=>false
def amr (p:SP) (v:SV):List Nat:=
 match v with
 |.xs i _ _ _=>bif aiV p then [i] else []
 |x=>x.boxes
def ams:List SP->List SV->List Nat
 |p::ps,x::l=>amr p x++ams ps l
 |_,_=>[]
def kept (p:AP) (v:AV):List Nat:=
 match p,v with
 |.s p,.o (.s x)=>amr p x
 |.a l,.o (.a m)=>ams l m
 |.b _,.o (.s x)=>x.boxes
 |.fn _ _,.fn _ l=>kz l
 |_,_=>[]
def aez:List AP->List AV->List Nat
 |p::ps,x::l=>kept p x++aez ps l
 |_,_=>[]
def R9 (pt kp:Bool) (ids:List Nat) (v:SV) (k:Prop->SV->Q Rs):Q Rs:=
 match v with
 |.xs i sz o m=>match kp with
  |true=>k True (.xs i sz o m)
  |false=>bif jo ids i then .ret .no else uZ i fun
   |.rs ek l=>bif Nat.beq ek.length sz then (match pt with
    |true=>k (o+m<=l.length) (.vz ek ((l.drop o).take m))
    |false=>k (o=0/\m=l.length) (.vz ek l)) else .ret .no
   |_=>.ret .no
 |x=>k True x
def N4 (pt:Bool) (ids:List Nat):List SP->List SV->(Prop->List SV->Q Rs)->Q Rs
 |[],[],k=>k True []
 |p::ps,x::l,k=>R9 pt (aiV p) ids x λp y=>N4 pt ids ps l λq m=>k (p/\q) (y::m)
 |_,_,_=>.ret .no
def wU (pt:Bool) (ids:List Nat):List SV->(Prop->List CV->Q Rs)->Q Rs
 |[],k=>k True []
 |.v x::l,k=>wU pt ids l λq m=>k q (.v x::m)
 |.q b::l,k=>wU pt ids l λq m=>k q (.q b::m)
 |.vz ek r::l,k=>wU pt ids l λq m=>k q (.vz ek r::m)
 |.vw ek r::l,k=>wU pt ids l λq m=>k q (.vz ek r::m)
 |.xs j sz o n::l,k=>bif jo ids j then .ret .no else uZ j fun
  |.rs ek r=>bif Nat.beq ek.length sz then wU pt ids l λq m=>k ((o=0/\n=r.length)/\q) (.vz ek r::m) else .ret .no
  |_=>.ret .no
 |_::_,_=>.ret .no
def alg (pt:Bool) (ids:List Nat) (ap:AP) (v:AV) (k:Prop->AV->Q Rs):Q Rs:=
 match ap,v with
 |.fn _ _,.fn f l=>k True (.fn f l)
 |.vs _,.o (.s (.vs m 0))=>k True (.s (.vs m 0))
 |.vs _,.o (.s (.bp i 0))=>bif jo ids i then .ret .no else uZ i fun
  |.o (.a l)=>wU pt ids l λp m=>k p (.s (.vs m 0))
  |_=>.ret .no
 |.s p,.o (.s x)=>R9 pt (aiV p) ids x λp y=>k p (.s y)
 |.a l,.o (.a m)=>N4 pt ids l m λp m=>k p (.a m)
 |.b _,.o (.s x)=>R9 pt true ids x λp y=>k p (.s y)
 |_,_=>.ret .no
def N5 (pt:Bool) (ids:List Nat):List AP->List AV->(Prop->List AV->Q Rs)->Q Rs
 |[],[],k=>k True []
 |p::ps,x::l,k=>alg pt ids p x λp y=>N5 pt ids ps l λq m=>k (p/\q) (y::m)
 |_,_,_=>.ret .no
def ib:List AV->List Nat
 |[]=>[]
 |x::l=>x.boxes++ib l
def QB:List Nat->(List AV->Q Rs)->Q Rs
 |[],k=>k []
 |i::l,k=>uZ i λv=>QB l λvs=>k (v::vs)
def FD (base:Nat):Nat->Q Rs->Q Rs
 |0,k=>k
 |n+1,k=>.ask (.b (base+n)) fun
  |none=>FD base n k
  |some _=>.ret .no
def GK (g:Nat->Nat):List AV->List AV
 |[]=>[]
 |x::l=>x.mJ g::GK g l
def qn (ids:List Nat) (base:Nat) (j:Nat):Nat:=match ids[j]? with
 |some i=>i
 |none=>base+(j-ids.length)
def atA (os:List AV) (j:Nat):AV:=match os[j]? with
 |some x=>x
 |none=>.zz
def LG {α:Type}(o:α->List AV) (g:Nat->Nat):Nat->List Nat->List (gx×(α->AV))
 |_,[]=>[]
 |j,i::l=>(.b i,λz=>(atA (o z) j).mJ g)::LG o g (j+1) l
def NZ:List AV->Bool
 |[]=>true
 |.o (.a _)::l=>NZ l
 |.rs _ _::l=>NZ l
 |_::_=>false
def jg (mv:Bool) (d:Nat):Nat:=bif mv then 1000000000+10000*(d+1) else 10000*(d+1)
def akt (c:cu) (d:Nat) (ids:List Nat) (x:APs.Ty c.A) (y:APs.Ty c.B):List (gx×(c.α x y->AV)):=
 match c.ro with
 |false=>LG (c.o x y) (qn ids (jg c.mv d)) 0 (ids++cV (jg c.mv d) c.nf)
 |true=>LG (c.o x y) (qn ids (jg c.mv d)) ids.length (cV (jg c.mv d) c.nf)
def TZ (c:cu) (d:Nat) (ids:List Nat) (bs:List AV) (x:APs.Ty c.A) (y:APs.Ty c.B) (p:Prop):Prop:=
 match c.ro with
 |false=>p
 |true=>p/\∀z,c.φ x y z->GK (qn ids (jg c.mv d)) ((c.o x y z).take ids.length)=bs
def akv {c:cu}{d:Nat}{ids:List Nat}{bs:List AV}{x:APs.Ty c.A}{y:APs.Ty c.B}{p:Prop}(h:TZ c d ids bs x y p):p:=by
 unfold TZ at h
 split at h
 ·exact h
 ·exact h.1
def apG (d:Nat) (c:cu) (p:Prop) (ids:List Nat) (bs:List AV) (x:APs.Ty c.A) (y:APs.Ty c.B):Rs:=
 .ex (TZ c d ids bs x y (p/\c.pre x y)) (c.α x y) (c.φ x y) ((.s d,λz=>(c.r x y z).mJ (qn ids (jg c.mv d)))::akt c d ids x y)
def akw (pt:Bool) (d:Nat) (c:cu) (avs:List AV) (ids:List Nat):Q Rs:=
 QB ids λbs=>bif NZ bs then N5 pt ids c.A avs λp as=>
  match APs.parse c.A (GK (idxOf ids) as),APs.parse c.B (GK (idxOf ids) bs) with
  |some x,some y=>bif ((ib as).all (jo ids)&&(ib bs).all (jo ids))&&(nodupB ids&&Nat.ble ids.length 1000) then FD (jg c.mv d) c.nf (.ret (apG d c p ids bs x y)) else .ret .no
  |_,_=>.ret .no else .ret .no
def dd:List Nat->List Nat->List Nat
 |[],acc=>acc
 |i::l,acc=>bif jo acc i then dd l acc else dd l (i::acc)
def yA:List Nat->List Nat->(List Nat->Q Rs)->Q Rs
 |[],acc,k=>k acc
 |i::l,acc,k=>bif jo acc i then yA l acc k else yA l (i::acc) k
theorem H7:∀(l acc:List Nat) (k:List Nat->Q Rs),yA l acc k=k (dd l acc)
 |[],_,_=>rfl
 |i::l,acc,k=>by
  simp only [yA,dd]
  cases jo acc i with
  |true=>exact H7 l acc k
  |false=>exact H7 l (i::acc) k
def CK:List Nat->List Nat->(List Nat->Q Rs)->Q Rs
 |[],m,k=>k m
 |i::l,m,k=>CK l (i::m) k
theorem S5:∀(l m:List Nat) (k:List Nat->Q Rs),CK l m k=k (l.reverse++m)
 |[],_,_=>rfl
 |i::l,m,k=>by simp only [CK,List.reverse_cons,ZC5,List.singleton_append];exact S5 l (i::m) k
def aku (tW:FuncId->Option cu) (pt:Bool) (d:Nat) (f:FuncId) (args:List Operand):Q Rs:=
 match tW f with
 |none=>.ret .no
 |some c=>adA args λavs=>yA (aez c.A avs) [] λr0=>CK r0 [] λanw=>QB anw λbs0=>yA (ib bs0) r0 λr1=>CK r1 [] λids=>akw pt d c avs ids
def aoO (τ:St) (i:Nat):Prop:=(∃ek l,τ (.b i)=some (.rs ek l))\/∃l,τ (.b i)=some (.o (.a l))
noncomputable def eH (T:a8) (β:Nat->Nat) (τ:St) (w:World) (ids:List Nat):a8:=λb=>
 match T b with
 |some (.fz _ _ _)=>(match w.heap[b]? with
  |some (.cells cs e fr)=>some (.ln cs e fr)
  |_=>none)
 |some (.bx n)=>open Classical in if∃i,aoO τ i/\i∉ids/\β i=b then (match w.heap[b]? with
  |some (.cells cs e fr)=>some (.ln cs e fr)
  |_=>none) else some (.bx n)
 |k=>k
section
variable {c:Ctx}{T:a8}{β:Nat->Nat}{a:Act}{w:World}{ids:List Nat}
def D6 (h:WT T w):WT (eH T β τ w ids) w:=by
 intro b k hb
 unfold eH at hb
 split at hb
 ·split at hb
  ·rename_i cs e fr hc;cases hb;exact hc
  ·cases hb
 ·rename_i n hT
  split at hb
  ·split at hb
   ·rename_i cs e fr hc;cases hb;exact hc
   ·cases hb
  ·cases hb;exact h b _ hT
 ·exact h b k hb
def acE (hg:adG T):pY (eH T β τ w ids):=by
 refine⟨?_,λg hm=>by obtain⟨cs,e,fr,h1,h2⟩:=hg g hm;exact⟨cs,e,fr,by unfold eH;rw [h1],h2⟩⟩
 intro b ek n cs hb
 unfold eH at hb
 split at hb
 ·split at hb<;>cases hb
 ·split at hb
  ·split at hb<;>cases hb
  ·cases hb
 ·rename_i h1 h2;exact h1 _ _ _ hb
def pL (h:WT T w) {b:Nat}{cs:Array Value}(hr:rdT T b cs):rdT (eH T β τ w ids) b cs:=by
 rcases hr with ⟨e,fr,h1⟩ |⟨e,fr,h1⟩ |⟨ek,n,h1⟩
 ·exact .inl ⟨e,fr,by unfold eH;rw [h1]⟩
 ·exact .inr (.inl ⟨e,fr,by unfold eH;rw [h1]⟩)
 ·obtain⟨_,e,fr,l,h2,_⟩:=h b _ h1
  exact .inr (.inl ⟨e,fr,by unfold eH;rw [h1];simp only;rw [h2]⟩)
def N3 (hh:Holds N c T β τ a w) {i:Nat}(hi:i∉ids) {ek:EK}{l:List (EK.Ty ek)}(hb:τ (.b i)=some (.rs ek l)) {cs:Array Value}{e:TypeId}{fr:Nat×Nat}(hc:w.heap[β i]?=some (.cells cs e fr)):rdT (eH T β τ w ids) (β i) cs:=by
 obtain⟨⟨n,hn⟩,_⟩:=hh.apart i (fg hb (by intro e;cases e))
 refine .inr (.inl ⟨e,fr,?_⟩)
 unfold eH
 rw [hn]
 simp only
 rw [if_pos ⟨i,.inl ⟨ek,l,hb⟩,hi,rfl⟩,hc]
def alf (hh:Holds N c T β τ a w) {i:Nat}(hi:i∉ids) {l:List SV}(hb:τ (.b i)=some (.o (.a l))) {cs:Array Value}{e:TypeId}{fr:Nat×Nat}(hc:w.heap[β i]?=some (.cells cs e fr)):rdT (eH T β τ w ids) (β i) cs:=by
 obtain⟨⟨n,hn⟩,_⟩:=hh.apart i (fg hb (by intro e;cases e))
 refine .inr (.inl ⟨e,fr,?_⟩)
 unfold eH
 rw [hn]
 simp only
 rw [if_pos ⟨i,.inr ⟨l,hb⟩,hi,rfl⟩,hc]
def aai (hh:Holds N c T β τ a w) {i n:Nat}(hi:i∈ids) (hl:live τ i) (hn:T (β i)=some (.bx n)):eH T β τ w ids (β i)=some (.bx n):=by
 unfold eH
 rw [hn]
 simp only
 rw [if_neg]
 rintro⟨j,HZ,hji,e⟩
 have hlj:live τ j:=by
  rcases HZ with ⟨ek,m,hj⟩ |⟨m,hj⟩
  ·exact fg hj (by intro e;cases e)
  ·exact fg hj (by intro e;cases e)
 have:=hh.inj j i hlj hl e
 subst this
 exact hji hi
def YN (h:WT T w) {x:SV}(hx:∀i sz o m,x≠.xs i sz o m) {v:Value}(hr:x.rel T β v):x.rel (eH T β τ w ids) β v:=by
 cases x with
 |v x=>exact hr
 |q b=>exact hr
 |bp i o=>exact hr
 |xp i sz k j=>exact hr
 |xs i sz o m=>exact absurd rfl (hx i sz o m)
 |ep ek j=>obtain⟨b,o,n,h1,h2,h3⟩:=hr;exact⟨b,o,n,h1,by unfold eH;rw [h2],h3⟩
 |sl ek len=>
  rcases hr with hr |⟨b,o,cap,n,h1,h2,h3,h4⟩
  ·exact .inl hr
  ·exact .inr ⟨b,o,cap,n,h1,h2,by unfold eH;rw [h3],h4⟩
 |vw ek l=>
  rcases hr with hr |⟨b,o,cap,cs,e,fr,h1,h2,h3,h4⟩
  ·exact .inl hr
  ·exact .inr ⟨b,o,cap,cs,e,fr,h1,h2,by unfold eH;rw [h3],h4⟩
 |vz ek l=>
  rcases hr with hr |⟨b,o,cap,cs,h1,h2,h3,h4⟩
  ·exact .inl hr
  ·exact .inr ⟨b,o,cap,cs,h1,h2,pL h h3,h4⟩
 |vp ek x j=>obtain⟨b,o,cs,h1,h2,h3,h4⟩:=hr;exact⟨b,o,cs,h1,h2,pL h h3,h4⟩
 |vs l j=>obtain⟨b,cs,h1,h2,h3⟩:=hr;exact⟨b,cs,h1,pL h h2,KJ (λ_ _=>pL h) h3⟩
 |er b=>exact hr
 |e0=>exact hr
def YO (hh:Holds N c T β τ a w) (xf:∀i∈ids,live τ i) {x:SV}(hx:∀i∈x.boxes,i∈ids) {v:Value}(hr:x.rel T β v):x.rel (eH T β τ w ids) β v:=by
 by_cases hxs:∃i sz o m,x= .xs i sz o m
 ·obtain⟨i,sz,o,m,rfl⟩:=hxs
  have hi:i∈ids:=hx i (by simp [SV.boxes])
  rcases hr with hr |⟨cap,n,h1,h2,h3,h4⟩
  ·exact .inl hr
  ·exact .inr ⟨cap,n,h1,h2,aai hh hi (xf i hi) h3,h4⟩
 ·exact YN hh.typed (λi sz o m e=>hxs ⟨i,sz,o,m,e⟩) hr
def RS (hh:Holds N c T β τ a w) (xf:∀i∈ids,live τ i):∀{x:List SV}{v:List Value},(∀i∈ct x,i∈ids)->dY T β x v->dY (eH T β τ w ids) β x v
 |[],[],_,_=>trivial
 |[],_::_,_,h=>h.elim
 |_::_,[],_,h=>h.elim
 |x::l,v::vs,hx,h=>by
  simp only [ct,ZB5] at hx
  exact⟨YO hh xf (λi hi=>hx i (.inl hi)) h.1,RS hh xf (λi hi=>hx i (.inr hi)) h.2⟩
def akj (hh:Holds N c T β τ a w) (xf:∀i∈ids,live τ i) {x:AV}{cs:Array Value}(hx:∀i∈x.boxes,i∈ids) (hr:x.tW T β cs):x.tW (eH T β τ w ids) β cs:=by
 cases x with
 |o x=>
  cases x with
  |s x=>exact hr
  |a l=>exact RS hh xf hx hr
 |_=>exact hr
def HN {pt:Bool}(hh:Holds N c T β τ a w) (xf:∀i∈ids,live τ i) {kp:Bool}{v:SV}{y:Value}(hr:v.rel T β y) {k:Prop->SV->Q Rs}(hp:((R9 pt kp ids v k).run τ).pre):
  ∃p v',(R9 pt kp ids v k).run τ=(k p v').run τ/\(p->(∀i∈v'.boxes,i∈ids)->v'.rel (eH T β τ w ids) β y):=by
 unfold R9 at hp ⊢
 split at hp
 ·rename_i i sz o m
  cases kp with
  |true=>exact⟨True,_,rfl,λ_ hb=>YO hh xf hb hr⟩
  |false=>
   simp only at hp ⊢
   cases hmi:jo ids i with
   |true=>rw [hmi] at hp;exact hp.elim
   |false=>
    have hni:i∉ids:=λh=>by rw [gn.2 h] at hmi;cases hmi
    rw [hmi] at hp
    simp only [cond_false] at hp ⊢
    simp only [uZ,Q.run] at hp ⊢
    cases hb:τ (.b i) with
    |none=>rw [hb] at hp;exact hp.elim
    |some av=>
     rw [hb] at hp
     simp only at hp ⊢
     split at hp
     ·rename_i ek l
      cases hc:Nat.beq ek.length sz with
      |false=>rw [hc] at hp;exact hp.elim
      |true=>
       have db:ek.length=sz:=by simpa using hc
       subst db
       obtain⟨cs,te,lj,_,z,hfl,_⟩:=hh.boxes i _ hb (by intro e;cases e)
       cases pt with
       |true=>
        refine⟨o+m<=l.length,.vz ek ((l.drop o).take m),ζ,λhle _=>?_⟩
        have hlen:((l.drop o).take m).length=m:=by simp;omega
        rcases hr with ⟨rfl,p,rfl⟩ |⟨cap,n,rfl,hmc,_⟩
        ·exact .inl ⟨by simp,p,0,rfl⟩
        ·exact .inr ⟨β i,o*ek.length,cap,cs,by rw [hlen],by rw [hlen];exact hmc,N3 hh hni hb lj,xo hfl o m⟩
       |false=>
        refine⟨o=0/\m=l.length,.vz ek l,ζ,λhle _=>?_⟩
        obtain⟨rfl,rfl⟩:=hle
        rcases hr with ⟨AG,p,rfl⟩ |⟨cap,n,rfl,hmc,_⟩
        ·exact .inl ⟨ZE2.1 AG,p,0,rfl⟩
        ·exact .inr ⟨β i,0*ek.length,cap,cs,rfl,hmc,N3 hh hni hb lj,by have:=xo hfl 0 l.length;simpa using this⟩
     ·exact hp.elim
 ·rename_i ft
  exact⟨True,_,rfl,λ_ _=>YN hh.typed ft hr⟩
def SA {pt:Bool}(hh:Holds N c T β τ a w) (xf:∀i∈ids,live τ i):∀{ps:List SP}{v:List SV}{y:List Value},dY T β v y->∀{k:Prop->List SV->Q Rs},((N4 pt ids ps v k).run τ).pre->
  ∃p v',(N4 pt ids ps v k).run τ=(k p v').run τ/\(p->(∀i∈ct v',i∈ids)->dY (eH T β τ w ids) β v' y)
 |[],[],[],_,k,hp=>⟨True,[],rfl,λ_ _=>trivial⟩
 |[],[],_::_,h,_,_=>h.elim
 |_::_,[],_,_,_,hp=>by simp only [N4] at hp;exact hp.elim
 |[],_::_,_,_,_,hp=>by simp only [N4] at hp;exact hp.elim
 |_::_,_::_,[],h,_,_=>h.elim
 |p0::ps,x::l,y::ys,h,k,hp=>by
  simp only [N4] at hp ⊢
  obtain⟨p,x',h1,h2⟩:=HN hh xf h.1 hp
  rw [h1] at hp ⊢
  obtain⟨q,l',g1,g2⟩:=SA hh xf h.2 hp
  refine⟨p/\q,x'::l',g1,λhpq hb=>?_⟩
  simp only [ct,ZB5] at hb
  exact⟨h2 hpq.1 λi hi=>hb i (.inl hi),g2 hpq.2 λi hi=>hb i (.inr hi)⟩
theorem HO {pt:Bool}(hh:Holds N c T β τ a w):∀{v:List SV}{y:List Value},dY T β v y->∀{k:Prop->List CV->Q Rs},((wU pt ids v k).run τ).pre->
  ∃p v',(wU pt ids v k).run τ=(k p v').run τ/\(p->uk (eH T β τ w ids) v' y)
 |[],[],_,k,hp=>⟨True,[],rfl,λ_=>trivial⟩
 |[],_::_,h,_,_=>h.elim
 |_::_,[],h,_,_=>h.elim
 |x::l,y::ys,h,k,hp=>by
  have simple:∀(cv:CV),(∀k,wU pt ids (x::l) k=wU pt ids l λq m=>k q (cv::m))->cv.rel (eH T β τ w ids) y->∃p v',(wU pt ids (x::l) k).run τ=(k p v').run τ/\(p->uk (eH T β τ w ids) v' (y::ys)):=λcv e hr=>by
   rw [e] at hp ⊢
   obtain⟨p,v',h1,h2⟩:=HO hh h.2 hp
   exact⟨p,cv::v',h1,λhpp=>⟨hr,h2 hpp⟩⟩
  cases x with
  |v x=>exact simple (.v x) (λ_=>rfl) h.1
  |q b=>exact simple (.q b) (λ_=>rfl) h.1
  |vz ek r=>exact simple (.vz ek r) (λ_=>rfl) (CV.ahQ (x:=.vz ek r) (λ_ _=>pL hh.typed) h.1)
  |vw ek r=>
   refine simple (.vz ek r) (λ_=>rfl) ?_
   rcases h.1 with hr |⟨b,o,cap,cs,e,fr,h1,h2,h3,h4⟩
   ·exact .inl hr
   ·exact .inr ⟨b,o,cap,cs,h1,h2,pL hh.typed (.inl ⟨e,fr,h3⟩),h4⟩
  |xs j sz o n=>
   simp only [wU] at hp ⊢
   cases hmi:jo ids j with
   |true=>rw [hmi] at hp;exact hp.elim
   |false=>
    have hni:j∉ids:=λh=>by rw [gn.2 h] at hmi;cases hmi
    rw [hmi] at hp
    simp only [cond_false] at hp ⊢
    simp only [uZ,Q.run] at hp ⊢
    cases hb:τ (.b j) with
    |none=>rw [hb] at hp;exact hp.elim
    |some av=>
     rw [hb] at hp
     simp only at hp ⊢
     split at hp
     ·rename_i ek r
      cases hc:Nat.beq ek.length sz with
      |false=>rw [hc] at hp;exact hp.elim
      |true=>
       rw [hc] at hp
       have db:ek.length=sz:=by simpa using hc
       subst db
       obtain⟨cs,te,lj,_,z,hfl,_⟩:=hh.boxes j _ hb (by intro e;cases e)
       obtain⟨p,v',h1,h2⟩:=HO hh h.2 hp
       refine⟨(o=0/\n=r.length)/\p,.vz ek r::v',h1,λhle=>⟨?_,h2 hle.2⟩⟩
       obtain⟨rfl,rfl⟩:=hle.1
       rcases h.1 with ⟨AG,p,rfl⟩ |⟨cap,n,rfl,hmc,_⟩
       ·exact .inl ⟨ZE2.1 AG,p,0,rfl⟩
       ·exact .inr ⟨β j,0*ek.length,cap,cs,rfl,hmc,N3 hh hni hb lj,by have:=xo hfl 0 r.length;simpa using this⟩
     ·exact hp.elim
  |_=>exact hp.elim
def aiO {pt:Bool}(hh:Holds N c T β τ a w) (xf:∀i∈ids,live τ i) {ap:AP}{v:AV}{y:Value}(hr:v.rel T β y) {k:Prop->AV->Q Rs}(hp:((alg pt ids ap v k).run τ).pre):
  ∃p v',(alg pt ids ap v k).run τ=(k p v').run τ/\(p->(∀i∈v'.boxes,i∈ids)->v'.rel (eH T β τ w ids) β y):=by
 unfold alg at hp ⊢
 split at hp
 ·exact⟨True,_,rfl,λ_ _=>hr⟩
 ·rename_i m
  obtain⟨b,cs,h1,h2,h3⟩:=hr
  exact⟨True,_,rfl,λ_ _=>⟨b,cs,h1,pL hh.typed h2,KJ (λ_ _=>pL hh.typed) h3⟩⟩
 ·rename_i i
  cases hmi:jo ids i with
  |true=>rw [hmi] at hp;exact hp.elim
  |false=>
   have hni:i∉ids:=λh=>by rw [gn.2 h] at hmi;cases hmi
   rw [hmi] at hp
   simp only [cond_false] at hp ⊢
   simp only [uZ,Q.run] at hp ⊢
   cases hb:τ (.b i) with
   |none=>rw [hb] at hp;exact hp.elim
   |some av=>
    rw [hb] at hp
    simp only at hp ⊢
    split at hp
    ·rename_i l
     obtain⟨cs,te,lj,cB⟩:=hh.boxes i _ hb (by intro e;cases e)
     obtain⟨p,v',h1,h2⟩:=HO hh (pt:=pt) (v:=l) (y:=cs.toList) cB hp
     exact⟨p,_,h1,λhpp _=>⟨β i,cs,hr,alf hh hni hb lj,h2 hpp⟩⟩
    ·exact hp.elim
 ·obtain⟨p,x',h1,h2⟩:=HN hh xf hr hp
  exact⟨p,.s x',h1,h2⟩
 ·obtain⟨cs,e,hl⟩:=hr
  obtain⟨p,l',h1,h2⟩:=SA hh xf hl hp
  exact⟨p,.a l',h1,λhpp hb=>⟨cs,e,h2 hpp hb⟩⟩
 ·obtain⟨p,x',h1,h2⟩:=HN hh xf hr hp
  exact⟨p,.s x',h1,h2⟩
 ·exact hp.elim
def SB {pt:Bool}(hh:Holds N c T β τ a w) (xf:∀i∈ids,live τ i):∀{ps:List AP}{v:List AV}{y:List Value},mW T β v y->∀{k:Prop->List AV->Q Rs},((N5 pt ids ps v k).run τ).pre->
  ∃p v',(N5 pt ids ps v k).run τ=(k p v').run τ/\(p->(∀i∈ib v',i∈ids)->mW (eH T β τ w ids) β v' y)
 |[],[],[],_,k,hp=>⟨True,[],rfl,λ_ _=>trivial⟩
 |[],[],_::_,h,_,_=>h.elim
 |_::_,[],_,_,_,hp=>by simp only [N5] at hp;exact hp.elim
 |[],_::_,_,_,_,hp=>by simp only [N5] at hp;exact hp.elim
 |_::_,_::_,[],h,_,_=>h.elim
 |p0::ps,x::l,y::ys,h,k,hp=>by
  simp only [N5] at hp ⊢
  obtain⟨p,x',h1,h2⟩:=aiO hh xf h.1 hp
  rw [h1] at hp ⊢
  obtain⟨q,l',g1,g2⟩:=SB hh xf h.2 hp
  refine⟨p/\q,x'::l',g1,λhpq hb=>?_⟩
  simp only [ib,ZB5] at hb
  exact⟨h2 hpq.1 λi hi=>hb i (.inl hi),g2 hpq.2 λi hi=>hb i (.inr hi)⟩
def KZ (hh:Holds N c T β τ a w):∀{l:List Operand}{vs:List AV},evA τ l=some vs->mW T β vs (l.map a.eval)/\∀i∈ib vs,τ (.b i)≠none
 |[],vs,h=>by cases h;exact⟨trivial,by simp [ib]⟩
 |x::l,vs,h=>by
  simp only [evA] at h
  split at h
  ·rename_i v hv
   split at h
   ·rename_i vs' hvs
    cases h
    obtain⟨g1,g2⟩:=KZ hh hvs
    refine⟨⟨fA hh hv,g1⟩,λi hi=>?_⟩
    simp only [ib,ZB5] at hi
    rcases hi with hi |hi
    ·exact jb hh hv i hi
    ·exact g2 i hi
   ·cases h
  ·cases h
def IU:∀{l:List Nat}{k:List AV->Q Rs},((QB l k).run τ).pre->∃bs,(QB l k).run τ=(k bs).run τ/\bs.length=l.length/\∀(j i:Nat) (av:AV),l[j]?=some i->bs[j]?=some av->τ (.b i)=some av
 |[],k,_=>⟨[],rfl,rfl,by simp⟩
 |i::l,k,hp=>by
  simp only [QB,uZ,Q.run] at hp ⊢
  cases hb:τ (.b i) with
  |none=>rw [hb] at hp;exact hp.elim
  |some av=>
   rw [hb] at hp
   obtain⟨bs,h1,h2,h3⟩:=IU (l:=l) hp
   refine⟨av::bs,h1,by simp [h2],λj i' av' hj hv=>?_⟩
   cases j with
   |zero=>simp at hj hv;subst hj;subst hv;exact hb
   |succ j=>exact h3 j i' av' (by simpa using hj) (by simpa using hv)
def JU {base:Nat}{q:Q Rs}:∀{n:Nat},((FD base n q).run τ).pre->(FD base n q).run τ=q.run τ/\∀j,j<n->τ (.b (base+j))=none
 |0,_=>⟨rfl,λj hj=>by omega⟩
 |n+1,hp=>by
  simp only [FD,Q.run] at hp ⊢
  cases hb:τ (.b (base+n)) with
  |some _=>rw [hb] at hp;exact hp.elim
  |none=>
   rw [hb] at hp
   obtain⟨h1,h2⟩:=JU (n:=n) hp
   refine⟨h1,λj hj=>?_⟩
   by_cases e:j=n
   ·subst e;exact hb
   ·exact h2 j (by omega)
def NY:∀{l:List AV},NZ l=true->∀x∈l,x≠.zz/\((∃m,x= .o (.a m))\/∃ek m,x= .rs ek m)
 |[],_,x,h=>by cases h
 |y::l,h,x,hx=>by
  unfold NZ at h
  split at h
  ·rename_i heq;cases heq
  ·rename_i m l' heq
   cases heq
   rcases ZB7.1 hx with rfl |hx
   ·exact⟨(by intro e;cases e),.inl ⟨m,rfl⟩⟩
   ·exact NY h x hx
  ·rename_i ek m l' heq
   cases heq
   rcases ZB7.1 hx with rfl |hx
   ·exact⟨(by intro e;cases e),.inr ⟨ek,m,rfl⟩⟩
   ·exact NY h x hx
  ·cases h
def KI {g:Nat->Nat}:∀{l:List AV}{i:Nat},(GK g l)[i]?=(l[i]?).map (AV.mJ g)
 |[],i=>by simp [GK]
 |x::l,0=>by simp [GK]
 |x::l,i+1=>by simpa [GK] using KI (l:=l) (i:=i)
def IS:∀{l:List AV}{i k:Nat}{x:AV},l[i]?=some x->k∈x.boxes->k∈ib l
 |[],_,_,_,h,_=>by simp at h
 |y::l,0,k,x,h,hk=>by simp at h;subst h;simp [ib,hk]
 |y::l,i+1,k,x,h,hk=>by
  have:=IS (l:=l) (i:=i) (by simpa using h) hk
  simp [ib,this]
end
end
end GL
namespace GL
def plain:BK->Prop
 |.ty _ _=>True
 |.ro _ _ _=>True
 |.bx _=>True
 |_=>False
section
variable {T T':a8}{β:Nat->Nat}
def SV.rq (h:∀b k,T b=some k->plain k->T' b=some k) {x:SV}(hf:x.pQ=true) {v:Value}(hr:x.rel T β v):x.rel T' β v:=by
 cases x with
 |v x=>exact hr
 |q b=>exact hr
 |bp i o=>exact hr
 |xp i sz k j=>exact hr
 |xs i sz o m=>
  rcases hr with hr |⟨cap,n,h1,h2,h3,h4⟩
  ·exact .inl hr
  ·exact .inr ⟨cap,n,h1,h2,h _ _ h3 trivial,h4⟩
 |ep ek j=>obtain⟨b,o,n,h1,h2,h3⟩:=hr;exact⟨b,o,n,h1,h _ _ h2 trivial,h3⟩
 |sl ek len=>
  rcases hr with hr |⟨b,o,cap,n,h1,h2,h3,h4⟩
  ·exact .inl hr
  ·exact .inr ⟨b,o,cap,n,h1,h2,h _ _ h3 trivial,h4⟩
 |vw ek l=>
  rcases hr with hr |⟨b,o,cap,cs,e,fr,h1,h2,h3,h4⟩
  ·exact .inl hr
  ·exact .inr ⟨b,o,cap,cs,e,fr,h1,h2,h _ _ h3 trivial,h4⟩
 |vz ek l=>cases hf
 |vp ek x j=>cases hf
 |vs l j=>cases hf
 |er b=>exact hr
 |e0=>exact hr
def GN (h:∀b k,T b=some k->plain k->T' b=some k):∀{l:List SV}{cs:List Value},ET l=true->dY T β l cs->dY T' β l cs
 |[],[],_,_=>trivial
 |_::_,[],_,h'=>h'.elim
 |[],_::_,_,h'=>h'.elim
 |_::_,_::_,hf,h'=>by
  simp only [ET,ZB1] at hf
  exact⟨SV.rq h hf.1 h'.1,GN h hf.2 h'.2⟩
def A0.rq (h:∀b k,T b=some k->plain k->T' b=some k) {x:A0}(hf:x.pQ=true) {v:Value}(hr:x.rel T β v):x.rel T' β v:=by
 cases x with
 |s x=>exact SV.rq h hf hr
 |a l=>obtain⟨cs,e,hl⟩:=hr;exact⟨cs,e,GN h hf hl⟩
def RP (h:∀b k,T b=some k->plain k->T' b=some k):∀{l:List A0}{cs:List Value},xa l=true->uj T β l cs->uj T' β l cs
 |[],[],_,_=>trivial
 |_::_,[],_,h'=>h'.elim
 |[],_::_,_,h'=>h'.elim
 |_::_,_::_,hf,h'=>by
  simp only [xa,ZB1] at hf
  exact⟨A0.rq h hf.1 h'.1,RP h hf.2 h'.2⟩
def AV.rq (h:∀b k,T b=some k->plain k->T' b=some k) {x:AV}(hf:x.pQ=true) {v:Value}(hr:x.rel T β v):x.rel T' β v:=by
 cases x with
 |o x=>exact A0.rq h hf hr
 |t l=>obtain⟨cs,e,hl⟩:=hr;exact⟨cs,e,RP h hf hl⟩
 |rs ek l=>exact hr
 |zz=>exact hr
 |fn f l=>exact hr
def AV.akk (h:∀b k,T b=some k->plain k->T' b=some k) {x:AV}(hf:x.pQ=true) {cs:Array Value}(hr:x.tW T β cs):x.tW T' β cs:=by
 cases x with
 |o x=>
  cases x with
  |s x=>exact hr
  |a l=>exact GN h hf hr
 |_=>exact hr
end
section
variable {N:Nat}{c:Ctx}{T:a8}{β:Nat->Nat}{τ:St}{a:Act}{w w':World}{ids:List Nat}
def yn (h:WT T w) {b:Nat}{k:BK}(hk:T b=some k):eH T β τ w ids b=some k\/∃cs e fr,eH T β τ w ids b=some (.ln cs e fr):=by
 unfold eH
 rw [hk]
 cases k with
 |fz ek n cs=>
  obtain⟨_,e,fr,l,h2,_⟩:=h b _ hk
  exact .inr ⟨cs,e,fr,by simp only [h2]⟩
 |bx n=>
  obtain⟨cs,e,h2,_⟩:=h b _ hk
  simp only
  by_cases hx:∃i,aoO τ i/\i∉ids/\β i=b
  ·rw [if_pos hx,h2];exact .inr ⟨cs,e,(0,0),rfl⟩
  ·rw [if_neg hx];exact .inl rfl
 |_=>exact .inl rfl
def acF {b:Nat}{k:BK}(hk:eH T β τ w ids b=some k) (hp:plain k):T b=some k:=by
 unfold eH at hk
 split at hk
 ·split at hk
  ·cases hk;exact hp.elim
  ·cases hk
 ·rename_i n hT
  split at hk
  ·split at hk
   ·cases hk;exact hp.elim
   ·cases hk
  ·rw [hT];exact hk
 ·exact hk
def acD {b:Nat}(hk:T b=none):eH T β τ w ids b=none:=by
 unfold eH
 rw [hk]
def FB (T T':a8) (n:Nat):a8:=λb=>if b<n then T b else T' b
def backβ (β β':Nat->Nat) (base nf k:Nat):Nat->Nat:=λi=>if base<=i/\i<base+nf then β' (k+(i-base)) else β i
structure adH (τ τ':St) (ids:List Nat) (base nf:Nat) (os:List AV):Prop where
 set:∀j i,(ids++cV base nf)[j]?=some i->τ' (.b i)=some ((atA os j).mJ (qn ids base))
 old:∀r,(∀i∈ids++cV base nf,r≠.b i)->τ' r=τ r
def Holds.call (hh:Holds N c T β τ a w) {base nf:Nat}{mv:Bool}{os:List AV}{T':a8}{β2 β':Nat->Nat}{τ':St}(O4:1000<=base) (hmv:mv=true->1000000000<=base)
  (uL:∀i∈ids,live τ i) (h2:∀j i,ids[j]?=some i->β2 j=β i) (w0:∀j,j<nf->τ (.b (base+j))=none) (hos:os.length=ids.length+nf)
  (hA:afi w (eH T β τ w ids) β2 ids.length T' w') (hB:FN w ids.length mv β2 T' β' w' os) (hτ:adH τ τ' ids base nf os):
  Holds N c (FB T T' w.heap.size) (backβ β β' base nf ids.length) τ' a w'/\(∀b k,T' b=some k->plain k->FB T T' w.heap.size b=some k)/\∀n,n<os.length->backβ β β' base nf ids.length (qn ids base n)=β' n/\τ' (.b (qn ids base n))≠none:=by
 have OZ:∀b k,T' b=some k->plain k->FB T T' w.heap.size b=some k:=by
  intro b k hb hp
  unfold FB
  by_cases bR:b<w.heap.size
  ·rw [if_pos bR]
   rw [hA.new b bR] at hb
   exact acF hb hp
  ·rw [if_neg bR];exact hb
 have EN:sK T (FB T T' w.heap.size):=λb k hb=>by
  unfold FB
  rw [if_pos (BK.lt (hh.typed b k hb))];exact hb
 have jV:∀i,τ (.b i)≠none->¬(base<=i/\i<base+nf):=λi hi h=>by
  have:=w0 (i-base) (by omega)
  rw [show base+(i-base)=i by omega] at this
  exact hi this
 have hβo:∀i,τ (.b i)≠none->backβ β β' base nf ids.length i=β i:=λi hi=>by unfold backβ;rw [if_neg (jV i hi)]
 have hβj:∀j i,(ids++cV base nf)[j]?=some i->backβ β β' base nf ids.length i=β' j:=by
  intro j i hj
  by_cases bR:j<ids.length
  ·rw [ZC3 bR] at hj
   have hi:=ZB8 hj
   rw [hβo i (lO (uL i hi)),hB.same j bR,h2 j i hj]
  ·rw [ZD2 (by omega)] at hj
   have hr:j-ids.length<nf:=by
    have:=(ZB9.1 hj).1
    rwa [lV] at this
   rw [kG _ _ _ hr] at hj
   cases hj
   unfold backβ
   rw [if_pos (by omega)]
   congr 1;omega
 have amA:∀n,n<os.length->(ids++cV base nf)[n]?=some (qn ids base n):=by
  intro n hn
  unfold qn
  by_cases bR:n<ids.length
  ·rw [ZC3 bR,ZB2 bR]
  ·rw [ZD2 (by omega),kG _ _ _ (by omega),ZE1 (by omega)]
 have S0:∀n,n<os.length->backβ β β' base nf ids.length (qn ids base n)=β' n/\τ' (.b (qn ids base n))≠none:=λn hn=>by
  refine⟨hβj n _ (amA n hn),?_⟩
  rw [hτ.set n _ (amA n hn)]
  simp
 have alz:∀i,τ (.b i)≠none->τ' (.b i)≠none:=by
  intro i hi
  by_cases hm:i∈ids++cV base nf
  ·obtain⟨j,hj⟩:=ZG0 hm
   rw [hτ.set j i hj];simp
  ·rw [hτ.old (.b i) (λk hk e=>hm (by cases e;exact hk))];exact hi
 have aoU:∀i,live τ i->i∉ids->w'.heap[β i]?=w.heap[β i]?:=by
  intro i hi hni
  obtain⟨⟨n,hn⟩,_⟩:=hh.apart i hi
  have bR:=hh.lt hi
  rcases yn (β:=β) (τ:=τ) (ids:=ids) hh.typed hn with h |⟨cs,e,fr,h⟩
  ·refine hA.frame _ bR (λj hj he=>?_) (by rw [h];trivial)
   have hjl:ids[j]?=some ids[j]:=ZB2 hj
   rw [h2 j _ hjl] at he
   exact hni (hh.inj i _ hi (uL _ (ZB8 hjl)) he ▸ ZB8 hjl)
  ·have g1:w.heap[β i]?=some (.cells cs e fr):=D6 hh.typed _ _ h
   have g2:w'.heap[β i]?=some (.cells cs e fr):=hA.typed (β i) (.ln cs e fr) (by rw [hA.new _ bR];exact h)
   rw [g1,g2]
 have aaG:∀i,live τ' i->(i∉ids/\¬(base<=i/\i<base+nf)/\live τ i)\/∃(j:Nat) (av:AV),(ids++cV base nf)[j]?=some i/\os[j]?=some av/\av≠.zz:=by
  intro i hi
  by_cases hm:i∈ids++cV base nf
  ·right
   obtain⟨j,hj⟩:=ZG0 hm
   have hs:=hτ.set j i hj
   unfold atA at hs
   cases ho:os[j]? with
   |none=>
    rw [ho] at hs
    unfold live at hi
    rw [hs] at hi
    exact hi.elim
   |some av=>
    rw [ho] at hs
    refine⟨j,av,hj,ho,λe=>?_⟩
    subst e
    unfold live at hi
    rw [hs] at hi
    exact hi.elim
  ·left
   have ho:=hτ.old (.b i) (λk hk e=>hm (by cases e;exact hk))
   refine⟨λh=>hm (List.mem_append_left _ h),λh=>hm (List.mem_append_right _ (gM.2 h)),?_⟩
   unfold live at hi ⊢
   rwa [ho] at hi
 have hβlive:∀i,live τ i->backβ β β' base nf ids.length i=β i:=λi hi=>hβo i (lO hi)
 refine⟨{
  defs:=hh.defs
  size:=hh.size
  JK:=hh.JK
  jD:=λi av hi=>by
   rw [hτ.old (.s i) (λk _ e=>by cases e)] at hi
   obtain⟨v,hv,hr⟩:=hh.jD i av hi
   exact⟨v,hv,AV.mV EN (AV.ahR (λk hk=>hβo k (hh.named (.s i) av hi k hk)) hr)⟩
  boxes:=λi av hi hz=>by
   by_cases hm:i∈ids++cV base nf
   ·obtain⟨j,hj⟩:=ZG0 hm
    rw [hτ.set j i hj] at hi
    cases hi
    unfold atA at hz ⊢
    cases ho:os[j]? with
    |none=>rw [ho] at hz;exact absurd rfl hz
    |some x=>
     rw [ho] at hz
     simp only at hz ⊢
     obtain⟨_,_,⟨cs,e,g1,g2⟩,g3,g4⟩:=hB.at_ j x ho (KH hz)
     refine⟨cs,e,by rw [hβj j i hj];exact g1,?_⟩
     exact AV.K4 (λn hn=>(S0 n (g3 n hn)).1) (AV.akk OZ g4 g2)
   ·have ho:=hτ.old (.b i) (λk hk e=>hm (by cases e;exact hk))
    rw [ho] at hi
    have hl:=fg hi hz
    obtain⟨cs,e,g1,g2⟩:=hh.boxes i av hi hz
    refine⟨cs,e,?_,AV.PN EN (AV.ads (λk hk=>hβo k (hh.named (.b i) av hi k hk)) g2)⟩
    rw [hβlive i hl,aoU i hl (λh=>hm (List.mem_append_left _ h))]
    exact g1
  apart:=λi hi=>by
   rcases aaG i hi with ⟨_,_,hl⟩ |⟨j,av,hj,ho,hz⟩
   ·rw [hβlive i hl]
    obtain⟨⟨n,hn⟩,g⟩:=hh.apart i hl
    exact⟨⟨n,EN _ _ hn⟩,g⟩
   ·rw [hβj j i hj]
    obtain⟨⟨n,hn⟩,tJ,_⟩:=hB.at_ j av ho hz
    refine⟨⟨n,OZ _ _ hn aa⟩,?_⟩
    by_cases bR:j<ids.length
    ·rw [ZC3 bR] at hj
     have hl:=uL i (ZB8 hj)
     have e:β' j=β i:=by rw [hB.same j bR,h2 j i hj]
     rw [e]
     exact (hh.apart i hl).2
    ·rw [ZD2 (by omega)] at hj
     have hr:=gM.1 (ZB8 hj)
     refine⟨λh=>by omega,λ_ h3=>?_,?_⟩
     ·rcases tJ (by omega) with h4 |⟨h4,_⟩
      ·exact ZA9 hh.gS h4
      ·have:=hmv h4;omega
     ·rcases tJ (by omega) with h4 |⟨_,j',h4,h5⟩
      ·exact .inl (ZA9 hh.gS h4)
      ·rw [h5,h2 j' _ (ZB2 h4)]
       exact (hh.apart _ (uL _ (ZG4 h4))).2.2.2
  handed:=λi b hb hi=>by
   have bR:i<c.H.length:=(ZB9.1 hb).1
   have ard:=hh.JK
   have hl:live τ i:=by
    rcases aaG i hi with ⟨_,_,hl⟩ |⟨j,av,hj,_,_⟩
    ·exact hl
    ·rcases ZB5.1 (ZB8 hj) with h |h
     ·exact uL i h
     ·have:=gM.1 h;omega
   rw [hβlive i hl]
   exact hh.handed i b hb hl
  inj:=λi i' hi H0 e=>by
   have aik:∀k,live τ k->β k<w.heap.size:=λk hk=>hh.lt hk
   rcases aaG i hi with ⟨n1,_,hl⟩ |⟨j,av,hj,ho,hz⟩
   ·rcases aaG i' H0 with ⟨_,_,hl'⟩ |⟨j',av',HZ,ho',hz'⟩
    ·rw [hβlive i hl,hβlive i' hl'] at e
     exact hh.inj i i' hl hl' e
    ·rw [hβlive i hl,hβj j' i' HZ] at e
     by_cases bR:j'<ids.length
     ·rw [ZC3 bR] at HZ
      rw [hB.same j' bR,h2 j' i' HZ] at e
      exact hh.inj i i' hl (uL i' (ZB8 HZ)) e
     ·rcases (hB.at_ j' av' ho' hz').2.1 (by omega) with h4 |⟨_,j2,h4,h5⟩
      ·have:=aik i hl
       omega
      ·rw [h5,h2 j2 _ (ZB2 h4)] at e
       exact absurd (hh.inj i _ hl (uL _ (ZG4 h4)) e ▸ ZG4 h4) n1
   ·rcases aaG i' H0 with ⟨n1,_,hl'⟩ |⟨j',av',HZ,ho',hz'⟩
    ·rw [hβj j i hj,hβlive i' hl'] at e
     by_cases bR:j<ids.length
     ·rw [ZC3 bR] at hj
      rw [hB.same j bR,h2 j i hj] at e
      exact hh.inj i i' (uL i (ZB8 hj)) hl' e
     ·rcases (hB.at_ j av ho hz).2.1 (by omega) with h4 |⟨_,j2,h4,h5⟩
      ·have:=aik i' hl'
       omega
      ·rw [h5,h2 j2 _ (ZB2 h4)] at e
       exact absurd (hh.inj i' _ hl' (uL _ (ZG4 h4)) e.symm ▸ ZG4 h4) n1
    ·rw [hβj j i hj,hβj j' i' HZ] at e
     have:=hB.inj j j' av av' ho hz ho' hz' e
     subst this
     rw [hj] at HZ
     cases HZ
     rfl
  named:=λr av hr i hi=>by
   cases r with
   |s n=>
    rw [hτ.old (.s n) (λk _ e=>by cases e)] at hr
    exact alz i (hh.named (.s n) av hr i hi)
   |b n=>
    by_cases hm:n∈ids++cV base nf
    ·obtain⟨j,hj⟩:=ZG0 hm
     rw [hτ.set j n hj] at hr
     cases hr
     obtain⟨m,hm',rfl⟩:=AV.ig hi
     unfold atA at hm'
     cases ho:os[j]? with
     |none=>rw [ho] at hm';simp [AV.boxes] at hm'
     |some x=>
      rw [ho] at hm'
      have hz:x≠.zz:=λe=>by subst e;simp [AV.boxes] at hm'
      exact (S0 m ((hB.at_ j x ho hz).2.2.2.1 m hm')).2
    ·rw [hτ.old (.b n) (λk hk e=>hm (by cases e;exact hk))] at hr
     exact alz i (hh.named (.b n) av hr i hi)
  typed:=λb k hb=>by
   unfold FB at hb
   by_cases bR:b<w.heap.size
   ·rw [if_pos bR] at hb
    rcases yn (β:=β) (τ:=τ) (ids:=ids) hh.typed hb with h |⟨cs,e,fr,h⟩
    ·exact hA.typed b k (by rw [hA.new b bR];exact h)
    ·have g1:w.heap[b]?=some (.cells cs e fr):=D6 hh.typed _ _ h
     have g2:w'.heap[b]?=some (.cells cs e fr):=hA.typed b (.ln cs e fr) (by rw [hA.new _ bR];exact h)
     exact BK.rX (hh.typed b k hb) (by rw [g1,g2])
   ·rw [if_neg bR] at hb
    exact hA.typed b k hb
  old:=λb hb=>by
   unfold FB
   rw [if_pos (ZF8 hb hh.gS)]
   exact hh.old b hb
  frame:=λb hb hH hq=>by
   have bR:b<w.heap.size:=ZF8 hb hh.gS
   rw [<-hh.frame b hb hH hq]
   have ho:=hh.old b hb
   cases hT:T b with
   |none=>
    refine hA.frame b bR (λj hj e=>?_) (by rw [acD hT];trivial)
    have hjl:ids[j]?=some ids[j]:=ZB2 hj
    rw [h2 j _ hjl] at e
    obtain⟨n,hn⟩:=(hh.apart _ (uL _ (ZB8 hjl))).1
    rw [<-e,hT] at hn
    cases hn
   |some k=>
    rw [hT] at ho
    rcases yn (β:=β) (τ:=τ) (ids:=ids) hh.typed hT with h |⟨cs,e,fr,h⟩
    ·refine hA.frame b bR (λj hj e=>?_) ?_
     ·have hjl:ids[j]?=some ids[j]:=ZB2 hj
      rw [h2 j _ hjl] at e
      have hl:=uL _ (ZB8 hjl)
      rcases (hh.apart _ hl).2.2.2 with g1 |g1
      ·omega
      ·exact hH (e ▸ g1)
     ·rw [h]
      rw [<-ho] at hq
      cases k<;>first|trivial|exact hq
    ·have g1:w.heap[b]?=some (.cells cs e fr):=D6 hh.typed _ _ h
     have g2:w'.heap[b]?=some (.cells cs e fr):=hA.typed b (.ln cs e fr) (by rw [hA.new _ bR];exact h)
     rw [g1,g2]
  gS:=ZA9 hh.gS hA.gS
  os:=hA.os.trans hh.os
  tape:=hA.tape.trans hh.tape
  output:=hA.output.trans hh.output
  pO:=hh.pO.mono EN },OZ,S0⟩
end
end GL
namespace GL
section
variable {P:Program}{N:Nat}{τ:St}
variable {d:Nat}{x y z:Operand}{t u ty:TypeId}{pos:String}{af:Array Edge}{g:Option (Nat×Bool)}
def ub {α:Type}{o:α->List AV}{g:Nat->Nat}{z:α}:∀{l:List Nat}{j:Nat}{p:gx×AV},p∈inst z (LG o g j l)->∃m i,l[m]?=some i/\p=(.b i,(atA (o z) (j+m)).mJ g)
 |[],_,p,h=>by cases h
 |i::l,j,p,h=>by
  simp only [LG,inst,ZB7] at h
  rcases h with rfl |h
  ·exact⟨0,i,rfl,rfl⟩
  ·obtain⟨m,i',h1,h2⟩:=ub h
   exact⟨m+1,i',by simpa using h1,by rw [h2];congr 3;omega⟩
def LF {α:Type}{o:α->List AV}{g:Nat->Nat}{z:α}:∀{l:List Nat}{j m i:Nat},l[m]?=some i->(.b i,(atA (o z) (j+m)).mJ g)∈inst z (LG o g j l)
 |[],_,_,_,h=>by simp at h
 |i::l,j,0,i',h=>by simp at h;subst h;simp [LG,inst]
 |i::l,j,m+1,i',h=>by
  have:=LF (o:=o) (g:=g) (z:=z) (l:=l) (j:=j+1) (m:=m) (by simpa using h)
  simp only [LG,inst,ZB7]
  right
  rwa [show j+1+m=j+(m+1) by omega] at this
def abg {α:Type}{o:α->List AV}{z:α}{ids:List Nat}{base nf:Nat}(hnd:∀(i j:Nat) (x:Nat),(ids++cV base nf)[i]?=some x->(ids++cV base nf)[j]?=some x->i=j):
  adH τ (τ.ap (inst z (LG o (qn ids base) 0 (ids++cV base nf)))) ids base nf (o z) where
 set:=λj i hj=>by
  rcases St.FH (τ:=τ) (u:=inst z (LG o (qn ids base) 0 (ids++cV base nf))) (r:=.b i) with ⟨v,hv,hm⟩ |⟨_,tV⟩
  ·obtain⟨m,i',h1,h2⟩:=ub hm
   cases h2
   have:=hnd _ _ _ h1 hj
   subst this
   rw [hv,ZA6]
  ·exact absurd rfl (tV _ (LF hj))
 old:=λr hr=>St.za λp hp e=>by
  obtain⟨m,i,h1,h2⟩:=ub hp
  subst h2
  exact hr i (ZB8 h1) e.symm
def W7 {C:cu}{d:Nat}{ids:List Nat}{bs:List AV}{x:APs.Ty C.A}{y:APs.Ty C.B}{p:Prop}{z:C.α x y}(hp:TZ C d ids bs x y p) (hφ:C.φ x y z) (hnd:∀(i j:Nat) (x:Nat),(ids++cV (jg C.mv d) C.nf)[i]?=some x->(ids++cV (jg C.mv d) C.nf)[j]?=some x->i=j)
  (hlen:(C.o x y z).length=ids.length+C.nf) (hbl:bs.length=ids.length) (hbs:∀(j i:Nat) (av:AV),ids[j]?=some i->bs[j]?=some av->τ (.b i)=some av):
  adH τ (τ.ap (inst z (akt C d ids x y))) ids (jg C.mv d) C.nf (C.o x y z):=by
 unfold akt
 unfold TZ at hp
 split
 ·exact abg hnd
 ·rename_i hro
  rw [hro] at hp
  have hro:=hp.2 z hφ
  exact {
   set:=λj i hj=>by
    by_cases bR:j<ids.length
    ·have hi:ids[j]?=some i:=by rwa [ZC3 bR] at hj
     rw [St.za λpr hpr e=>?_]
     ·have hjb:bs[j]?=some bs[j]:=ZB2 (by omega)
      rw [hbs j i _ hi hjb]
      have h1:(GK (qn ids (jg C.mv d)) ((C.o x y z).take ids.length))[j]?=some bs[j]:=by rw [hro];exact hjb
      rw [KI,ZH7 bR,ZB2 (by omega)] at h1
      have h2:=ZF4 h1
      rw [<-h2]
      unfold atA
      rw [ZB2 (by omega)]
     ·obtain⟨m,i',h1,h2⟩:=ub hpr
      subst h2
      cases e
      have:=hnd j (ids.length+m) i hj (by rw [ZD2 (by omega)];rwa [ZG8])
      omega
    ·have hi:(cV (jg C.mv d) C.nf)[j-ids.length]?=some i:=by rwa [ZD2 (by omega)] at hj
     rcases St.FH (τ:=τ) (u:=inst z (LG (C.o x y) (qn ids (jg C.mv d)) ids.length (cV (jg C.mv d) C.nf))) (r:=.b i) with ⟨v,hv,hm⟩ |⟨_,tV⟩
     ·obtain⟨m,i',h1,h2⟩:=ub hm
      cases h2
      have:=hnd j (ids.length+m) i hj (by rw [ZD2 (by omega)];rwa [ZG8])
      rw [hv,this]
     ·exact absurd rfl (tV _ (LF hi))
   old:=λr hr=>St.za λpr hpr e=>by
    obtain⟨m,i,h1,h2⟩:=ub hpr
    subst h2
    exact hr i (List.mem_append_right _ (ZB8 h1)) e.symm }
def YW {T:a8}{β:Nat->Nat}:∀{l m:List AV}{vs:List Value},mW T β l vs->m.length=l.length->(∀(i:Nat) (x y:AV),l[i]?=some x->m[i]?=some y->∀v,x.rel T β v->y.rel T β v)->mW T β m vs
 |[],[],[],_,_,_=>trivial
 |[],_::_,_,_,h,_=>by simp at h
 |_::_,[],_,_,h,_=>by simp at h
 |[],[],_::_,h,_,_=>h.elim
 |_::_,_::_,[],h,_,_=>h.elim
 |x::l,y::m,v::vs,h,hl,hk=>⟨hk 0 x y rfl rfl v h.1,YW h.2 (by simpa using hl) λi x' y' hx hy=>hk (i+1) x' y' (by simpa using hx) (by simpa using hy)⟩
def YV {T:a8}{β β':Nat->Nat}{g:Nat->Nat}:∀{l:List AV}{vs:List Value},(∀i∈ib l,β' (g i)=β i)->mW T β l vs->mW T β' (GK g l) vs
 |[],[],_,_=>trivial
 |_::_,[],_,h=>h.elim
 |[],_::_,_,h=>h.elim
 |x::l,v::vs,hg,h=>by
  simp only [ib,ZB5] at hg
  exact⟨AV.oR (λi hi=>hg i (.inl hi)) h.1,YV (λi hi=>hg i (.inr hi)) h.2⟩
theorem YM {g:Nat->Nat}:∀{l:List AV},(GK g l).length=l.length
 |[]=>rfl
 |x::l=>by simp [GK,YM (l:=l)]
def akq (mv:Bool) (d:Nat):1000<=jg mv d/\(mv=true->1000000000<=jg mv d):=by
 unfold jg
 cases mv<;>simp<;>omega
def afb (C:cu) (pt:Bool) (d:Nat) (avs:List AV):Q Rs:=
 yA (aez C.A avs) [] λr0=>CK r0 [] λanw=>QB anw λbs0=>yA (ib bs0) r0 λr1=>CK r1 [] λids=>akw pt d C avs ids
theorem TY {c:Ctx}{T:a8}{β:Nat->Nat}{a:Act}{w:World}(hh:Holds N c T β τ a w) {pt:Bool}{C:cu}{f:FuncId}(hC:AR P f C) (hd:d<N) {o:Oper}(arf:o.dst=some d) {avs:List AV}{ys:List Value}(OY:mW T β avs ys)
  (hen:(execOp a.eval o).run P w= .ok (.enter f ys.toArray) w) (hp:((afb C pt d avs).run τ).pre) {K:Act->World->Prop} {Q':Exit->Act->World->Prop}
  (hK:∀u a' w',((afb C pt d avs).run τ).out u->Rel N c (τ.ap u) a' w'->K a' w'):o.wp P a w K Q':=by
 unfold afb at hp hK
 simp only [H7,S5] at hp hK
 obtain⟨bs0,e0,_,_⟩:=IU hp
 rw [e0] at hp hK
 generalize (dd (ib bs0) (dd (aez C.A avs) [])).reverse++[]=ids at hp hK
 unfold akw at hp hK
 obtain⟨bs,e2,hbl,hbs⟩:=IU hp
 rw [e2] at hp hK
 obtain⟨O4,aqX⟩:=akq C.mv d
 have KS:NZ bs=true:=by
  cases hl:NZ bs with
  |true=>rfl
  |false=>rw [hl] at hp;exact hp.elim
 rw [KS] at hp hK
 simp only [cond_true] at hp hK
 have rY:∀(j i:Nat),ids[j]?=some i->∃av,bs[j]?=some av/\τ (.b i)=some av/\av≠.zz:=by
  intro j i hj
  have hjl:j<bs.length:=by rw [hbl];exact (ZB9.1 hj).1
  exact⟨bs[j],ZB2 hjl,hbs j i _ hj (ZB2 hjl),(NY KS _ (ZG4 hjl)).1⟩
 have uL:∀i∈ids,live τ i:=λi hi=>by
  obtain⟨j,hj⟩:=ZG0 hi
  obtain⟨av,_,h1,h2⟩:=rY j i hj
  exact fg h1 h2
 obtain⟨p,as,e1,apb⟩:=SB hh uL OY hp
 rw [e1] at hp hK
 split at hp
 ·rename_i X Y hX hY
  simp only [hX,hY] at hK
  cases qw:((ib as).all (jo ids)&&(ib bs).all (jo ids))&&(nodupB ids&&Nat.ble ids.length 1000) with
  |false=>rw [qw] at hp;exact hp.elim
  |true=>
   rw [qw] at hp hK
   simp only [cond_true] at hp hK
   simp only [ZB1] at qw
   obtain⟨⟨hma,hmb⟩,hnd,ajn⟩:=qw
   obtain⟨e3,w0⟩:=JU hp
   rw [e3] at hp hK
   have hcp:TZ C d ids bs X Y (p/\C.pre X Y):=hp
   obtain⟨hpp,aaC⟩:p/\C.pre X Y:=akv hcp
   have CA:∀i∈ib as,i∈ids:=λi hi=>gn.1 (ZD3.1 hma i hi)
   have ao9:∀i∈ib bs,i∈ids:=λi hi=>gn.1 (ZD3.1 hmb i hi)
   have ao2:=apb hpp CA
   let β2:Nat->Nat:=λj=>match ids[j]? with
    |some i=>β i
    |none=>0
   have h2:∀(j i:Nat),ids[j]?=some i->β2 j=β i:=λj i hj=>by simp only [β2,hj]
   obtain⟨hlA,apo⟩:=APs.MX hX
   obtain⟨hlB,ark⟩:=APs.MX hY
   rw [YM] at hlB
   have SZ:(APs.avs C.B Y).length=ids.length:=by rw [APs.jA,<-hlB,hbl]
   have apq:mW (eH T β τ w ids) β2 (APs.avs C.A X) ys:=by
    have h3:mW (eH T β τ w ids) β2 (GK (idxOf ids) as) ys:=YV (λi hi=>h2 _ _ (uK (CA i hi)).1) ao2
    refine YW h3 (by rw [APs.jA,hlA]) λi x y hx hy v hv=>?_
    obtain⟨q,x',u,g1,g2,rfl⟩:=apo i y hy
    rw [hx] at g1;cases g1
    exact (AP.fx g2).1 hv
   have apr:∀av∈APs.avs C.A X,∀i∈av.boxes,i<(APs.avs C.B Y).length:=by
    intro av hav i hi
    obtain⟨k,hk⟩:=ZG0 hav
    obtain⟨q,x',u,g1,g2,rfl⟩:=apo k av hk
    have H0:=(AP.fx (T:=T) (β:=β) g2).2.2 i hi
    rw [KI] at g1
    obtain⟨x0,hx0,rfl⟩:=Option.map_eq_some_iff.1 g1
    obtain⟨n,hn,rfl⟩:=AV.ig H0
    rw [SZ]
    exact (uK (CA n (IS hx0 hn))).2
   have cF:afh w (eH T β τ w ids) β2 (APs.avs C.B Y):= {
    JK:=by rw [SZ];exact zqNlb ajn
    at_:=λj av hj=>by
     have hjl:j<ids.length:=by rw [<-SZ];exact (ZB9.1 hj).1
     have hji:ids[j]?=some ids[j]:=ZB2 hjl
     obtain⟨x0,hbj,hτj,HY⟩:=rY j _ hji
     obtain⟨q,x',u,g1,g2,rfl⟩:=ark j av hj
     rw [KI,hbj] at g1
     simp only [Option.map_some,Option.some.injEq] at g1
     subst g1
     obtain⟨cs,e,g3,g4⟩:=hh.boxes _ _ hτj HY
     obtain⟨⟨n,hn⟩,_⟩:=hh.apart _ (uL _ (ZB8 hji))
     have hxi:∀i∈x0.boxes,i∈ids:=λi hi=>ao9 i (IS hbj hi)
     have g5:(x0.mJ (idxOf ids)).tW (eH T β τ w ids) β2 cs:=AV.K4 (λi hi=>h2 _ _ (uK (hxi i hi)).1) (akj hh uL hxi g4)
     refine⟨λe=>?_,⟨n,by rw [h2 j _ hji];exact aai hh (ZB8 hji) (uL _ (ZB8 hji)) hn⟩,⟨cs,e,by rw [h2 j _ hji];exact g3,(AP.fx g2).2.1 g5⟩,λi hi=>?_⟩
     ·cases q<;>cases e
     ·have H0:=(AP.fx (T:=T) (β:=β) g2).2.2 i hi
      obtain⟨n',hn',rfl⟩:=AV.ig H0
      rw [SZ]
      exact (uK (hxi n' hn')).2
    inj:=λi j hi hj e=>by
     rw [SZ] at hi hj
     have hii:ids[i]?=some ids[i]:=ZB2 hi
     have hjj:ids[j]?=some ids[j]:=ZB2 hj
     rw [h2 i _ hii,h2 j _ hjj] at e
     have:=hh.inj _ _ (uL _ (ZB8 hii)) (uL _ (ZB8 hjj)) e
     exact vT hnd i j _ hii (by rw [hjj,this]) }
   have apl:=hC X Y aaC w (eH T β τ w ids) β2 ys (D6 hh.typed) (acE hh.pO) apq apr cF
   unfold Oper.wp
   rw [hen,Oper.upon_enter]
   refine apl.mono ?_
   rintro e w' ⟨v,r,os,T',β',rfl,⟨Z,hφ,rfl,rfl,hlen⟩,hrv,⟨hrb,hrf⟩,hA,hB⟩
   rw [SZ] at hA hB
   have hCB:C.B.length=ids.length:=by rw [<-hlB,hbl]
   rw [hCB] at hlen
   have aqW:∀(i j:Nat) (x:Nat),(ids++cV (jg C.mv d) C.nf)[i]?=some x->(ids++cV (jg C.mv d) C.nf)[j]?=some x->i=j:=by
    have aoZ:∀x,x∈ids->x∈cV (jg C.mv d) C.nf->False:=λx h1 h3=>by
     have h4:=gM.1 h3
     have h5:=w0 (x-jg C.mv d) (by omega)
     rw [show jg C.mv d+(x-jg C.mv d)=x by omega] at h5
     exact lO (uL x h1) h5
    intro i j x hi hj
    by_cases h1:i<ids.length
    ·rw [ZC3 h1] at hi
     by_cases h3:j<ids.length
     ·rw [ZC3 h3] at hj
      exact vT hnd i j x hi hj
     ·rw [ZD2 (by omega)] at hj
      exact (aoZ x (ZB8 hi) (ZB8 hj)).elim
    ·rw [ZD2 (by omega)] at hi
     by_cases h3:j<ids.length
     ·rw [ZC3 h3] at hj
      exact (aoZ x (ZB8 hj) (ZB8 hi)).elim
     ·rw [ZD2 (by omega)] at hj
      have hi2:i-ids.length<C.nf:=by have:=(ZB9.1 hi).1;rwa [lV] at this
      have CC:j-ids.length<C.nf:=by have:=(ZB9.1 hj).1;rwa [lV] at this
      rw [kG _ _ _ hi2] at hi
      rw [kG _ _ _ CC] at hj
      cases hi
      have:=ZF4 hj
      omega
   obtain⟨hh',OZ,S0⟩:=hh.call (base:=jg C.mv d) (nf:=C.nf) (os:=C.o X Y Z) O4 aqX uL h2 w0 hlen hA hB (W7 (τ:=τ) (z:=Z) hcp hφ aqW hlen hbl hbs)
   rw [arf]
   refine hK _ _ _ ⟨Z,hφ,rfl⟩ ⟨FB T T' w.heap.size,backβ β β' (jg C.mv d) C.nf ids.length,?_⟩
   exact hh'.put hd (av:=(C.r X Y Z).mJ (qn ids (jg C.mv d))) (AV.oR (λn hn=>(S0 n (hrb n hn)).1) (AV.rq OZ hrf hrv)) λi hi=>by
    obtain⟨n,hn,rfl⟩:=AV.ig hi
    exact (S0 n (hrb n hn)).2
 ·exact hp.elim
def aoa {pt:Bool}{tW:FuncId->Option cu}(ac2:∀f c,tW f=some c->AR P f c/\Enters P f) (hd:d<N) {f:FuncId}{args:Array Operand}{tys:Array TypeId}:
  gl P N ⟨some d,.call ⟨.value (.func f),args,tys⟩,ty,pos,af,g⟩ (aku tW pt d f args.toList):=by
 intro c τ a w hr hp K Q' hK
 obtain⟨T,β,hh⟩:=hr
 unfold aku at hp hK
 cases hc:tW f with
 |none=>rw [hc] at hp;exact hp.elim
 |some C=>
  rw [hc] at hp hK
  simp only [FE] at hp hK
  obtain⟨hC,hE⟩:=ac2 f C hc
  cases hx:evA τ args.toList with
  |none=>rw [hx] at hp;exact hp.elim
  |some avs=>
   rw [hx] at hp hK
   simp only at hp hK
   obtain⟨OY,hnm⟩:=KZ hh hx
   have hen:=afu (P:=P) (ty:=ty) (pos:=pos) (af:=af) (g:=g) hE (args:=args) (tys:=tys) (ρ:=a.eval) rfl (w:=w) (dst:=some d)
   have hvs:(args.toList.map a.eval).toArray=args.map a.eval:=by rw [<-Array.toList_map,Array.toArray_toList]
   rw [<-hvs] at hen
   exact TY hh hC hd rfl OY hen hp hK
def PQ:List AV->Option (List (Nat×Nat))
 |[]=>some []
 |.o (.s (.bp i o))::l=>match PQ l with
  |some m=>some ((i,o)::m)
  |none=>none
 |_::_=>none
def PO {T:a8}{β:Nat->Nat}:∀{vs:List AV}{l:List (Nat×Nat)}{ys:List Value},PQ vs=some l->mW T β vs ys->ys=J9 β l/\∀i∈kz l,i∈ib vs
 |[],l,ys,h,hr=>by
  cases h
  cases ys with
  |nil=>exact⟨rfl,by simp [kz]⟩
  |cons _ _=>exact hr.elim
 |x::vs,l,ys,h,hr=>by
  unfold PQ at h
  split at h
  ·rename_i heq;cases heq
  ·rename_i i o vs' heq
   cases heq
   split at h
   ·rename_i m hm
    cases h
    cases ys with
    |nil=>exact hr.elim
    |cons y ys=>
     obtain⟨g1,g2⟩:=PO hm hr.2
     have:y= .pointer (some ⟨β i,o,none⟩):=hr.1
     subst this
     refine⟨by rw [J9,g1],λk hk=>?_⟩
     simp only [kz,ZB7] at hk
     simp only [ib,ZB5]
     rcases hk with rfl |hk
     ·exact .inl (by simp [AV.boxes,A0.boxes,SV.boxes])
     ·exact .inr (g2 k hk)
   ·cases h
  ·cases h
def fnR (d f:Nat) (avs:List AV):Rs:=match PQ avs with
 |some l=>.go [(.s d,.fn f l)]
 |none=>.no
def apP {f:Nat}{IF:Array Operand}(hd:d<N):gl P N ⟨some d,.makeFunc (.func f) #[] IF,ty,pos,af,g⟩ (adA IF.toList λavs=>.ret (fnR d f avs)):=by
 intro c τ a w hr hp K Q' hK
 obtain⟨T,β,hh⟩:=hr
 rw [FE] at hp hK
 cases hx:evA τ IF.toList with
 |none=>rw [hx] at hp;exact hp.elim
 |some avs=>
  rw [hx] at hp hK
  simp only [Q.run] at hp hK
  obtain⟨OY,hnm⟩:=KZ hh hx
  unfold fnR at hp hK
  cases hc:PQ avs with
  |none=>rw [hc] at hp;exact hp.elim
  |some l=>
   rw [hc] at hp hK
   obtain⟨g1,g2⟩:=PO hc OY
   have hex:(execOp a.eval ⟨some d,.makeFunc (.func f) #[] IF,ty,pos,af,g⟩).run P w= .ok (.value (.func (.func f) #[] (IF.map a.eval))) w:=by
    simp [execOp,Instr.makeFunc]
   exact gl.value (av:=.fn f l) hh rfl hd hex ⟨_,rfl,by rw [Array.toList_map];exact g1⟩ (λi hi=>hnm i (g2 i hi)) (λa' h=>hK _ _ _ rfl h)
def anT:List (Nat×Nat)->List AV
 |[]=>[]
 |p::l=>.s (.bp p.1 p.2)::anT l
def YY {T:a8}{β:Nat->Nat}:∀{l m:List AV}{xs ys:List Value},mW T β l xs->mW T β m ys->mW T β (l++m) (xs++ys)
 |[],_,[],_,_,h=>h
 |_::_,_,[],_,h,_=>h.elim
 |[],_,_::_,_,h,_=>h.elim
 |_::_,_,_::_,_,h,h'=>⟨h.1,YY h.2 h'⟩
def abc {T:a8}{β:Nat->Nat}:∀{l:List (Nat×Nat)},mW T β (anT l) (J9 β l)
 |[]=>trivial
 |_::_=>⟨rfl,abc⟩
def aks (tW:FuncId->Option cu) (pt:Bool) (d:Nat) (args:List Operand) (v:AV):Q Rs:=
 match v with
 |.fn f IF=>match tW f with
  |none=>.ret .no
  |some C=>adA args λavs=>afb C pt d (avs++anT IF)
 |_=>.ret .no
def abE {f:FuncId}(h:Enters P f) {args:Array Operand}{tys:Array TypeId}{ρ:Operand->Value}{k:Nat}{cs:Array Value}(hρ:ρ (.tmp k)= .func (.func f) #[] cs) {w:World}{dst:Option Nat}:
  (execOp ρ ⟨dst,.call ⟨.value (.tmp k),args,tys⟩,ty,pos,af,g⟩).run P w= .ok (.enter f (args.map ρ++cs)) w:=by
 obtain⟨fn,h1,h2,h3⟩:=h
 obtain⟨cd,hcd⟩:=Option.isSome_iff_exists.1 h2
 simp [execOp,resolve,hρ,Deferred.ofValue,invoke,callFunc,h1,hcd,h3]
def alY {pt:Bool}{tW:FuncId->Option cu}(ac2:∀f c,tW f=some c->AR P f c/\Enters P f) (hd:d<N) {k:Nat}{args:Array Operand}{tys:Array TypeId}:
  gl P N ⟨some d,.call ⟨.value (.tmp k),args,tys⟩,ty,pos,af,g⟩ (cq (.tmp k) λv=>aks tW pt d args.toList v):=by
 intro c τ a w hr hp K Q' hK
 obtain⟨T,β,hh⟩:=hr
 rw [dJ] at hp hK
 cases hx0:ev τ (.tmp k) with
 |none=>rw [hx0] at hp;exact hp.elim
 |some v=>
  rw [hx0] at hp hK
  have hv:=fA hh hx0
  simp only at hp hK
  unfold aks at hp hK
  split at hp
  ·rename_i f IF
   obtain⟨cs,e1,e2⟩:=hv
   simp only at hK
   cases hc:tW f with
   |none=>rw [hc] at hp;exact hp.elim
   |some C=>
    rw [hc] at hp hK
    simp only [FE] at hp hK
    obtain⟨hC,hE⟩:=ac2 f C hc
    cases hx:evA τ args.toList with
    |none=>rw [hx] at hp;exact hp.elim
    |some avs=>
     rw [hx] at hp hK
     simp only at hp hK
     obtain⟨OY,hnm⟩:=KZ hh hx
     have hen:=abE (P:=P) (ty:=ty) (pos:=pos) (af:=af) (g:=g) hE (args:=args) (tys:=tys) (ρ:=a.eval) e1 (w:=w) (dst:=some d)
     have hvs:(args.toList.map a.eval++J9 β IF).toArray=args.map a.eval++cs:=by
      apply Array.ext'
      simp [e2]
     rw [<-hvs] at hen
     exact TY hh hC hd rfl (YY OY abc) hen hp hK
  ·exact hp.elim
end
end GL
namespace GL
section
variable {P:Program}{N:Nat}{τ:St}
variable {d:Nat}{x y z:Operand}{t u ty:TypeId}{pos:String}{af:Array Edge}{g:Option (Nat×Bool)}
def akh (sz:Nat) (x:AV) (l h m:Option Int):V1:=
 match h,m with
 |some h,some m=>match x with
  |.o (.s (.vw ek v))=>bif Nat.beq ek.length sz then .oJ (0<=l.getD 0/\l.getD 0<=h/\h<=m/\m<=v.length) (.s (.vw ek ((v.drop (l.getD 0).toNat).take (h.toNat-(l.getD 0).toNat)))) else .no
  |.o (.s (.vz ek v))=>bif Nat.beq ek.length sz then .oJ (0<=l.getD 0/\l.getD 0<=h/\h<=m/\m<=v.length) (.s (.vz ek ((v.drop (l.getD 0).toNat).take (h.toNat-(l.getD 0).toNat)))) else .no
  |.o (.s (.xs i sz' o n))=>bif Nat.beq sz' sz then .oJ (0<=l.getD 0/\l.getD 0<=h/\h<=m/\m<=n) (.s (.xs i sz' (o+(l.getD 0).toNat) (h.toNat-(l.getD 0).toNat))) else .no
  |_=>.no
 |_,_=>.no
def YA (len cap:Nat) (l:Option Int) (h m:Int) (AG:0<=l.getD 0) (hlh:l.getD 0<=h) (hhm:h<=m) (hm:m<=cap) (w:World):
  (Instr.sliceBounds true len cap (l.map (Value.int .i64)) (some (.int .i64 h)) (some (.int .i64 m))).run P w= .ok ((l.getD 0).toNat,h.toNat,m.toNat) w:=by
 have hb:∀(i:Int) (y:Nat) (code:BoundsCode),0<=i->i<=y->(Instr.sliceBound (.int .i64 i) y code).run P w= .ok i.toNat w:=λi y code h0 h1=>run_sliceBound (P:=P) (w:=w) .i64 i y code h0 h1
 cases l with
 |none=>
  simp only [ZA3] at AG hlh
  simp [Instr.sliceBounds,hb m cap .slice3Acap (by omega) hm,hb h m.toNat .slice3B (by omega) (by omega)]
 |some l=>
  simp only [ZA2] at AG hlh
  simp [Instr.sliceBounds,hb m cap .slice3Acap (by omega) hm,hb h m.toNat .slice3B (by omega) (by omega),hb l h.toNat .slice3C (by omega) (by omega)]
def gl.aru {o:Oper}{l h m:Option Operand}{f:AV->Option Int->Option Int->Option Int->V1}(ho:o.dst=some d) (hd:d<N)
  (hs:∀c T β τ a w,Holds N c T β τ a w->∀v l' h' m',v.rel T β (a.eval x)->l.map a.eval=l'.map (Value.int .i64)->h.map a.eval=h'.map (Value.int .i64)->m.map a.eval=m'.map (Value.int .i64)->∀r,(f v l' h' m').yy r->(∀i∈r.boxes,i∈v.boxes)/\∃val,(execOp a.eval o).run P w= .ok (.value val) w/\r.rel T β val):
  gl P N o (cq x λv=>sw l λl'=>sw h λh'=>sw m λm'=>.ret ((f v l' h' m').rs d)):=by
 intro c τ a w hr hp K Q' hK
 obtain⟨T,β,hh⟩:=hr
 rw [dJ] at hp hK
 cases hx:ev τ x with
 |none=>rw [hx] at hp;exact hp.elim
 |some v=>
  rw [hx] at hp hK
  simp only [y8] at hp hK
  cases hl:evI τ l with
  |none=>rw [hl] at hp;exact hp.elim
  |some l'=>
   rw [hl] at hp hK
   simp only [y8] at hp hK
   cases hh':evI τ h with
   |none=>rw [hh'] at hp;exact hp.elim
   |some h'=>
    rw [hh'] at hp hK
    simp only [y8] at hp hK
    cases hm:evI τ m with
    |none=>rw [hm] at hp;exact hp.elim
    |some m'=>
     rw [hm] at hp hK
     refine V1.put hh hd hp ho (λr hr=>?_) hK
     obtain⟨h1,h2⟩:=hs c T β τ a w hh v l' h' m' (fA hh hx) (EY hh hl) (EY hh hh') (EY hh hm) r hr
     exact⟨λi hi=>jb hh hx i (h1 i hi),h2⟩
def uf {e:TypeId}{sz:Nat}(he:P.underlying t=some (.slice e)) (db:∀w,(sizeOf e).run P w= .ok sz w) {p:Option Addr}{len cap:Nat}{l:Option Int}{h m:Int}(h0:0<=l.getD 0) (h1:l.getD 0<=h) (h2:h<=m) (h3:m<=cap) (w:World):
  (Instr.slice t (.slice p len cap) (l.map (Value.int .i64)) (some (.int .i64 h)) (some (.int .i64 m))).run P w=
   .ok (.slice (if m.toNat=(l.getD 0).toNat then p else p.map (·.add ((l.getD 0).toNat*sz))) (h.toNat-(l.getD 0).toNat) (m.toNat-(l.getD 0).toNat)) w:=by
 have hbd:=YA (P:=P) len cap l h m h0 h1 h2 h3 w
 simp [Instr.slice,run_underlying he,hbd,db]
def an8 {sz:Nat}{l h m:Option Operand}(ht:tL P t=some sz) (hd:d<N):gl P N ⟨some d,.slice t x l h m,ty,pos,af,g⟩ (cq x λv=>sw l λl'=>sw h λh'=>sw m λm'=>.ret ((akh sz v l' h' m').rs d)):=
 gl.aru rfl hd λc T β τ a w hh v l' h' m' hv e2 e3 e4 r hr=>by
  obtain⟨e,he,db⟩:=wx ht
  have fin:∀{v1 v2:Value},a.eval x=v1->(Instr.slice t v1 (l'.map (Value.int .i64)) (h'.map (Value.int .i64)) (m'.map (Value.int .i64))).run P w= .ok v2 w->(v1 matches .slice _ _ _)=true->(execOp a.eval ⟨some d,.slice t x l h m,ty,pos,af,g⟩).run P w= .ok (.value v2) w:=by
   intro v1 v2 e1 fK hm
   cases v1<;>first|cases hm|skip
   simp [execOp,e1,e2,e3,e4,Instr.sliceAt,run_underlying he,fK]
  unfold akh at hr
  split at hr
  ·rename_i hi mi
   split at hr
   ·rename_i ek vs
    cases hb:Nat.beq ek.length sz with
    |false=>rw [hb] at hr;exact hr.elim
    |true=>
     rw [hb] at hr
     obtain⟨⟨h0,h1,h2,h3⟩,rfl⟩:=hr
     have hs:ek.length=sz:=by simpa using hb
     refine⟨λk hk=>by simp [AV.boxes,A0.boxes,SV.boxes] at hk,?_⟩
     have hlen:((vs.drop (l'.getD 0).toNat).take (hi.toNat-(l'.getD 0).toNat)).length=hi.toNat-(l'.getD 0).toNat:=by
      rw [ZB6,ZC8];omega
     rcases hv with ⟨hl,p,cap,e1⟩ |⟨b,o,cap,cs,te,fr,e1,hlc,hT,hw⟩
     ·subst hl
      simp only [ZA4] at h3
      have hz:hi=0/\mi=0/\l'.getD 0=0:=by omega
      obtain⟨rfl,rfl,AG⟩:=hz
      exact⟨_,fin e1 (uf he db (p:=p) (len:=0) (cap:=cap) h0 h1 h2 (by omega) w) rfl,.inl ⟨by simp,_,0,by simp [AG];rfl⟩⟩
     ·refine⟨_,fin e1 (uf he db (len:=vs.length) (cap:=cap) h0 h1 h2 (by omega) w) rfl,?_⟩
      by_cases hc:mi.toNat=(l'.getD 0).toNat
      ·refine .inl ⟨?_,some ⟨b,o,none⟩,mi.toNat-(l'.getD 0).toNat,?_⟩
       ·rw [<-ZE2,hlen];omega
       ·rw [if_pos hc];congr 1;omega
      ·refine .inr ⟨b,o+(l'.getD 0).toNat*ek.length,mi.toNat-(l'.getD 0).toNat,cs,te,fr,?_,by omega,hT,zh hw _ _⟩
       rw [if_neg hc,hlen,hs,Option.map_some,gV]
   ·rename_i ek vs
    cases hb:Nat.beq ek.length sz with
    |false=>rw [hb] at hr;exact hr.elim
    |true=>
     rw [hb] at hr
     obtain⟨⟨h0,h1,h2,h3⟩,rfl⟩:=hr
     have hs:ek.length=sz:=by simpa using hb
     refine⟨λk hk=>by simp [AV.boxes,A0.boxes,SV.boxes] at hk,?_⟩
     have hlen:((vs.drop (l'.getD 0).toNat).take (hi.toNat-(l'.getD 0).toNat)).length=hi.toNat-(l'.getD 0).toNat:=by
      rw [ZB6,ZC8];omega
     rcases hv with ⟨hl,p,cap,e1⟩ |⟨b,o,cap,cs,e1,hlc,hT,hw⟩
     ·subst hl
      simp only [ZA4] at h3
      have hz:hi=0/\mi=0/\l'.getD 0=0:=by omega
      obtain⟨rfl,rfl,AG⟩:=hz
      exact⟨_,fin e1 (uf he db (p:=p) (len:=0) (cap:=cap) h0 h1 h2 (by omega) w) rfl,.inl ⟨by simp,_,0,by simp [AG];rfl⟩⟩
     ·refine⟨_,fin e1 (uf he db (len:=vs.length) (cap:=cap) h0 h1 h2 (by omega) w) rfl,?_⟩
      by_cases hc:mi.toNat=(l'.getD 0).toNat
      ·refine .inl ⟨?_,some ⟨b,o,none⟩,mi.toNat-(l'.getD 0).toNat,?_⟩
       ·rw [<-ZE2,hlen];omega
       ·rw [if_pos hc];congr 1;omega
      ·refine .inr ⟨b,o+(l'.getD 0).toNat*ek.length,mi.toNat-(l'.getD 0).toNat,cs,?_,by omega,hT,zh hw _ _⟩
       rw [if_neg hc,hlen,hs,Option.map_some,gV]
   ·rename_i i sz' o n
    cases hb:Nat.beq sz' sz with
    |false=>rw [hb] at hr;exact hr.elim
    |true=>
     rw [hb] at hr
     obtain⟨⟨h0,h1,h2,h3⟩,rfl⟩:=hr
     have hs:sz'=sz:=by simpa using hb
     refine⟨λk hk=>hk,?_⟩
     rcases hv with ⟨hl,p,e1⟩ |⟨cap,k,e1,hlc,hT,hle⟩
     ·subst hl
      have hz:hi=0/\mi=0/\l'.getD 0=0:=by omega
      obtain⟨rfl,rfl,AG⟩:=hz
      exact⟨_,fin e1 (uf he db (p:=p) (len:=0) (cap:=0) h0 h1 h2 (by omega) w) rfl,.inl ⟨by simp,_,by simp [AG];rfl⟩⟩
     ·refine⟨_,fin e1 (uf he db (len:=n) (cap:=cap) h0 h1 h2 (by omega) w) rfl,?_⟩
      by_cases hc:mi.toNat=(l'.getD 0).toNat
      ·refine .inl ⟨by omega,some ⟨β i,o*sz',none⟩,?_⟩
       rw [if_pos hc]
       congr 1<;>omega
      ·refine .inr ⟨mi.toNat-(l'.getD 0).toNat,k,?_,by omega,hT,?_⟩
       ·rw [if_neg hc,ZF0,hs,Option.map_some,gV]
       ·exact ZA9 (ZG9 _ (by omega)) hle
   ·exact hr.elim
  ·exact hr.elim
def asm (op:BinOp) (b:Bool):Option Bool:=match op with
 |.eql=>some b
 |.neq=>some (!b)
 |_=>none
def ano:AV->Option (Bool->Prop)
 |.o (.s (.v (.slice none 0 0)))=>some λb=>b=true
 |.o (.s (.vw _ l))=>some λb=>b=true->l=[]
 |.o (.s (.vz _ l))=>some λb=>b=true->l=[]
 |.o (.s (.xs _ _ _ m))=>some λb=>b=true->m=0
 |_=>none
def ann (op:BinOp) (d:Nat) (v:AV):Q Rs:=
 match op,ano v with
 |.eql,some φ=>.ret (.ex (∃b,φ b) Bool φ [(.s d,λb=>.q b)])
 |.neq,some φ=>.ret (.ex (∃b,φ b) Bool φ [(.s d,λb=>.q (!b))])
 |_,_=>.ret .no
def abD {e:TypeId}(he:P.underlying t=some (.slice e)) (p:Option Addr) (n cap:Nat) (w:World) (dd:Nat):(Op.equalIn (dd+1) t (.slice p n cap) (.slice none 0 0)).run P w= .ok p.isNone w:=by
 cases p<;>simp [Op.equalIn,run_underlying he]
def RN {e:TypeId}(he:P.underlying t=some (.slice e)) (p:Option Addr) (n cap:Nat) (w:World):(Op.equal t (.slice p n cap) (.slice none 0 0)).run P w= .ok p.isNone w:=abD he p n cap w 9999
def akZ {ms:Array (String×TypeId)}(ht:P.underlying t=some (.interface ms)) {y:Value}(w:World) (dd:Nat):(y= .nilIface->(Op.equalIn (dd+1) t y .nilIface).run P w= .ok true w)/\((∃a b,y= .iface a b)->(Op.equalIn (dd+1) t y .nilIface).run P w= .ok false w):=by
 refine⟨?_,?_⟩
 ·rintro rfl;simp [Op.equalIn,run_underlying ht]
 ·rintro⟨a,b,rfl⟩;simp [Op.equalIn,run_underlying ht]
def ahD {ms:Array (String×TypeId)}(ht:P.underlying t=some (.interface ms)) {y:Value}(w:World):(y= .nilIface->(Op.equal t y .nilIface).run P w= .ok true w)/\((∃a b,y= .iface a b)->(Op.equal t y .nilIface).run P w= .ok false w):=akZ ht w 9999
def akD {e:TypeId}{op:BinOp}(he:P.underlying t=some (.slice e)) (hd:d<N):gl P N ⟨some d,.binOp op t x (.const (.slice none 0 0)) u,ty,pos,af,g⟩ (cq x λv=>ann op d v):=by
 intro c τ a w hr hp K Q' hK
 obtain⟨T,β,hh⟩:=hr
 rw [dJ] at hp hK
 cases hx:ev τ x with
 |none=>rw [hx] at hp;exact hp.elim
 |some v=>
  rw [hx] at hp hK
  have hv:=fA hh hx
  simp only at hp hK
  have key:∀φ,ano v=some φ->∃p n cap,a.eval x= .slice p n cap/\φ p.isNone:=by
   intro φ hφ
   unfold ano at hφ
   split at hφ
   ·cases hφ
    exact⟨none,0,0,hv,rfl⟩
   ·cases hφ
    rcases hv with ⟨rfl,p,cap,e1⟩ |⟨b,o,cap,cs,te,fr,e1,_⟩
    ·exact⟨p,0,cap,e1,λ_=>rfl⟩
    ·exact⟨_,_,_,e1,λh=>by cases h⟩
   ·cases hφ
    rcases hv with ⟨rfl,p,cap,e1⟩ |⟨b,o,cap,cs,e1,_⟩
    ·exact⟨p,0,cap,e1,λ_=>rfl⟩
    ·exact⟨_,_,_,e1,λh=>by cases h⟩
   ·cases hφ
    rcases hv with ⟨rfl,p,e1⟩ |⟨cap,n,e1,_⟩
    ·exact⟨p,0,0,e1,λ_=>rfl⟩
    ·exact⟨_,_,_,e1,λh=>by cases h⟩
   ·cases hφ
  unfold ann at hp hK
  split at hp
  ·rename_i φ hφ
   simp only [hφ] at hK
   obtain⟨p,n,cap,e1,h1⟩:=key φ hφ
   have hex:(execOp a.eval ⟨some d,.binOp .eql t x (.const (.slice none 0 0)) u,ty,pos,af,g⟩).run P w= .ok (.value (.bool p.isNone)) w:=by
    have h2:=RN (P:=P) he p n cap w
    simp [execOp,e1,show a.eval (.const (.slice none 0 0))= .slice none 0 0 from rfl,eqGuard,binOp,h2]
   exact gl.value (av:=.q p.isNone) hh rfl hd hex rfl (by simp [AV.boxes,A0.boxes,SV.boxes]) (λa' h=>hK _ _ _ ⟨p.isNone,h1,rfl⟩ h)
  ·rename_i φ hφ
   simp only [hφ] at hK
   obtain⟨p,n,cap,e1,h1⟩:=key φ hφ
   have hex:(execOp a.eval ⟨some d,.binOp .neq t x (.const (.slice none 0 0)) u,ty,pos,af,g⟩).run P w= .ok (.value (.bool (!p.isNone))) w:=by
    have h2:=RN (P:=P) he p n cap w
    simp [execOp,e1,show a.eval (.const (.slice none 0 0))= .slice none 0 0 from rfl,eqGuard,binOp,h2]
   exact gl.value (av:=.q (!p.isNone)) hh rfl hd hex rfl (by simp [AV.boxes,A0.boxes,SV.boxes]) (λa' h=>hK _ _ _ ⟨p.isNone,h1,rfl⟩ h)
  ·exact hp.elim
def anR (op:BinOp) (v:AV):V1:=
 match v with
 |.o (.s (.er b))=>match op with
  |.eql=>.go (.q b)
  |.neq=>.go (.q (!b))
  |_=>.no
 |_=>.no
def apS {ms:Array (String×TypeId)}{op:BinOp}(ht:P.underlying t=some (.interface ms)) (hd:d<N):gl P N ⟨some d,.binOp op t x (.const .nilIface) u,ty,pos,af,g⟩ (cq x λv=>.ret ((anR op v).rs d)):=
 gl.wS rfl hd λc T β τ a w hh v hv r hr=>by
  unfold anR at hr
  split at hr
  ·rename_i b
   cases b with
   |true=>
    have e1:a.eval x= .nilIface:=hv
    have h3:=(ahD (P:=P) ht (y:=.nilIface) w).1 rfl
    split at hr
    ·cases hr
     exact⟨aiA _ _,.bool true,by simp [execOp,e1,show a.eval (.const .nilIface)= .nilIface from rfl,eqGuard,binOp,h3],rfl⟩
    ·cases hr
     exact⟨aiA _ _,.bool false,by simp [execOp,e1,show a.eval (.const .nilIface)= .nilIface from rfl,eqGuard,binOp,h3],rfl⟩
    ·exact hr.elim
   |false=>
    obtain⟨tt,vv,e1⟩:∃t v,a.eval x= .iface t v:=hv
    have h3:=(ahD (P:=P) ht (y:=.iface tt vv) w).2 ⟨tt,vv,rfl⟩
    split at hr
    ·cases hr
     exact⟨aiA _ _,.bool false,by simp [execOp,e1,show a.eval (.const .nilIface)= .nilIface from rfl,eqGuard,binOp,h3],rfl⟩
    ·cases hr
     exact⟨aiA _ _,.bool true,by simp [execOp,e1,show a.eval (.const .nilIface)= .nilIface from rfl,eqGuard,binOp,h3],rfl⟩
    ·exact hr.elim
  ·exact hr.elim
structure Arr (P:Program) (t:TypeId) (jX:Nat):Prop where
 info:∃z,yJ P t=some (1,jX,[z])
 small:jX<=1048576
def Arr.sh (h:Arr P t u):tL P t=some 1:=by
 obtain⟨z,hz⟩:=h.info
 obtain⟨e,i,z',ht,hi,_,db,_⟩:=kR hz
 unfold tL
 rw [ht]
 simp [hi,db]
def cellsOf:Nat->List (Nat×AV)->Option (List SV)
 |_,[]=>some []
 |j,p::l=>match p.2 with
  |.o (.s x)=>bif Nat.beq p.1 j&&x.one then (match cellsOf (j+1) l with
   |some m=>some (x::m)
   |none=>none) else none
  |_=>none
def JQ {c:Ctx}{T:a8}{β:Nat->Nat}{a:Act}{w:World}(hh:Holds N c T β τ a w):∀(parts:List (Nat×Operand)) (vs:List (Nat×AV)) (j:Nat) (l:List SV) (cs:Array Value),evL τ parts=some vs->cellsOf j vs=some l->j+parts.length<=cs.size->
  l.length=parts.length/\(∀i∈ct l,τ (.b i)≠none)/\∃mD ys,Instr.fill (λi=>some (i*1,1)) cs (parts.map λp=>(p.1,a.eval p.2))=some mD/\dY T β l ys/\mD.toList=cs.toList.take j++ys++cs.toList.drop (j+parts.length)
 |[],vs,j,l,cs,h1,h2,h3=>by
  cases h1;cases h2
  exact⟨rfl,by simp [ct],cs,[],rfl,trivial,by simp⟩
 |p::parts,vs,j,l,cs,h1,h2,h3=>by
  simp only [evL] at h1
  split at h1
  ·rename_i v hv
   split at h1
   ·rename_i vs' hvs
    cases h1
    simp only [cellsOf] at h2
    split at h2
    ·rename_i x
     cases hc:Nat.beq p.1 j&&x.one with
     |false=>rw [hc] at h2;cases h2
     |true=>
      rw [hc] at h2
      simp only [cond_true] at h2
      split at h2
      ·rename_i m hm
       cases h2
       simp only [ZB1] at hc
       have hj:p.1=j:=by simpa using hc.1
       have hr:x.rel T β (a.eval p.2):=fA hh hv
       have iz:=E4 (SV.VD hc.2 hr)
       simp only [ZA1] at h3
       obtain⟨g1,g2,mD,ys,g3,g4,g5⟩:=JQ hh parts vs' (j+1) m (spl cs j [a.eval p.2]) hvs hm (by rw [ph];omega)
       refine⟨by simp [g1],λi hi=>?_,mD,a.eval p.2::ys,?_,⟨hr,g4⟩,?_⟩
       ·simp only [ct,ZB5] at hi
        rcases hi with hi |hi
        ·exact jb hh hv i hi
        ·exact g2 i hi
       ·rw [ZF1,hj,H8 (place:=λi=>some (i*1,1)) (off:=j*1) (size:=1) rfl (by rw [iz];rfl) (by omega),Nat.mul_one,iz]
        exact g3
       ·rw [g5,n0 _ _ _ (by simp;omega)]
        have hl1:(cs.toList.take j++[a.eval p.2]).length=j+1:=by simp;omega
        have e1:(cs.toList.take j++[a.eval p.2]++cs.toList.drop (j+[a.eval p.2].length)).take (j+1)=cs.toList.take j++[a.eval p.2]:=by rw [<-hl1];exact List.take_left' rfl
        have e2:(cs.toList.take j++[a.eval p.2]++cs.toList.drop (j+[a.eval p.2].length)).drop (j+1+parts.length)=cs.toList.drop (j+(parts.length+1)):=by
         rw [<-hl1,ZG2,ZH0]
         congr 1;show j+1+parts.length=j+(parts.length+1);omega
        rw [e1,e2]
        simp
      ·cases h2
    ·cases h2
   ·cases h1
  ·cases h1
def akC (d k:Nat) (vs:List (Nat×AV)):Q Rs:=
 match cellsOf 0 vs with
 |some l=>bif Nat.beq l.length k&&(Nat.blt 0 k&&Nat.ble k 16777216) then .ask (.b (1000+d)) fun
  |none=>.ret (.go [(.s d,.s (.xs (1000+d) 1 0 k)),(.b (1000+d),.a l)])
  |some _=>.ret .no else .ret .no
 |none=>.ret .no
def aoc {jX k:Nat}{parts:Array (Nat×Operand)}(hf:Arr P t jX) (hd:d<N):gl P N ⟨some d,.buildSlice t k parts,ty,pos,af,g⟩ (W8 parts.toList λvs=>akC d k vs):=by
 intro c τ a w hr hp K Q' hK
 obtain⟨T,β,hh⟩:=hr
 rw [FC] at hp hK
 cases hx:evL τ parts.toList with
 |none=>rw [hx] at hp;exact hp.elim
 |some vs=>
  rw [hx] at hp hK
  simp only at hp hK
  unfold akC at hp hK
  split at hp
  ·rename_i l hl
   simp only [hl] at hK
   cases hc:Nat.beq l.length k&&(Nat.blt 0 k&&Nat.ble k 16777216) with
   |false=>rw [hc] at hp;exact hp.elim
   |true=>
    rw [hc] at hp hK
    simp only [cond_true,Q.run] at hp hK
    simp only [ZB1] at hc
    have hk:l.length=k:=by simpa using hc.1
    have hk0:0<k:=nE.1 hc.2.1
    have hle:=zqNlb hc.2.2
    cases hn:τ (.b (1000+d)) with
    |some v=>rw [hn] at hp;exact hp.elim
    |none=>
     rw [hn] at hp hK
     obtain⟨z0,HY⟩:=hf.info
     obtain⟨e,i,z,ht,hi,hz,db,hby,hzs⟩:=kR HY
     let cs0:Array Value:=(Array.range (k*i.size)).map (λk=>z.cells[k % z.cells.size]!)
     have aaJ:cs0.size=k:=by simp [cs0,db]
     have tU:parts.toList.length=k:=by
      rw [<-hk]
      have:∀(ps:List (Nat×Operand)) (vs:List (Nat×AV)) (j:Nat) (l:List SV),evL τ ps=some vs->cellsOf j vs=some l->l.length=ps.length:=by
       intro ps
       induction ps with
       |nil=>intro vs j l h h2;cases h;cases h2;rfl
       |cons p ps ih=>
        intro vs j l h h2
        simp only [evL] at h
        split at h
        ·split at h
         ·rename_i vs' h'
          cases h
          simp only [cellsOf] at h2
          split at h2
          ·rename_i x _
           cases hq:Nat.beq p.1 j&&x.one with
           |false=>rw [hq] at h2;cases h2
           |true=>
            rw [hq] at h2
            simp only [cond_true] at h2
            split at h2
            ·rename_i m hm;cases h2;simp [ih _ _ _ h' hm]
            ·cases h2
          ·cases h2
         ·cases h
        ·cases h
      exact (this _ _ _ _ hx hl).symm
     obtain⟨_,hnm,mD,ys,ajw,cB,anJ⟩:=JQ hh parts.toList vs 0 l cs0 hx hl (by omega)
     have lj:mD.toList=ys:=by
      rw [anJ,tU,ZA6,List.take_zero,ZC9,List.drop_of_length_le (by simp [aaJ]),ZD4]
     have OW:mD.size=k:=by rw [<-ZD6,lj,<-lx cB,hk]
     have h24:¬(16777216<k*i.size):=by rw [db];omega
     have wm:Instr.fill (λx=>some (x*i.size,i.size)) cs0 (parts.toList.map λp=>(p.1,a.eval p.2))=some mD:=by rw [db];exact ajw
     have aq8:¬k*i.size=0:=by rw [db];omega
     have hex:(execOp a.eval ⟨some d,.buildSlice t k parts,ty,pos,af,g⟩).run P w= .ok (.value (.slice (some ⟨w.heap.size,0,none⟩) k k)) { w with heap:=w.heap.push (.cells mD e (0,0)) }:=by
      simp only [cs0] at wm
      simp [execOp,Instr.buildSlice,run_underlying ht,sizeOf,typeInfo,hi,h24,aq8,newRow,zeroValue,hz]
      simp [wm]
     have hpu:qk w (.cells mD e (0,0)) { w with heap:=w.heap.push (.cells mD e (0,0)) }:=⟨rfl,rfl,rfl,rfl⟩
     have h1:=hh.vX (d:=1000+d) (by omega) hn (av:=.a l) (cs:=mD) (e:=e) hpu (show dY T β l mD.toList by rw [lj];exact cB) hnm
     unfold Oper.wp
     rw [hex]
     show K (a.put (some d) _) _
     refine hK _ _ _ rfl ⟨_,_,h1.put hd (av:=.s (.xs (1000+d) 1 0 k)) (.inr ⟨k,mD.size,?_,ZB0 _,?_,by omega⟩) (by simp [AV.boxes,A0.boxes,SV.boxes,wN])⟩
     ·show _=Value.slice (some ⟨pV β (1000+d) w.heap.size (1000+d),0*1,none⟩) _ _
      unfold pV;rw [if_pos rfl]
     ·unfold pV qW;rw [if_pos rfl,if_pos rfl]
  ·exact hp.elim
end
end GL
namespace GL
inductive Kd where
 |str
 |bool
 |int (k:IntKind)
 |slice (ek:EK) (jX:Nat)
 |bytes (jX:Nat)
 |ints (n:Nat)
 |other
 |iface
 |arr (jX:Nat)
structure TI where
 agg:Bool
 size:Nat
 kd:Kd
 zero:List Value
 agT:List (Nat×Bool×Nat)
 places:List (Nat×Nat)
def isIface (P:Program) (t:TypeId):Bool:=match P.underlying t with
 |some (.interface _)=>true
 |_=>false
def acV {P:Program}{t:TypeId}(h:isIface P t=true):∃ms,P.underlying t=some (.interface ms):=by
 unfold isIface at h
 split at h
 ·rename_i ms e;exact⟨ms,e⟩
 ·cases h
def apW (P:Program) (t:TypeId):Kd->Prop
 |.str=>P.underlying t=some .string
 |.bool=>P.underlying t=some .bool
 |.int k=>P.underlying t=some (.int k)
 |.slice ek jX=>Fits P t ek jX
 |.bytes jX=>Fits P t nJ jX/\∃e,P.underlying t=some (.slice e)/\P.underlying e=some (.int .u8)
 |.ints n=>apY P t n
 |.other=>True
 |.iface=>isIface P t=true
 |.arr jX=>Arr P t jX
structure jB (P:Program) (t:TypeId) (i:TI):Prop where
 sh:Sh P t=some (i.agg,i.size)
 zero:zeroOf P t=some i.zero
 agT:∀(f:Nat) (x:Nat×Bool×Nat),i.agT[f]?=some x->lD P t f=some x
 places:i.places=[]\/akA P t=some (i.places,i.zero)
 kd:apW P t i.kd
structure Env where
 N:Nat
 tab:TypeId->Option TI
 tW:FuncId->Option cu
 exact:Nat->Bool:=λ_=>true
 wr:Nat->Bool:=λ_=>false
 part:Nat->Bool:=λ_=>false
structure FM (P:Program) (E:Env):Prop where
 tab:∀t i,E.tab t=some i->jB P t i
 tW:∀f c,E.tW f=some c->AR P f c/\Enters P f
def ov:Q Rs:=.ret .no
def jC (N:Nat) (o:Option Nat) (k:Nat->Q Rs):Q Rs:=
 match o with
 |some d=>bif Nat.blt d N then k d else ov
 |none=>ov
def nO (E:Env) (t:TypeId) (k:TI->Q Rs):Q Rs:=
 match E.tab t with
 |some i=>k i
 |none=>ov
def alN:Kd->Option EK
 |.slice ek _=>some ek
 |.bytes _=>some nJ
 |_=>none
def adI (E:Env) (t:TypeId) (k:EK->Q Rs):Q Rs:=nO E t λi=>match alN i.kd with
 |some ek=>k ek
 |none=>ov
def adY (E:Env) (d:Nat) (c:Call):Q Rs:=
 match c with
 |⟨.value (.func f),args,_⟩=>aku E.tW (E.part d) d f args.toList
 |⟨.value (.tmp k),args,_⟩=>cq (.tmp k) λv=>aks E.tW (E.part d) d args.toList v
 |⟨.builtin .len,⟨[x]⟩,⟨[t]⟩⟩=>nO E t λi=>match i.kd with
  |.str=>cq x λv=>.ret ((aak true v).rs d)
  |.slice _ _=>cq x λv=>.ret ((aak false v).rs d)
  |.bytes _=>cq x λv=>.ret ((aak false v).rs d)
  |.arr _=>cq x λv=>.ret ((aak false v).rs d)
  |_=>ov
 |⟨.builtin .append,⟨[x,y]⟩,⟨[t,t']⟩⟩=>bif Nat.beq t t' then adI E t λek=>bif E.exact d then cq x λv=>cq y λu=>aof (E.part d) d ek v u else cq x λv=>cq y λu=>aog (E.part d) d ek v u else ov
 |⟨.builtin .max,⟨[x,y]⟩,_⟩=>cq x λv=>cq y λu=>.ret ((mmV true v u).rs d)
 |⟨.builtin .min,⟨[x,y]⟩,_⟩=>cq x λv=>cq y λu=>.ret ((mmV false v u).rs d)
 |_=>ov
def stp (E:Env) (o:Oper):Q Rs:=
 match o.op with
 |.move x=>jC E.N o.dst λd=>cq x λv=>.ret ((V1.go v).rs d)
 |.assign x=>jC E.N o.dst λd=>cq x λv=>.ret ((V1.go v).rs d)
 |.pick z x y=>jC E.N o.dst λd=>cq z λv=>cq x λu=>cq y λs=>.ret ((ahT v u s).rs d)
 |.alloc t=>jC E.N o.dst λd=>nO E t λi=>adD d (D5 i.zero)
 |.box _ x=>jC E.N o.dst λd=>cq x λv=>anX d v
 |.build t parts=>jC E.N o.dst λd=>nO E t λi=>match i.places with
  |[]=>ov
  |p::l=>W8 parts.toList λvs=>.ret ((adx (p::l) i.zero vs).rs d)
 |.buildSlice t k parts=>jC E.N o.dst λd=>nO E t λi=>match i.kd with
  |.arr _=>W8 parts.toList λvs=>akC d k vs
  |kd=>match alN kd with
   |some ek=>W8 parts.toList λvs=>W5 (E.exact d) d k ek vs
   |none=>ov
 |.load t x=>jC E.N o.dst λd=>nO E t λi=>cq x λv=>aiK i.agg i.size d v
 |.store t x y=>match o.dst with
  |none=>nO E t λi=>cq x λv=>cq y λu=>abv i.size v u
  |some _=>ov
 |.nilCheck x=>jC E.N o.dst λd=>cq x λv=>.ret ((anm v).rs d)
 |.binOp op t x y _=>jC E.N o.dst λd=>nO E t λi=>match i.kd with
  |.bool=>cq x λv=>cq y λu=>.ret ((anZ op v u).rs d)
  |.ints n=>cq x λv=>cq y λu=>.ret ((am1 n op v u).rs d)
  |.slice _ _=>match y with
   |.const (.slice none 0 0)=>cq x λv=>ann op d v
   |_=>ov
  |.iface=>match y with
   |.const .nilIface=>cq x λv=>.ret ((anR op v).rs d)
   |_=>ov
  |_=>cq x λv=>cq y λu=>.ret ((anY (E.wr d) op v u).rs d)
 |.unOp .not _ x=>jC E.N o.dst λd=>cq x λv=>.ret ((ank v).rs d)
 |.unOp .neg _ x=>jC E.N o.dst λd=>cq x λv=>.ret ((anp v).rs d)
 |.convert t u x=>jC E.N o.dst λd=>nO E t λi=>nO E u λj=>match i.kd,j.kd with
  |.bytes _,.str=>cq x λv=>aho (E.part d) d v
  |.bytes _,.bytes _=>bif Nat.beq t u then cq x λv=>.ret ((ahA v).rs d) else ov
  |_,.int k=>cq x λv=>.ret ((aki k v).rs d)
  |_,_=>ov
 |.makeSlice t x y=>jC E.N o.dst λd=>adI E t λek=>cq x λv=>cq y λu=>aiJ (E.exact d) d ek v u
 |.slice t x l h none=>jC E.N o.dst λd=>nO E t λi=>match i.kd with
  |.str=>cq x λv=>sw l λl'=>sw h λh'=>.ret ((adr true 0 v l' h').rs d)
  |.slice ek _=>cq x λv=>sw l λl'=>sw h λh'=>.ret ((adr false ek.length v l' h').rs d)
  |.bytes _=>cq x λv=>sw l λl'=>sw h λh'=>.ret ((adr false 1 v l' h').rs d)
  |_=>ov
 |.slice t x l h (some m)=>jC E.N o.dst λd=>nO E t λi=>match i.kd with
  |.slice ek _=>cq x λv=>sw l λl'=>sw h λh'=>sw (some m) λm'=>.ret ((akh ek.length v l' h' m').rs d)
  |_=>ov
 |.makeFunc (.func f) ⟨[]⟩ IF=>jC E.N o.dst λd=>adA IF.toList λavs=>.ret (fnR d f avs)
 |.fieldAddr t x f=>jC E.N o.dst λd=>nO E t λi=>match i.agT[f]? with
  |some (off,_,_)=>cq x λv=>.ret ((adj off v).rs d)
  |none=>ov
 |.field t x f=>jC E.N o.dst λd=>nO E t λi=>match i.agT[f]? with
  |some (off,b,n)=>cq x λv=>.ret ((ac8 off b n v).rs d)
  |none=>ov
 |.indexAddr t x y=>jC E.N o.dst λd=>nO E t λi=>match i.kd with
  |.arr _=>cq x λv=>cq y λu=>.ret ((WG 1 v u).rs d)
  |kd=>match alN kd with
   |some ek=>cq x λv=>cq y λu=>.ret ((WG ek.length v u).rs d)
   |none=>ov
 |.index t x y=>jC E.N o.dst λd=>nO E t λi=>match i.kd with
  |.str=>cq x λv=>cq y λu=>.ret ((acY v u).rs d)
  |_=>ov
 |.extract x i=>jC E.N o.dst λd=>cq x λv=>.ret ((PE i v).rs d)
 |.call c=>jC E.N o.dst λd=>adY E d c
 |_=>ov
section
variable {P:Program}
def eR {N:Nat}{o:Oper}:gl P N o ov:=λ_ _ _ _ _ hp=>hp.elim
def dQ {N:Nat}{o:Oper}{k:Nat->Q Rs}(h:∀d,o.dst=some d->d<N->gl P N o (k d)):gl P N o (jC N o.dst k):=by
 unfold jC
 split
 ·rename_i d hd
  cases hb:Nat.blt d N with
  |false=>exact eR
  |true=>exact h d hd (nE.1 hb)
 ·exact eR
def gm {E:Env}(hE:FM P E) {o:Oper}{t:TypeId}{k:TI->Q Rs}(h:∀i,jB P t i->gl P E.N o (k i)):gl P E.N o (nO E t k):=by
 unfold nO
 split
 ·rename_i i hi;exact h i (hE.tab t i hi)
 ·exact eR
def XJ {E:Env}(hE:FM P E) {o:Oper}{t:TypeId}{k:EK->Q Rs}(h:∀ek jX,Fits P t ek jX->gl P E.N o (k ek)):gl P E.N o (adI E t k):=by
 unfold adI
 refine gm hE λi hi=>?_
 have hk:=hi.kd
 cases hkd:i.kd with
 |slice ek jX=>rw [hkd] at hk;exact h ek jX hk
 |bytes jX=>rw [hkd] at hk;exact h nJ jX hk.1
 |_=>exact eR
def aeZ {t:TypeId}{kd:Kd}(hk:apW P t kd) {ek:EK}(h:alN kd=some ek):∃jX,Fits P t ek jX:=by
 cases kd with
 |slice nT jX=>cases h;exact⟨jX,hk⟩
 |bytes jX=>cases h;exact⟨jX,hk.1⟩
 |_=>cases h
theorem amX {E:Env}(hE:FM P E) (o:Oper):gl P E.N o (stp E o):=by
 obtain⟨dst,op,ty,pos,af,g⟩:=o
 unfold stp
 cases op
 case move x=>exact dQ λd hd hN=>by cases hd;exact an3 hN
 case assign x=>exact dQ λd hd hN=>by cases hd;exact akG hN
 case pick z x y=>exact dQ λd hd hN=>by cases hd;exact an2 hN
 case alloc t=>exact dQ λd hd hN=>gm hE λi hi=>by cases hd;exact al0 hi.zero hN
 case box t x=>exact dQ λd hd hN=>by cases hd;exact apT hN
 case build t parts=>
  refine dQ λd hd hN=>gm hE λi hi=>?_
  cases hd
  split
  ·exact eR
  ·rename_i p l tU
   rcases hi.places with h |h
   ·rw [tU] at h;cases h
   ·rw [tU] at h;exact alZ h hN
 case buildSlice t k parts=>
  refine dQ λd hd hN=>gm hE λi hi=>?_
  cases hd
  have hk:=hi.kd
  split
  ·rename_i jX h;rw [h] at hk;exact aoc hk hN
  ·split
   ·rename_i ek h
    obtain⟨jX,hf⟩:=aeZ hk h
    exact akF hf hN
   ·exact eR
 case load t x=>exact dQ λd hd hN=>gm hE λi hi=>by cases hd;exact an5 hi.sh hN
 case store t x y=>
  cases dst with
  |none=>exact gm hE λi hi=>alT hi.sh
  |some _=>exact eR
 case nilCheck x=>exact dQ λd hd hN=>by cases hd;exact apN hN
 case binOp op t x y t'=>
  refine dQ λd hd hN=>gm hE λi hi=>?_
  cases hd
  have hk:=hi.kd
  split
  ·rename_i h;rw [h] at hk;exact apV hk hN
  ·rename_i n h;rw [h] at hk;exact apL hk hN
  ·rename_i ek jX h
   rw [h] at hk
   obtain⟨e,i',z',ht,_⟩:=kR hk.info
   split
   ·exact akD ht hN
   ·exact eR
  ·rename_i h
   rw [h] at hk
   obtain⟨ms,hm⟩:=acV hk
   split
   ·exact apS hm hN
   ·exact eR
  ·exact aob hN
 case unOp u t x=>
  cases u
  case not=>exact dQ λd hd hN=>by cases hd;exact apM hN
  case neg=>exact dQ λd hd hN=>by cases hd;exact apO hN
  all_goals exact eR
 case convert t u x=>
  refine dQ λd hd hN=>gm hE λi hi=>gm hE λj hj=>?_
  cases hd
  have hk:=hi.kd
  have hl:=hj.kd
  split
  ·rename_i h1 h2
   rw [h1] at hk;rw [h2] at hl
   obtain⟨_,e,g1,g2⟩:=hk
   exact an0 g1 g2 hl hN
  ·rename_i h1 h2
   rw [h1] at hk
   obtain⟨_,e,g1,g2⟩:=hk
   cases hb:Nat.beq t u with
   |false=>exact eR
   |true=>
    have:t=u:=by simpa using hb
    subst this
    exact an1 g1 g2 hN
  ·rename_i k h2
   rw [h2] at hl
   have aoW:(P.underlying t).isSome=true:=by
    have:=hi.sh
    unfold Sh at this
    cases hu:P.underlying t with
    |none=>rw [hu] at this;simp at this
    |some _=>rfl
   exact an9 k aoW hl hN
  ·exact eR
 case makeSlice t x y=>exact dQ λd hd hN=>XJ hE λek jX hf=>by cases hd;exact an4 hf hN
 case slice t x l h m=>
  cases m with
  |some m=>
    refine dQ λd hd hN=>gm hE λi hi=>?_
    cases hd
    have hk:=hi.kd
    split
    ·rename_i ek jX h1;rw [h1] at hk;exact an8 hk.sh hN
    ·exact eR
  |none=>
    refine dQ λd hd hN=>gm hE λi hi=>?_
    cases hd
    have hk:=hi.kd
    split
    ·rename_i h1;rw [h1] at hk;exact an7 hk hN
    ·rename_i ek jX h1;rw [h1] at hk;exact akE hk.sh hN
    ·rename_i jX h1;rw [h1] at hk;exact akE hk.1.sh hN
    ·exact eR
 case fieldAddr t x f=>
  refine dQ λd hd hN=>gm hE λi hi=>?_
  cases hd
  split
  ·rename_i off b n hf;exact alX (hi.agT f _ hf) hN
  ·exact eR
 case field t x f=>
  refine dQ λd hd hN=>gm hE λi hi=>?_
  cases hd
  split
  ·rename_i off b n hf;exact alV (hi.agT f _ hf) hN
  ·exact eR
 case makeFunc fn first IF=>
  obtain⟨l⟩:=first
  cases fn with
  |func f=>
   cases l with
   |nil=>exact dQ λd hd hN=>by cases hd;exact apP hN
   |cons _ _=>exact eR
  |_=>exact eR
 case indexAddr t x y=>
  refine dQ λd hd hN=>gm hE λi hi=>?_
  cases hd
  have hk:=hi.kd
  split
  ·rename_i jX h;rw [h] at hk;exact afc hk.sh hN
  ·split
   ·rename_i ek h
    obtain⟨jX,hf⟩:=aeZ hk h
    exact afc hf.sh hN
   ·exact eR
 case index t x y=>
  refine dQ λd hd hN=>gm hE λi hi=>?_
  cases hd
  have hk:=hi.kd
  split
  ·rename_i h;rw [h] at hk;exact alU hk hN
  ·exact eR
 case extract x i=>exact dQ λd hd hN=>by cases hd;exact ag6 hN
 case call c=>
  refine dQ λd hd hN=>?_
  cases hd
  unfold adY
  split
  ·exact aoa hE.tW hN
  ·exact alY hE.tW hN
  ·rename_i x t
   refine gm hE λi hi=>?_
   ·have hk:=hi.kd
    split
    ·rename_i h;rw [h] at hk;exact an6 hk hN
    ·rename_i ek jX h;rw [h] at hk;exact adz hk.sh hN
    ·rename_i jX h;rw [h] at hk;exact adz hk.1.sh hN
    ·rename_i jX h;rw [h] at hk;exact adz hk.sh hN
    ·exact eR
  ·rename_i x y t t'
   cases hb:Nat.beq t t' with
   |false=>exact eR
   |true=>
    have:t=t':=by simpa using hb
    subst this
    refine XJ hE λek jX hf=>?_
    cases E.exact d with
    |true=>exact aod hf hN
    |false=>exact aoe hf hN
  ·exact apR hN
  ·exact apQ hN
  ·exact eR
 all_goals exact eR
end
end GL
namespace GL
def Q.map {α β:Type 1}(f:α->β):Q α->Q β
 |.ret a=>.ret (f a)
 |.ask r k=>.ask r λv=>(k v).map f
theorem Q.aep {α β:Type 1}(f:α->β) (τ:St):∀q:Q α,(q.map f).run τ=f (q.run τ)
 |.ret _=>rfl
 |.ask r k=>Q.aep f τ (k (τ r))
def brk (gs:List Nat):Rs->Rs
 |.go [(.s d,.o (.s (.q b)))]=>bif jo gs d then .br True b d else .go [(.s d,.o (.s (.q b)))]
 |.oJ p [(.s d,.o (.s (.q b)))]=>bif jo gs d then .br p b d else .oJ p [(.s d,.o (.s (.q b)))]
 |r=>r
def H2 (ops:Array Oper):List Oper->List Nat
 |[]=>[]
 |o::l=>match o.guard with
  |some (j,_)=>match ops[j]? with
   |some og=>match og.dst with
    |some g=>g::H2 ops l
    |none=>H2 ops l
   |none=>H2 ops l
  |none=>H2 ops l
def ac4 (N:Nat) (ops:Array Oper) (o:Oper) (q:Q Rs):Q Rs:=
 match o.guard with
 |none=>q
 |some (j,want)=>match ops[j]?,o.dst with
  |some og,some d=>match og.dst with
   |some g=>.ask (.s g) fun
    |some (.o (.s (.v (.bool b))))=>bif (bif want then b else !b) then q else (bif Nat.blt d N then .ret (.go [(.s d,.s (.v undef))]) else ov)
    |some (.o (.s (.v (.tuple _))))=>bif Nat.blt d N then .ret (.go [(.s d,.s (.v undef))]) else ov
    |_=>ov
   |none=>ov
  |_,_=>ov
def sem (E:Env):Sm:=λops o=>ac4 E.N ops o ((stp E o).map (brk (H2 ops ops.toList)))
section
variable {P:Program}{N:Nat}
def Rel.swap {c:Ctx}{τ:St}{a:Act}{w:World}{d:Nat}{b:Bool}(h:Rel N c (τ.ap [(.s d,.s (.q b))]) a w):Rel N c (τ.ap [(.s d,.s (.v (.bool b)))]) a w:=by
 obtain⟨T,β,hh⟩:=h
 have hb:∀i,(τ.ap [(.s d,.s (.v (.bool b)))]) (.b i)=(τ.ap [(.s d,.s (.q b))]) (.b i):=λi=>by rw [wN,wN,if_neg (by simp),if_neg (by simp)]
 have hl:∀i,live (τ.ap [(.s d,.s (.v (.bool b)))]) i->live (τ.ap [(.s d,.s (.q b))]) i:=λi hi=>by
  unfold live at hi ⊢
  rwa [hb] at hi
 refine⟨T,β,{ hh with
  jD:=λi av hi=>by
   rw [wN] at hi
   by_cases e:gx.s i= .s d
   ·rw [if_pos e] at hi
    cases hi
    exact hh.jD i (.s (.q b)) (by rw [wN,if_pos e])
   ·rw [if_neg e] at hi
    exact hh.jD i av (by rw [wN,if_neg e];exact hi)
  boxes:=λi av hi hz=>hh.boxes i av (by rwa [hb] at hi) hz
  apart:=λi hi=>hh.apart i (hl i hi)
  handed:=λi b' J6 hi=>hh.handed i b' J6 (hl i hi)
  inj:=λi j hi hj e=>hh.inj i j (hl i hi) (hl j hj) e
  named:=λr av hr i hi=>by
   rw [hb]
   rw [wN] at hr
   by_cases e:r= .s d
   ·rw [if_pos e] at hr;cases hr;simp [AV.boxes,A0.boxes,SV.boxes] at hi
   ·rw [if_neg e] at hr
    exact hh.named r av (by rw [wN,if_neg e];exact hr) i hi }⟩
def anW {o:Oper}{q:Q Rs}(gs:List Nat) (h:gl P N o q):gl P N o (q.map (brk gs)):=by
 intro c τ a w hr hp K Q' hK
 rw [Q.aep] at hp hK
 refine h c τ a w hr ?_ K Q' ?_
 ·unfold brk at hp
  split at hp
  ·rename_i heq;rw [heq];trivial
  ·rename_i p d b heq
   rw [heq]
   cases hm:jo gs d with
   |true=>rw [hm] at hp;exact hp
   |false=>rw [hm] at hp;exact hp
  ·exact hp
 ·intro u a' w' hu xj
  unfold brk at hK
  split at hK
  ·rename_i d b heq
   rw [heq] at hu
   cases hu
   cases hm:jo gs d with
   |true=>rw [hm] at hK;exact hK _ _ _ rfl xj.swap
   |false=>rw [hm] at hK;exact hK _ _ _ rfl xj
  ·rename_i p d b heq
   rw [heq] at hu
   cases hu
   cases hm:jo gs d with
   |true=>rw [hm] at hK;exact hK _ _ _ rfl xj.swap
   |false=>rw [hm] at hK;exact hK _ _ _ rfl xj
  ·exact hK _ _ _ hu xj
def ajD {ops:Array Oper}{o:Oper}{q:Q Rs}(h:gl P N o q):OpS P N ops o (ac4 N ops o q):=by
 intro c τ a w hr hp K Q' hK
 unfold ac4 at hp hK
 cases hg:o.guard with
 |none=>
  rw [hg] at hp hK
  have:Region.wanted o (yielded ops a.tmps)=true:=by simp [Region.wanted,hg]
  rw [if_pos this]
  exact h c τ a w hr hp K Q' hK
 |some jw=>
  obtain⟨j,want⟩:=jw
  rw [hg] at hp hK
  simp only at hp hK
  split at hp
  ·rename_i og d hj hd
   simp only [hj,hd] at hK
   split at hp
   ·rename_i g hgd
    simp only [hgd,Q.run] at hK
    simp only [Q.run] at hp
    split at hp
    ·rename_i b hb
     simp only [hb] at hK
     obtain⟨T,β,hh⟩:=hr
     obtain⟨v,hv,cB⟩:=hh.jD g _ hb
     have hv':v= .bool b:=cB
     subst hv'
     have hy:yielded ops a.tmps j=some b:=by simp [yielded,hj,hgd,hv]
     cases hw:(bif want then b else !b) with
     |true=>
      rw [hw] at hp hK
      have hbw:b=want:=by cases b<;>cases want<;>simp at hw ⊢
      have:Region.wanted o (yielded ops a.tmps)=true:=by simp [Region.wanted,hg,hy,hbw]
      rw [if_pos this]
      exact h c τ a w ⟨T,β,hh⟩ hp K Q' hK
     |false=>
      rw [hw] at hp hK
      have hbw:b≠want:=by cases b<;>cases want<;>simp at hw ⊢
      have:¬Region.wanted o (yielded ops a.tmps)=true:=by simp [Region.wanted,hg,hy,hbw]
      rw [if_neg this]
      simp only [cond_false] at hp hK
      cases hN:Nat.blt d N with
      |false=>rw [hN] at hp;exact hp.elim
      |true=>
       rw [hN] at hK
       rw [hd]
       exact hK _ _ _ rfl ⟨T,β,hh.put (nE.1 hN) (av:=.s (.v undef)) rfl (by simp [AV.boxes,A0.boxes,SV.boxes])⟩
    ·rename_i x hb
     simp only [hb] at hK
     obtain⟨T,β,hh⟩:=hr
     obtain⟨v,hv,cB⟩:=hh.jD g _ hb
     have hv':v= .tuple x:=cB
     subst hv'
     have hy:yielded ops a.tmps j=none:=by simp [yielded,hj,hgd,hv]
     have:¬Region.wanted o (yielded ops a.tmps)=true:=by simp [Region.wanted,hg,hy]
     rw [if_neg this]
     cases hN:Nat.blt d N with
     |false=>rw [hN] at hp;exact hp.elim
     |true=>
      rw [hN] at hK
      rw [hd]
      exact hK _ _ _ rfl ⟨T,β,hh.put (nE.1 hN) (av:=.s (.v undef)) rfl (by simp [AV.boxes,A0.boxes,SV.boxes])⟩
    ·exact hp.elim
   ·exact hp.elim
  ·exact hp.elim
def xz {E:Env}(hE:FM P E):adF P E.N (sem E):=λops _ o _=>ajD (anW (H2 ops ops.toList) (amX hE o))
def Env.sh (E:Env) (t:TypeId):Option (Bool×Nat):=match E.tab t with
 |some i=>some (i.agg,i.size)
 |none=>none
def Env.RI {E:Env}(hE:FM P E):∀t x,E.sh t=some x->Sh P t=some x:=λt x h=>by
 unfold Env.sh at h
 split at h
 ·rename_i i hi;cases h;exact (hE.tab t i hi).sh
 ·cases h
def AR.of {E:Env}(hE:FM P E) (hm:P.follows .mixedOrders=true) {f:FuncId}{fn:Func}{cd:Code}{C:cu}(hf:P.funcs[f]?=some fn) (hb:fn.body=some cd) (hN:fn.ntmps=E.N) (hlen:C.A.length<=E.N)
  (h:∀x y,C.pre x y->vc P E.N (sem E) cd (entry (APs.avs C.A x) (APs.avs C.B y)) (endQ E.sh fn.results.toList C.B.length C.mv (λr os=>∃z,C.φ x y z/\r=C.r x y z/\os=C.o x y z/\os.length=C.B.length+C.nf))):AR P f C:=by
 intro x y hp
 refine TC.D3 hm (xz hE) (Env.RI hE) hf hb hN (by rw [APs.jA];exact hlen) ?_
 rw [APs.jA]
 exact h x y hp
def amo {E:Env}(hE:FM P E) (hm:P.follows .mixedOrders=true) {τ:St}{Q':va}{cd:Code}{ι:Type}(cm:List gx) (J:ι->FJ) (φ:ι->Prop) (μ:ι->Nat) (x0:ι) (sg0:List (Nat×Nat)) (h0:φ x0) (hs:JX sg0 τ τ cm (J x0))
  (wj:∀x,φ x->vc P E.N (sem E) cd ((qm τ cm).ap (J x)) (IW (λτ'=>∃y sg,φ y/\μ y < μ x/\JX sg τ τ' cm (J y)) Q')):TW P E.N (.loop cd) τ Q':=
 TW.aoL hm (xz hE) cm J φ μ x0 sg0 h0 hs wj
