/- A drawn law returns true for every code (its row lists package variables, tied by the card): part 7. -/
import Derived.Test.YtkgpljpmdkflmaaGreatDoorPaf
set_option maxHeartbeats 20000000
set_option maxRecDepth 100000
set_option linter.all false
namespace Go.Proofs.YtkgpljpmdkflmaaGreatDoor
namespace GL
section
variable {P:Program}{N:Nat}{τ:St}
variable {d:Nat}{x y z:Operand}{t u ty:TypeId}{pos:String}{af:Array Edge}{g:Option (Nat×Bool)}
def qI (x:Option Operand) (k:Option Int→Q Rs):Q Rs:=
 match x with
 |none=>k none
 |some x=>bZ x fun
  |.o (.s (.v (.int .i64 n)))=>k (some n)
  |_=>.ret .no
def evI (τ:St):Option Operand→Option (Option Int)
 |none=>some none
 |some x=>match ev τ x with
  |some (.o (.s (.v (.int .i64 n))))=>some (some n)
  |_=>none
theorem wi (τ:St) (x:Option Operand) (k:Option Int→Q Rs):(qI x k).run τ=match evI τ x with
  |some v=>(k v).run τ
  |none=>.no:=by
 cases x with
 |none=>rfl
 |some x=>
  simp only [qI,da,evI]
  cases h:ev τ x with
  |none=>rfl
  |some v=>
   simp only
   split
   ·rfl
   ·rename_i fB
    split
    ·rename_i hv
     split at hv
     ·rename_i hv'
      cases hv'
      exact absurd rfl (fB _)
     ·cases hv
    ·rfl
theorem z7 {c:Ctx}{T:bb}{β:Nat→Nat}{a:Act}{w:World}(h:Holds N c T β τ a w) {x:Option Operand}{n:Option Int}(hx:evI τ x=some n):x.map a.eval=n.map (Value.int .i64):=by
 cases x with
 |none=>simp only [evI] at hx;cases hx;rfl
 |some x=>
  simp only [evI] at hx
  split at hx
  ·rename_i m hm
   cases hx
   have e:a.eval x= .int .i64 m:=eQ h hm
   simp [e]
  ·cases hx
def XY (strs:Bool) (sz:Nat) (x:AV) (l h:Option Int):V1:=
 match x with
 |.o (.s (.v (.string s)))=>match strs with
  |true=>.nc (0≤l.getD 0∧l.getD 0≤h.getD s.size∧h.getD s.size≤s.size) (.str (s.extract (l.getD 0).toNat (h.getD s.size).toNat))
  |false=>.no
 |.o (.s (.sl ek n))=>match strs with
  |false=>bif Nat.beq ek.length sz then .nc (0≤l.getD 0∧l.getD 0≤h.getD n∧h.getD n≤n) (.s (.sl ek ((h.getD n).toNat-(l.getD 0).toNat))) else .no
  |true=>.no
 |.o (.s (.vw ek v))=>match strs with
  |false=>bif Nat.beq ek.length sz then .nc (0≤l.getD 0∧l.getD 0≤h.getD v.length∧h.getD v.length≤v.length) (.s (.vw ek ((v.drop (l.getD 0).toNat).take ((h.getD v.length).toNat-(l.getD 0).toNat)))) else .no
  |true=>.no
 |.o (.s (.vz ek v))=>match strs with
  |false=>bif Nat.beq ek.length sz then .nc (0≤l.getD 0∧l.getD 0≤h.getD v.length∧h.getD v.length≤v.length) (.s (.vz ek ((v.drop (l.getD 0).toNat).take ((h.getD v.length).toNat-(l.getD 0).toNat)))) else .no
  |true=>.no
 |.o (.s (.xs i sz' o m))=>match strs with
  |false=>bif Nat.beq sz' sz then .nc (0≤l.getD 0∧l.getD 0≤h.getD m∧h.getD m≤m) (.s (.xs i sz' (o+(l.getD 0).toNat) ((h.getD m).toNat-(l.getD 0).toNat))) else .no
  |true=>.no
 |_=>.no
theorem xU (isS:Bool) (len cap:Nat) (l h:Option Int) (zd:0≤l.getD 0) (hlh:l.getD 0≤h.getD len) (hh:h.getD len≤cap) (w:World):
  (Instr.sliceBounds isS len cap (l.map (Value.int .i64)) (h.map (Value.int .i64)) none).run P w= .ok ((l.getD 0).toNat,(h.getD len).toNat,cap) w:=by
 have hb:∀(i:Int) (y:Nat) (code:BoundsCode),0≤i→i≤y→(Instr.sliceBound (.int .i64 i) y code).run P w= .ok i.toNat w:=fun i y code h0 h1=>run_sliceBound (P:=P) (w:=w) .i64 i y code h0 h1
 cases h with
 |none=>
  cases l with
  |none=>simp [Instr.sliceBounds]
  |some l=>
   simp only [ZA2,ZA3] at zd hlh hh
   simp [Instr.sliceBounds,hb l len .sliceB zd (by omega)]
 |some h=>
  simp only [ZA2] at hlh hh
  have h1:(Instr.sliceBound (.int .i64 h) cap (if isS=true then BoundsCode.sliceAcap else BoundsCode.sliceAlen)).run P w= .ok h.toNat w:=hb h cap _ (by omega) hh
  cases l with
  |none=>simp [Instr.sliceBounds,h1]
  |some l=>
   simp only [ZA2] at zd hlh
   have h2:(Instr.sliceBound (.int .i64 l) h.toNat BoundsCode.sliceB).run P w= .ok l.toNat w:=hb l h.toNat _ zd (by omega)
   simp [Instr.sliceBounds,h1,h2]
theorem fw.cut {o:Oper}{l h:Option Operand}{f:AV→Option Int→Option Int→V1}(ho:o.dst=some d) (hd:d<N)
  (hs:∀c T β τ a w,Holds N c T β τ a w→∀v l' h',v.rel T β (a.eval x)→l.map a.eval=l'.map (Value.int .i64)→h.map a.eval=h'.map (Value.int .i64)→∀r,(f v l' h').vI r→(∀i∈r.boxes,i∈v.boxes)∧∃val,(execOp a.eval o).run P w= .ok (.value val) w∧r.rel T β val):
  fw P N o (bZ x fun v=>qI l fun l'=>qI h fun h'=>.ret ((f v l' h').rs d)):=by
 intro c τ a w hr hp K Q' hK
 obtain⟨T,β,hh⟩:=hr
 rw [da] at hp hK
 cases hx:ev τ x with
 |none=>rw [hx] at hp;exact hp.elim
 |some v=>
  rw [hx] at hp hK
  simp only [wi] at hp hK
  cases hl:evI τ l with
  |none=>rw [hl] at hp;exact hp.elim
  |some l'=>
   rw [hl] at hp hK
   simp only [wi] at hp hK
   cases hh':evI τ h with
   |none=>rw [hh'] at hp;exact hp.elim
   |some h'=>
    rw [hh'] at hp hK
    refine V1.put hh hd hp ho (fun r hr=>?_) hK
    obtain⟨h1,h2⟩:=hs c T β τ a w hh v l' h' (eQ hh hx) (z7 hh hl) (z7 hh hh') r hr
    exact⟨fun i hi=>hZ hh hx i (h1 i hi),h2⟩
theorem ah8 {l h:Option Operand}(ht:P.underlying t=some .string) (hd:d<N):fw P N ⟨some d,.slice t x l h none,ty,pos,af,g⟩ (bZ x fun v=>qI l fun l'=>qI h fun h'=>.ret ((XY true 0 v l' h').rs d)):=
 fw.cut rfl hd fun c T β τ a w hh v l' h' hv e2 e3 r hr=>by
  unfold XY at hr
  split at hr
  ·rename_i s
   obtain⟨⟨h0,h1,h2⟩,rfl⟩:=hr
   have e1:a.eval x= .string s:=hv
   refine⟨nob _ _,.string (s.extract (l'.getD 0).toNat (h'.getD s.size).toNat),?_,rfl⟩
   have hbd:=xU (P:=P) false s.size s.size l' h' h0 h1 h2 w
   simp [execOp,e1,e2,e3,Instr.sliceAt,Instr.slice,run_underlying ht,hbd]
  all_goals exact hr.elim
theorem E5 {e:TypeId}{sz:Nat}(he:P.underlying t=some (.slice e)) (dj:∀w,(sizeOf e).run P w= .ok sz w) {b o len cap:Nat}{l h:Option Int}(h0:0≤l.getD 0) (h1:l.getD 0≤h.getD len) (h2:h.getD len≤len) (hc:len≤cap) (w:World):
  (Instr.slice t (.slice (some ⟨b,o,none⟩) len cap) (l.map (Value.int .i64)) (h.map (Value.int .i64)) none).run P w=
   .ok (.slice (some ⟨b,if cap=(l.getD 0).toNat then o else o+(l.getD 0).toNat*sz,none⟩) ((h.getD len).toNat-(l.getD 0).toNat) (cap-(l.getD 0).toNat)) w:=by
 have hbd:=xU (P:=P) true len cap l h h0 h1 (by omega) w
 by_cases EX:cap=(l.getD 0).toNat
 ·simp [Instr.slice,run_underlying he,hbd,dj,←EX]
 ·simp [Instr.slice,run_underlying he,hbd,dj,EX,ga]
theorem zn {e:TypeId}{sz:Nat}(he:P.underlying t=some (.slice e)) (dj:∀w,(sizeOf e).run P w= .ok sz w) {p:Option Addr}{cap:Nat}{l h:Option Int}(h0:0≤l.getD 0) (h1:l.getD 0≤h.getD ((0:Nat):Int)) (h2:h.getD ((0:Nat):Int)≤((0:Nat):Int)) (w:World):
  ∃p',(Instr.slice t (.slice p 0 cap) (l.map (Value.int .i64)) (h.map (Value.int .i64)) none).run P w= .ok (.slice p' 0 cap) w:=by
 have hbd:=xU (P:=P) true 0 cap l h h0 h1 (by omega) w
 have hz1:(l.getD 0).toNat=0:=by omega
 have hz2:(h.getD ((0:Nat):Int)).toNat=0:=by omega
 simp only [Int.ofNat_zero] at hbd hz2
 exact⟨if cap=0 then p else p.map (·.add 0),by simp [Instr.slice,run_underlying he,hbd,dj,hz1,hz2]⟩
theorem wx {cs:Array Value}{o:Nat}{ek:EK}{l:List (EK.Ty ek)}(h:win cs o (flat ek l)) (a b:Nat):win cs (o+a*ek.length) (flat ek ((l.drop a).take b)):=by
 intro j v hj
 have h1:(flat ek ((l.drop a).take b))[j]?=((flat ek l).drop (a*ek.length))[j]?:=by
  rw [pn,←na,List.getElem?_take]
  split
  ·rfl
  ·rename_i bV
   exfalso
   have:=(ZB9.1 hj).1
   rw [←na,ZC0] at this
   omega
 rw [h1,List.getElem?_drop] at hj
 rw [ZF7]
 exact h _ _ hj
theorem afi {sz:Nat}{l h:Option Operand}(ht:rO P t=some sz) (hd:d<N):fw P N ⟨some d,.slice t x l h none,ty,pos,af,g⟩ (bZ x fun v=>qI l fun l'=>qI h fun h'=>.ret ((XY false sz v l' h').rs d)):=
 fw.cut rfl hd fun c T β τ a w hh v l' h' hv e2 e3 r hr=>by
  obtain⟨e,he,dj⟩:=tW ht
  have fin:∀{v1 v2:Value},a.eval x=v1→(Instr.slice t v1 (l'.map (Value.int .i64)) (h'.map (Value.int .i64)) none).run P w= .ok v2 w→(v1 matches .slice _ _ _)=true→(execOp a.eval ⟨some d,.slice t x l h none,ty,pos,af,g⟩).run P w= .ok (.value v2) w:=by
   intro v1 v2 e1 fl hm
   cases v1<;>first|cases hm|skip
   simp [execOp,e1,e2,e3,Instr.sliceAt,run_underlying he,fl]
  unfold XY at hr
  split at hr
  ·exact hr.elim
  ·rename_i ek n
   cases hb:Nat.beq ek.length sz with
   |false=>rw [hb] at hr;exact hr.elim
   |true=>
    rw [hb] at hr
    obtain⟨⟨h0,h1,h2⟩,rfl⟩:=hr
    have hs:ek.length=sz:=by simpa using hb
    refine⟨fun k hk=>by simp [AV.boxes,A0.boxes,SV.boxes] at hk,?_⟩
    rcases hv with ⟨hl,p,e1⟩ |⟨b,o,cap,m,e1,hlc,hT,hle⟩
    ·subst hl
     obtain⟨p',fl⟩:=zn (P:=P) he dj (p:=p) (cap:=0) h0 h1 h2 w
     exact⟨_,fin e1 fl rfl,.inl ⟨by omega,p',rfl⟩⟩
    ·have fl:=E5 (P:=P) he dj (b:=b) (o:=o*ek.length) (len:=n) (cap:=cap) h0 h1 h2 hlc w
     refine⟨_,fin e1 fl rfl,?_⟩
     by_cases hc:cap=(l'.getD 0).toNat
     ·refine .inl ⟨by omega,some ⟨b,o*ek.length,none⟩,?_⟩
      rw [if_pos hc]
      congr 1<;>omega
     ·refine .inr ⟨b,o+(l'.getD 0).toNat,cap-(l'.getD 0).toNat,m,?_,by omega,hT,by omega⟩
      rw [if_neg hc,ZE3,hs]
  ·rename_i ek vs
   cases hb:Nat.beq ek.length sz with
   |false=>rw [hb] at hr;exact hr.elim
   |true=>
    rw [hb] at hr
    obtain⟨⟨h0,h1,h2⟩,rfl⟩:=hr
    have hs:ek.length=sz:=by simpa using hb
    refine⟨fun k hk=>by simp [AV.boxes,A0.boxes,SV.boxes] at hk,?_⟩
    rcases hv with ⟨hl,p,cap,e1⟩ |⟨b,o,cap,cs,te,fr,e1,hlc,hT,hw⟩
    ·subst hl
     obtain⟨p',fl⟩:=zn (P:=P) he dj (p:=p) (cap:=cap) h0 h1 h2 w
     exact⟨_,fin e1 fl rfl,.inl ⟨by simp,p',cap,rfl⟩⟩
    ·have fl:=E5 (P:=P) he dj (b:=b) (o:=o) (len:=vs.length) (cap:=cap) h0 h1 h2 hlc w
     refine⟨_,fin e1 fl rfl,?_⟩
     have hlen:((vs.drop (l'.getD 0).toNat).take ((h'.getD (vs.length:Int)).toNat-(l'.getD 0).toNat)).length=(h'.getD (vs.length:Int)).toNat-(l'.getD 0).toNat:=by
      rw [ZC0,ZD0];omega
     by_cases hc:cap=(l'.getD 0).toNat
     ·refine .inl ⟨?_,some ⟨b,o,none⟩,cap-(l'.getD 0).toNat,?_⟩
      ·rw [←ZD4,hlen];omega
      ·rw [if_pos hc];congr 1;omega
     ·refine .inr ⟨b,o+(l'.getD 0).toNat*ek.length,cap-(l'.getD 0).toNat,cs,te,fr,?_,by omega,hT,wx hw _ _⟩
      rw [if_neg hc,hlen,hs]
  ·rename_i ek vs
   cases hb:Nat.beq ek.length sz with
   |false=>rw [hb] at hr;exact hr.elim
   |true=>
    rw [hb] at hr
    obtain⟨⟨h0,h1,h2⟩,rfl⟩:=hr
    have hs:ek.length=sz:=by simpa using hb
    refine⟨fun k hk=>by simp [AV.boxes,A0.boxes,SV.boxes] at hk,?_⟩
    rcases hv with ⟨hl,p,cap,e1⟩ |⟨b,o,cap,cs,e1,hlc,hT,hw⟩
    ·subst hl
     obtain⟨p',fl⟩:=zn (P:=P) he dj (p:=p) (cap:=cap) h0 h1 h2 w
     exact⟨_,fin e1 fl rfl,.inl ⟨by simp,p',cap,rfl⟩⟩
    ·have fl:=E5 (P:=P) he dj (b:=b) (o:=o) (len:=vs.length) (cap:=cap) h0 h1 h2 hlc w
     refine⟨_,fin e1 fl rfl,?_⟩
     have hlen:((vs.drop (l'.getD 0).toNat).take ((h'.getD (vs.length:Int)).toNat-(l'.getD 0).toNat)).length=(h'.getD (vs.length:Int)).toNat-(l'.getD 0).toNat:=by
      rw [ZC0,ZD0];omega
     by_cases hc:cap=(l'.getD 0).toNat
     ·refine .inl ⟨?_,some ⟨b,o,none⟩,cap-(l'.getD 0).toNat,?_⟩
      ·rw [←ZD4,hlen];omega
      ·rw [if_pos hc];congr 1;omega
     ·refine .inr ⟨b,o+(l'.getD 0).toNat*ek.length,cap-(l'.getD 0).toNat,cs,?_,by omega,hT,wx hw _ _⟩
      rw [if_neg hc,hlen,hs]
  ·rename_i i sz' o m
   cases hb:Nat.beq sz' sz with
   |false=>rw [hb] at hr;exact hr.elim
   |true=>
    rw [hb] at hr
    obtain⟨⟨h0,h1,h2⟩,rfl⟩:=hr
    have hs:sz'=sz:=by simpa using hb
    refine⟨fun k hk=>hk,?_⟩
    rcases hv with ⟨hl,p,e1⟩ |⟨cap,n,e1,hlc,hT,hle⟩
    ·subst hl
     obtain⟨p',fl⟩:=zn (P:=P) he dj (p:=p) (cap:=0) h0 h1 h2 w
     exact⟨_,fin e1 fl rfl,.inl ⟨by omega,p',rfl⟩⟩
    ·have fl:=E5 (P:=P) he dj (b:=β i) (o:=o*sz') (len:=m) (cap:=cap) h0 h1 h2 hlc w
     refine⟨_,fin e1 fl rfl,?_⟩
     by_cases hc:cap=(l'.getD 0).toNat
     ·refine .inl ⟨by omega,some ⟨β i,o*sz',none⟩,?_⟩
      rw [if_pos hc]
      congr 1<;>omega
     ·refine .inr ⟨cap-(l'.getD 0).toNat,n,?_,by omega,hT,?_⟩
      ·rw [if_neg hc,ZE3,hs]
      ·have:o+(l'.getD 0).toNat+(cap-(l'.getD 0).toNat)=o+cap:=by omega
       rw [this];exact hle
  ·exact hr.elim
end
end GL
namespace GL
section
variable {P:Program}{N:Nat}{τ:St}
variable {d:Nat}{x y z:Operand}{t u ty:TypeId}{pos:String}{af:Array Edge}{g:Option (Nat×Bool)}
def sU (i:Nat) (k:AV→Q Rs):Q Rs:=.ask (.b i) fun
 |some v=>k v
 |none=>.ret .no
def adz (agg:Bool) (n d:Nat) (v:AV):Q Rs:=
 match v with
 |.o (.s (.bp i o))=>sU i fun
  |.o (.a l)=>match agg with
   |true=>.ret (bif Nat.ble (o+n) l.length then .go [(.s d,.a ((l.drop o).take n))] else .no)
   |false=>match l[o]? with
    |some y=>.ret (.go [(.s d,.s y)])
    |none=>.ret .no
  |_=>.ret .no
 |.o (.s (.xp i sz k j))=>sU i fun
  |.rs ek l=>bif Nat.beq ek.length sz then (match agg with
   |true=>.ret (bif Nat.ble (j+n) sz then .nc (k<l.length) [(.s d,.a (((EK.AX ek (nth ek l k)).drop j).take n))] else .no)
   |false=>match (EK.AX ek (nth ek l k))[j]? with
    |some y=>.ret (.nc (k<l.length) [(.s d,.s y)])
    |none=>.ret .no) else .ret .no
  |.o (.a l)=>bif Nat.beq sz 1&&Nat.beq j 0 then (match agg with
   |true=>.ret .no
   |false=>match l[k]? with
    |some y=>.ret (.go [(.s d,.s y)])
    |none=>.ret .no) else .ret .no
  |_=>.ret .no
 |.o (.s (.ep ek j))=>match agg with
  |true=>.ret (bif Nat.ble (j+n) ek.length then .ex True (EK.Ty ek) (EK.ok ek) [(.s d,fun x=>.a (((EK.AX ek x).drop j).take n))] else .no)
  |false=>match ek[j]? with
   |some c=>.ret (.ex True c.Ty c.ok [(.s d,fun x=>.s (c.sv x))])
   |none=>.ret .no
 |.o (.s (.vp ek x j))=>match agg with
  |true=>.ret (bif Nat.ble (j+n) ek.length then .go [(.s d,.a (((EK.AX ek x).drop j).take n))] else .no)
  |false=>match (EK.AX ek x)[j]? with
   |some y=>.ret (.go [(.s d,.s y)])
   |none=>.ret .no
 |.o (.s (.vs l j))=>match agg with
  |true=>.ret (bif Nat.ble (j+n) l.length then .go [(.s d,.a (cvs ((l.drop j).take n)))] else .no)
  |false=>match l[j]? with
   |some y=>.ret (.go [(.s d,.s y.sv)])
   |none=>.ret .no
 |_=>.ret .no
theorem run_load {agg:Bool}{n:Nat}(hS:Sh P t=some (agg,n)) {w:World}{b o:Nat}{cs:Array Value}{e:TypeId}{fr:Nat×Nat}(hb:w.heap[b]?=some (.cells cs e fr)) {ρ:Operand→Value}(hx:ρ x= .pointer (some ⟨b,o,none⟩)) {dst:Option Nat}:
  (agg=true→∀vs:List Value,vs.length=n→win cs o vs→(execOp ρ ⟨dst,.load t x,ty,pos,af,g⟩).run P w= .ok (.value (.agg vs.toArray)) w)∧
  (agg=false→∀v,cs[o]?=some v→(execOp ρ ⟨dst,.load t x,ty,pos,af,g⟩).run P w= .ok (.value v) w):=by
 refine⟨fun h vs hl hw=>?_,fun h v hv=>?_⟩
 ·subst h
  have:=uv (P:=P) hS (w:=w) (a:=⟨b,o,none⟩) (cs:=vs) hl (fun j v hj=>by rw [ga,ry hb];exact hw j v hj)
  simp [execOp,hx,Instr.loadAt,Instr.sureAddr,this]
 ·subst h
  have:=uu (P:=P) hS (w:=w) (a:=⟨b,o,none⟩) (v:=v) (by rw [ry hb];exact hv)
  simp [execOp,hx,Instr.loadAt,Instr.sureAddr,this]
theorem aiG {T:bb}{β:Nat→Nat}{l:List SV}{cs:List Value}(h:dO T β l cs) {i:Nat}{v:Value}(hv:cs[i]?=some v):∃x,l[i]?=some x∧x.rel T β v:=by
 have hl:=jl h
 have hi:i<l.length:=by rw [hl];exact (ZB9.1 hv).1
 obtain⟨v',hv',hr⟩:=qX h (ZB1 hi)
 rw [hv] at hv';cases hv'
 exact⟨_,ZB1 hi,hr⟩
theorem fw.value {c:Ctx}{T:bb}{β:Nat→Nat}{a:Act}{w:World}{o:Oper}(hh:Holds N c T β τ a w) (ho:o.dst=some d) (hd:d<N) {av:AV}{v:Value}(hex:(execOp a.eval o).run P w= .ok (.value v) w) (c7:av.rel T β v) (hnm:∀i∈av.boxes,τ (.b i)≠none)
  {K:Act→World→Prop} {Q':Exit→Act→World→Prop} (hK:∀a',Rel N c (τ.ap [(.s d,av)]) a' w→K a' w):o.wp P a w K Q':=by
 unfold Oper.wp
 rw [hex]
 show K (a.put o.dst v) w
 rw [ho]
 exact hK _ ⟨T,β,hh.put hd c7 hnm⟩
theorem GB {T:bb}{β:Nat→Nat}(ek:EK) (x:EK.Ty ek) (j n:Nat):dO T β (((EK.AX ek x).drop j).take n) (((EK.cells ek x).drop j).take n):=wC n (wD j (EK.E3 ek x))
theorem FZ {cs:Array Value}{o:Nat}{l:List Value}(h:win cs o l) (j n:Nat):win cs (o+j) ((l.drop j).take n):=by
 intro k v hk
 rw [List.getElem?_take] at hk
 split at hk
 ·rw [List.getElem?_drop] at hk
  rw [ZF7];exact h _ _ hk
 ·cases hk
theorem FX {cs:Array Value}{l:List Value}{o:Nat}(h:(cs.toList.drop o).take l.length=l):win cs o l:=by
 intro j v hj
 have bV:=(ZB9.1 hj).1
 rw [←h,List.getElem?_take,if_pos bV,List.getElem?_drop] at hj
 simpa using hj
theorem ahs {ek:EK}{x:EK.Ty ek}{j n i:Nat}(h:i∈cf (((EK.AX ek x).drop j).take n)):False:=by
 have:=nq h
 rw [EK.A9] at this
 cases this
theorem aiS {ek:EK}{x:EK.Ty ek}{j i:Nat}{y:SV}(hy:(EK.AX ek x)[j]?=some y) (h:i∈y.boxes):False:=by
 have:i∈cf (EK.AX ek x):=gK.2 ⟨y,ZB6 hy,h⟩
 rw [EK.A9] at this
 cases this
theorem UN {cs:Array Value}{ek:EK}{l z:List (EK.Ty ek)}(h:cs.toList=flat ek (l++z)):win cs 0 (flat ek l):=by
 intro j v hj
 rw [ZA6]
 have h2:cs.toList[j]?=some v:=by
  rw [h,gE]
  exact ZC2 (ZB9.1 hj).1 ▸ hj
 simpa using h2
theorem FY {cs:Array Value}{ek:EK}{n:Nat}{l:List (EK.Ty ek)}(h:ags ek n l cs):win cs 0 (flat ek l):=UN (z:=[]) (by simpa using h.2.2)
theorem ae4 (ek:EK):∀(x:EK.Ty ek) (j:Nat) (c:CP),ek[j]?=some c→∃v:c.Ty,(EK.cells ek x)[j]?=some (c.val v)∧(EK.ok ek x→c.ok v):=by
 induction ek with
 |nil=>intro x j c h;simp at h
 |cons c0 l ih=>
  intro x j c h
  cases l with
  |nil=>
   cases j with
   |zero=>simp at h;subst h;exact⟨x,rfl,fun h=>h⟩
   |succ j=>simp at h
  |cons c1 l=>
   cases j with
   |zero=>simp at h;subst h;exact⟨x.1,rfl,fun h=>h.1⟩
   |succ j=>
    obtain⟨v,h1,h2⟩:=ih x.2 j c (by simpa using h)
    exact⟨v,by simpa [EK.cells] using h1,fun h=>h2 h.2⟩
theorem aan:∀l:List CV,(cvs l).length=l.length
 |[]=>rfl
 |_::l=>by simp [cvs,aan l]
theorem LL {T:bb}:∀{l:List CV}{cs:List Value}(n:Nat),xo T l cs→xo T (l.take n) (cs.take n)
 |_,_,0,_=>by simp [xo]
 |[],[],_,_=>by simp [xo]
 |_::_,[],_,h=>h.elim
 |[],_::_,_,h=>h.elim
 |_::l,_::cs,n+1,h=>⟨h.1,LL n h.2⟩
theorem LM {T:bb}:∀{l:List CV}{cs:List Value}(n:Nat),xo T l cs→xo T (l.drop n) (cs.drop n)
 |_,_,0,h=>by simpa using h
 |[],[],_,_=>by simp [xo]
 |_::_,[],_,h=>h.elim
 |[],_::_,_,h=>h.elim
 |_::l,_::cs,n+1,h=>by simpa using LM n h.2
theorem YX {T:bb}:∀{l:List CV}{cs:List Value},xo T l cs→∀{i:Nat}{x:CV},l[i]?=some x→∃v,cs[i]?=some v∧x.rel T v
 |[],[],_,i,x,hx=>by simp at hx
 |_::_,[],h,_,_,_=>h.elim
 |[],_::_,h,_,_,_=>h.elim
 |y::l,v::cs,h,i,x,hx=>by
  cases i with
  |zero=>simp at hx;subst hx;exact⟨v,by simp,h.1⟩
  |succ i=>simpa using YX h.2 (by simpa using hx)
theorem agC {x:CV}{i:Nat}(h:i∈x.sv.boxes):False:=by cases x<;>simp [CV.sv,SV.boxes] at h
theorem aiT {i:Nat}:∀{l:List CV},i∈cf (cvs l)→False
 |[],h=>by simp [cvs,cf] at h
 |x::l,h=>by
  simp only [cvs,cf,ZB4] at h
  rcases h with h |h
  ·exact agC h
  ·exact aiT h
theorem ah6 {agg:Bool}{n:Nat}(hS:Sh P t=some (agg,n)) (hd:d<N):fw P N ⟨some d,.load t x,ty,pos,af,g⟩ (bZ x fun v=>adz agg n d v):=by
 intro c τ a w hr hp K Q' hK
 obtain⟨T,β,hh⟩:=hr
 rw [da] at hp hK
 cases hx:ev τ x with
 |none=>rw [hx] at hp;exact hp.elim
 |some v=>
  rw [hx] at hp hK
  have hv:=eQ hh hx
  simp only at hp hK
  unfold adz at hp hK
  split at hp
  ·rename_i i o
   simp only [sU,Q.run] at hp hK
   have e:a.eval x= .pointer (some ⟨β i,o,none⟩):=hv
   cases hb:τ (.b i) with
   |none=>rw [hb] at hp;exact hp.elim
   |some av=>
    rw [hb] at hp hK
    simp only at hp hK
    split at hp
    ·rename_i l
     obtain⟨cs,te,hc,c7⟩:=hh.boxes i _ hb (by intro e;cases e)
     have vF:dO T β l cs.toList:=c7
     have hlen:=jl vF
     have hld:=run_load (x:=x) (ty:=ty) (pos:=pos) (af:=af) (g:=g) hS hc e (dst:=some d)
     cases agg with
     |true=>
      simp only [Q.run] at hp hK
      cases qs:Nat.ble (o+n) l.length with
      |false=>rw [qs] at hp;exact hp.elim
      |true=>
       rw [qs] at hp hK
       have hle:=zqNlb qs
       refine fw.value (av:=.a ((l.drop o).take n)) hh rfl hd (hld.1 rfl ((cs.toList.drop o).take n) (by rw [ZC0,ZD0];omega) (FX (by rw [ZC0,ZD0];congr 1;omega))) ⟨_,rfl,wC n (wD o vF)⟩ (fun k hk=>hh.named (.b i) _ hb k (nq hk)) (fun a' h=>hK _ _ _ rfl h)
     |false=>
      simp only at hp hK
      split at hp
      ·rename_i y hy
       simp only [hy] at hK
       obtain⟨v,hv',uN⟩:=qX vF hy
       exact fw.value (av:=.s y) hh rfl hd (hld.2 rfl v (by simpa using hv')) uN (fun k hk=>hh.named (.b i) _ hb k (gK.2 ⟨y,ZB6 hy,hk⟩)) (fun a' h=>hK _ _ _ rfl h)
      ·exact hp.elim
    ·exact hp.elim
  ·rename_i i sz k j
   simp only [sU,Q.run] at hp hK
   obtain⟨e,hj⟩:=hv
   cases hb:τ (.b i) with
   |none=>rw [hb] at hp;exact hp.elim
   |some av=>
    rw [hb] at hp hK
    simp only at hp hK
    split at hp
    ·rename_i ek l
     obtain⟨cs,te,hc,fB,zz,mw,hz⟩:=hh.boxes i _ hb (by intro e;cases e)
     have hld:=run_load (x:=x) (ty:=ty) (pos:=pos) (af:=af) (g:=g) hS hc e (dst:=some d)
     simp only at hK
     cases hq:Nat.beq ek.length sz with
     |false=>rw [hq] at hp;exact hp.elim
     |true=>
      rw [hq] at hp hK
      have dj:ek.length=sz:=by simpa using hq
      subst dj
      have hw:∀hk:k<l.length,win cs (k*ek.length) (EK.cells ek (nth ek l k)):=fun hk=>by
       have:=E2 (UN mw) hk
       rwa [ZA6] at this
      cases agg with
      |true=>
       simp only [cond_true,Q.run] at hp hK
       cases qs:Nat.ble (j+n) ek.length with
       |false=>rw [qs] at hp;exact hp.elim
       |true=>
        rw [qs] at hp hK
        have hle:=zqNlb qs
        have hk:k<l.length:=hp
        refine fw.value (av:=.a (((EK.AX ek (nth ek l k)).drop j).take n)) hh rfl hd (hld.1 rfl (((EK.cells ek (nth ek l k)).drop j).take n) (by rw [ZC0,ZD0,EK.bL];omega) (FZ (hw hk) j n)) ⟨_,rfl,GB _ _ j n⟩ (fun k hk=>(ahs hk).elim) (fun a' h=>hK _ _ _ rfl h)
      |false=>
       simp only [cond_true] at hp hK
       split at hp
       ·rename_i y hy
        simp only [hy] at hK
        have hk:k<l.length:=hp
        obtain⟨v,hv',uN⟩:=qX (EK.E3 (T:=T) (β:=β) ek (nth ek l k)) hy
        exact fw.value (av:=.s y) hh rfl hd (hld.2 rfl v (hw hk j v hv')) uN (fun k hk=>(aiS hy hk).elim) (fun a' h=>hK _ _ _ rfl h)
       ·exact hp.elim
    ·rename_i l
     obtain⟨cs,te,hc,c7⟩:=hh.boxes i _ hb (by intro e;cases e)
     have vF:dO T β l cs.toList:=c7
     simp only at hK
     cases hq:Nat.beq sz 1&&Nat.beq j 0 with
     |false=>rw [hq] at hp;exact hp.elim
     |true=>
      rw [hq] at hp hK
      simp only [ZA9,Nat.beq_eq] at hq
      obtain⟨rfl,rfl⟩:=hq
      have hld:=run_load (x:=x) (ty:=ty) (pos:=pos) (af:=af) (g:=g) hS hc e (dst:=some d)
      simp only [cond_true] at hp hK
      cases agg with
      |true=>exact hp.elim
      |false=>
       simp only at hp hK
       split at hp
       ·rename_i y hy
        simp only [hy] at hK
        obtain⟨v,hv',uN⟩:=qX vF hy
        exact fw.value (av:=.s y) hh rfl hd (hld.2 rfl v (by simpa using hv')) uN (fun k hk=>hh.named (.b i) _ hb k (gK.2 ⟨y,ZB6 hy,hk⟩)) (fun a' h=>hK _ _ _ rfl h)
       ·exact hp.elim
    ·exact hp.elim
  ·rename_i ek j
   obtain⟨b,o,m,e,hT,ho,hj⟩:=hv
   obtain⟨fB,cs,te,fr,l,hc,kg,l9⟩:=hh.typed b _ hT
   have hld:=run_load (x:=x) (ty:=ty) (pos:=pos) (af:=af) (g:=g) hS hc e (dst:=some d)
   have hol:o<l.length:=by rw [l9.1];exact ho
   have hw:win cs (o*ek.length) (EK.cells ek (nth ek l o)):=by
    have:=E2 (FY l9) hol
    rwa [ZA6] at this
   have cH:EK.ok ek (nth ek l o):=l9.2.1 _ (ZB6 (oF hol))
   cases agg with
   |true=>
    simp only [Q.run] at hp hK
    cases qs:Nat.ble (j+n) ek.length with
    |false=>rw [qs] at hp;exact hp.elim
    |true=>
     rw [qs] at hp hK
     have hle:=zqNlb qs
     refine fw.value (av:=.a (((EK.AX ek (nth ek l o)).drop j).take n)) hh rfl hd (hld.1 rfl (((EK.cells ek (nth ek l o)).drop j).take n) (by rw [ZC0,ZD0,EK.bL];omega) (FZ hw j n)) ⟨_,rfl,GB _ _ j n⟩ (fun k hk=>(ahs hk).elim) (fun a' h=>hK _ _ _ ⟨_,cH,rfl⟩ h)
   |false=>
    simp only at hp hK
    split at hp
    ·rename_i cp hcp
     simp only [hcp] at hK
     obtain⟨v,h1,h2⟩:=ae4 ek (nth ek l o) j cp hcp
     exact fw.value (av:=.s (cp.sv v)) hh rfl hd (hld.2 rfl _ (hw j _ h1)) (cp.US v) (fun k hk=>by cases cp<;>simp [CP.sv,AV.boxes,A0.boxes,SV.boxes] at hk) (fun a' h=>hK _ _ _ ⟨v,h2 cH,rfl⟩ h)
    ·exact hp.elim
  ·rename_i ek rec j
   obtain⟨b,o,cs,e,hj,hT,hw⟩:=hv
   obtain⟨te,fr,hc⟩:=E9 hh.typed hT
   have hld:=run_load (x:=x) (ty:=ty) (pos:=pos) (af:=af) (g:=g) hS hc e (dst:=some d)
   cases agg with
   |true=>
    simp only [Q.run] at hp hK
    cases qs:Nat.ble (j+n) ek.length with
    |false=>rw [qs] at hp;exact hp.elim
    |true=>
     rw [qs] at hp hK
     have hle:=zqNlb qs
     refine fw.value (av:=.a (((EK.AX ek rec).drop j).take n)) hh rfl hd (hld.1 rfl (((EK.cells ek rec).drop j).take n) (by rw [ZC0,ZD0,EK.bL];omega) (FZ hw j n)) ⟨_,rfl,GB _ _ j n⟩ (fun k hk=>(ahs hk).elim) (fun a' h=>hK _ _ _ rfl h)
   |false=>
    simp only at hp hK
    split at hp
    ·rename_i y hy
     simp only [hy] at hK
     obtain⟨v,hv',uN⟩:=qX (EK.E3 (T:=T) (β:=β) ek rec) hy
     exact fw.value (av:=.s y) hh rfl hd (hld.2 rfl v (hw j v hv')) uN (fun k hk=>(aiS hy hk).elim) (fun a' h=>hK _ _ _ rfl h)
    ·exact hp.elim
  ·rename_i l j
   obtain⟨b,cs,e,hT,hC⟩:=hv
   obtain⟨te,fr,hc⟩:=E9 hh.typed hT
   have vF:dO T β (cvs l) cs.toList:=zq hC
   have hlen:=jl vF
   rw [aan] at hlen
   have hld:=run_load (x:=x) (ty:=ty) (pos:=pos) (af:=af) (g:=g) hS hc e (dst:=some d)
   cases agg with
   |true=>
    simp only [Q.run] at hp hK
    cases qs:Nat.ble (j+n) l.length with
    |false=>rw [qs] at hp;exact hp.elim
    |true=>
     rw [qs] at hp hK
     have hle:=zqNlb qs
     refine fw.value (av:=.a (cvs ((l.drop j).take n))) hh rfl hd (hld.1 rfl ((cs.toList.drop j).take n) (by rw [ZC0,ZD0];omega) (FX (by rw [ZC0,ZD0];congr 1;omega))) ⟨_,rfl,zq (LL n (LM j hC))⟩ (fun k hk=>(aiT hk).elim) (fun a' h=>hK _ _ _ rfl h)
   |false=>
    simp only at hp hK
    split at hp
    ·rename_i y hy
     simp only [hy] at hK
     obtain⟨v,hv',uN⟩:=YX hC hy
     exact fw.value (av:=.s y.sv) hh rfl hd (hld.2 rfl v (by simpa using hv')) (CV.acI.1 uN) (fun k hk=>(agC hk).elim) (fun a' h=>hK _ _ _ rfl h)
    ·exact hp.elim
  ·exact hp.elim
end
end GL
end Go.Proofs.YtkgpljpmdkflmaaGreatDoor
