/- A drawn law returns true for every code (its row lists package variables, tied by the card): part 7. -/
import Derived.Test.YtnkbdhldiinfdaaGreatDoorPaf
set_option maxHeartbeats 20000000
set_option maxRecDepth 100000
set_option linter.all false
namespace Go.Proofs.YtnkbdhldiinfdaaGreatDoor
namespace GL
section
variable {P:Program}{N:Nat}{τ:St}
variable {d:Nat}{x y z:Operand}{t u ty:TypeId}{pos:String}{af:Array Edge}{g:Option (Nat×Bool)}
def qG (x:Option Operand) (k:Option Int→Q Rs):Q Rs:=
 match x with
 |none=>k none
 |some x=>bY x fun
  |.o (.s (.v (.int .i64 n)))=>k (some n)
  |_=>.ret .no
def evI (τ:St):Option Operand→Option (Option Int)
 |none=>some none
 |some x=>match ev τ x with
  |some (.o (.s (.v (.int .i64 n))))=>some (some n)
  |_=>none
theorem wc (τ:St) (x:Option Operand) (k:Option Int→Q Rs):(qG x k).run τ=match evI τ x with
  |some v=>(k v).run τ
  |none=>.no:=by
 cases x with
 |none=>rfl
 |some x=>
  simp only [qG,c8,evI]
  cases h:ev τ x with
  |none=>rfl
  |some v=>
   simp only
   split
   ·rfl
   ·rename_i fA
    split
    ·rename_i hv
     split at hv
     ·rename_i hv'
      cases hv'
      exact absurd rfl (fA _)
     ·cases hv
    ·rfl
theorem z6 {c:Ctx}{T:bb}{β:Nat→Nat}{a:Act}{w:World}(h:Holds N c T β τ a w) {x:Option Operand}{n:Option Int}(hx:evI τ x=some n):x.map a.eval=n.map (Value.int .i64):=by
 cases x with
 |none=>simp only [evI] at hx;cases hx;rfl
 |some x=>
  simp only [evI] at hx
  split at hx
  ·rename_i m hm
   cases hx
   have e:a.eval x= .int .i64 m:=eP h hm
   simp [e]
  ·cases hx
def X1 (strs:Bool) (sz:Nat) (x:AV) (l h:Option Int):V1:=
 match x with
 |.o (.s (.v (.string s)))=>match strs with
  |true=>.mZ (0≤l.getD 0∧l.getD 0≤h.getD s.size∧h.getD s.size≤s.size) (.str (s.extract (l.getD 0).toNat (h.getD s.size).toNat))
  |false=>.no
 |.o (.s (.sl ek n))=>match strs with
  |false=>bif Nat.beq ek.length sz then .mZ (0≤l.getD 0∧l.getD 0≤h.getD n∧h.getD n≤n) (.s (.sl ek ((h.getD n).toNat-(l.getD 0).toNat))) else .no
  |true=>.no
 |.o (.s (.vw ek v))=>match strs with
  |false=>bif Nat.beq ek.length sz then .mZ (0≤l.getD 0∧l.getD 0≤h.getD v.length∧h.getD v.length≤v.length) (.s (.vw ek ((v.drop (l.getD 0).toNat).take ((h.getD v.length).toNat-(l.getD 0).toNat)))) else .no
  |true=>.no
 |.o (.s (.vz ek v))=>match strs with
  |false=>bif Nat.beq ek.length sz then .mZ (0≤l.getD 0∧l.getD 0≤h.getD v.length∧h.getD v.length≤v.length) (.s (.vz ek ((v.drop (l.getD 0).toNat).take ((h.getD v.length).toNat-(l.getD 0).toNat)))) else .no
  |true=>.no
 |.o (.s (.xs i sz' o m))=>match strs with
  |false=>bif Nat.beq sz' sz then .mZ (0≤l.getD 0∧l.getD 0≤h.getD m∧h.getD m≤m) (.s (.xs i sz' (o+(l.getD 0).toNat) ((h.getD m).toNat-(l.getD 0).toNat))) else .no
  |true=>.no
 |_=>.no
theorem xS (isS:Bool) (len cap:Nat) (l h:Option Int) (za:0≤l.getD 0) (hlh:l.getD 0≤h.getD len) (hh:h.getD len≤cap) (w:World):
  (Instr.sliceBounds isS len cap (l.map (Value.int .i64)) (h.map (Value.int .i64)) none).run P w= .ok ((l.getD 0).toNat,(h.getD len).toNat,cap) w:=by
 have hb:∀(i:Int) (y:Nat) (code:BoundsCode),0≤i→i≤y→(Instr.sliceBound (.int .i64 i) y code).run P w= .ok i.toNat w:=fun i y code h0 h1=>run_sliceBound (P:=P) (w:=w) .i64 i y code h0 h1
 cases h with
 |none=>
  cases l with
  |none=>simp [Instr.sliceBounds]
  |some l=>
   simp only [ZA2,ZA3] at za hlh hh
   simp [Instr.sliceBounds,hb l len .sliceB za (by omega)]
 |some h=>
  simp only [ZA2] at hlh hh
  have h1:(Instr.sliceBound (.int .i64 h) cap (if isS=true then BoundsCode.sliceAcap else BoundsCode.sliceAlen)).run P w= .ok h.toNat w:=hb h cap _ (by omega) hh
  cases l with
  |none=>simp [Instr.sliceBounds,h1]
  |some l=>
   simp only [ZA2] at za hlh
   have h2:(Instr.sliceBound (.int .i64 l) h.toNat BoundsCode.sliceB).run P w= .ok l.toNat w:=hb l h.toNat _ za (by omega)
   simp [Instr.sliceBounds,h1,h2]
theorem fv.cut {o:Oper}{l h:Option Operand}{f:AV→Option Int→Option Int→V1}(ho:o.dst=some d) (hd:d<N)
  (hs:∀c T β τ a w,Holds N c T β τ a w→∀v l' h',v.rel T β (a.eval x)→l.map a.eval=l'.map (Value.int .i64)→h.map a.eval=h'.map (Value.int .i64)→∀r,(f v l' h').vF r→(∀i∈r.boxes,i∈v.boxes)∧∃val,(execOp a.eval o).run P w= .ok (.value val) w∧r.rel T β val):
  fv P N o (bY x fun v=>qG l fun l'=>qG h fun h'=>.ret ((f v l' h').rs d)):=by
 intro c τ a w hr hp K Q' hK
 obtain⟨T,β,hh⟩:=hr
 rw [c8] at hp hK
 cases hx:ev τ x with
 |none=>rw [hx] at hp;exact hp.elim
 |some v=>
  rw [hx] at hp hK
  simp only [wc] at hp hK
  cases hl:evI τ l with
  |none=>rw [hl] at hp;exact hp.elim
  |some l'=>
   rw [hl] at hp hK
   simp only [wc] at hp hK
   cases hh':evI τ h with
   |none=>rw [hh'] at hp;exact hp.elim
   |some h'=>
    rw [hh'] at hp hK
    refine V1.put hh hd hp ho (fun r hr=>?_) hK
    obtain⟨h1,h2⟩:=hs c T β τ a w hh v l' h' (eP hh hx) (z6 hh hl) (z6 hh hh') r hr
    exact⟨fun i hi=>gY hh hx i (h1 i hi),h2⟩
theorem aih {l h:Option Operand}(ht:P.underlying t=some .string) (hd:d<N):fv P N ⟨some d,.slice t x l h none,ty,pos,af,g⟩ (bY x fun v=>qG l fun l'=>qG h fun h'=>.ret ((X1 true 0 v l' h').rs d)):=
 fv.cut rfl hd fun c T β τ a w hh v l' h' hv e2 e3 r hr=>by
  unfold X1 at hr
  split at hr
  ·rename_i s
   obtain⟨⟨h0,h1,h2⟩,rfl⟩:=hr
   have e1:a.eval x= .string s:=hv
   refine⟨nob _ _,.string (s.extract (l'.getD 0).toNat (h'.getD s.size).toNat),?_,rfl⟩
   have hbd:=xS (P:=P) false s.size s.size l' h' h0 h1 h2 w
   simp [execOp,e1,e2,e3,Instr.sliceAt,Instr.slice,run_underlying ht,hbd]
  all_goals exact hr.elim
theorem E6 {e:TypeId}{sz:Nat}(he:P.underlying t=some (.slice e)) (dj:∀w,(sizeOf e).run P w= .ok sz w) {b o len cap:Nat}{l h:Option Int}(h0:0≤l.getD 0) (h1:l.getD 0≤h.getD len) (h2:h.getD len≤len) (hc:len≤cap) (w:World):
  (Instr.slice t (.slice (some ⟨b,o,none⟩) len cap) (l.map (Value.int .i64)) (h.map (Value.int .i64)) none).run P w=
   .ok (.slice (some ⟨b,if cap=(l.getD 0).toNat then o else o+(l.getD 0).toNat*sz,none⟩) ((h.getD len).toNat-(l.getD 0).toNat) (cap-(l.getD 0).toNat)) w:=by
 have hbd:=xS (P:=P) true len cap l h h0 h1 (by omega) w
 by_cases EY:cap=(l.getD 0).toNat
 ·simp [Instr.slice,run_underlying he,hbd,dj,←EY]
 ·simp [Instr.slice,run_underlying he,hbd,dj,EY,ga]
theorem zl {e:TypeId}{sz:Nat}(he:P.underlying t=some (.slice e)) (dj:∀w,(sizeOf e).run P w= .ok sz w) {p:Option Addr}{cap:Nat}{l h:Option Int}(h0:0≤l.getD 0) (h1:l.getD 0≤h.getD ((0:Nat):Int)) (h2:h.getD ((0:Nat):Int)≤((0:Nat):Int)) (w:World):
  ∃p',(Instr.slice t (.slice p 0 cap) (l.map (Value.int .i64)) (h.map (Value.int .i64)) none).run P w= .ok (.slice p' 0 cap) w:=by
 have hbd:=xS (P:=P) true 0 cap l h h0 h1 (by omega) w
 have hz1:(l.getD 0).toNat=0:=by omega
 have hz2:(h.getD ((0:Nat):Int)).toNat=0:=by omega
 simp only [Int.ofNat_zero] at hbd hz2
 exact⟨if cap=0 then p else p.map (·.add 0),by simp [Instr.slice,run_underlying he,hbd,dj,hz1,hz2]⟩
theorem wq {cs:Array Value}{o:Nat}{ek:EK}{l:List (EK.Ty ek)}(h:win cs o (flat ek l)) (a b:Nat):win cs (o+a*ek.length) (flat ek ((l.drop a).take b)):=by
 intro j v hj
 have h1:(flat ek ((l.drop a).take b))[j]?=((flat ek l).drop (a*ek.length))[j]?:=by
  rw [ph,←mX,List.getElem?_take]
  split
  ·rfl
  ·rename_i bU
   exfalso
   have:=(ZC0.1 hj).1
   rw [←mX,ZB9] at this
   omega
 rw [h1,List.getElem?_drop] at hj
 rw [ZF7]
 exact h _ _ hj
theorem afo {sz:Nat}{l h:Option Operand}(ht:rL P t=some sz) (hd:d<N):fv P N ⟨some d,.slice t x l h none,ty,pos,af,g⟩ (bY x fun v=>qG l fun l'=>qG h fun h'=>.ret ((X1 false sz v l' h').rs d)):=
 fv.cut rfl hd fun c T β τ a w hh v l' h' hv e2 e3 r hr=>by
  obtain⟨e,he,dj⟩:=tU ht
  have fin:∀{v1 v2:Value},a.eval x=v1→(Instr.slice t v1 (l'.map (Value.int .i64)) (h'.map (Value.int .i64)) none).run P w= .ok v2 w→(v1 matches .slice _ _ _)=true→(execOp a.eval ⟨some d,.slice t x l h none,ty,pos,af,g⟩).run P w= .ok (.value v2) w:=by
   intro v1 v2 e1 fk hm
   cases v1<;>first|cases hm|skip
   simp [execOp,e1,e2,e3,Instr.sliceAt,run_underlying he,fk]
  unfold X1 at hr
  split at hr
  ·exact hr.elim
  ·rename_i ek n
   cases hb:Nat.beq ek.length sz with
   |false=>rw [hb] at hr;exact hr.elim
   |true=>
    rw [hb] at hr
    obtain⟨⟨h0,h1,h2⟩,rfl⟩:=hr
    have hs:ek.length=sz:=by simpa using hb
    refine⟨fun k hk=>by simp [AV.boxes,A0.boxes,SV.boxes] at hk,?_⟩
    rcases hv with ⟨hl,p,e1⟩ |⟨b,o,cap,m,e1,hlc,hT,hle⟩
    ·subst hl
     obtain⟨p',fk⟩:=zl (P:=P) he dj (p:=p) (cap:=0) h0 h1 h2 w
     exact⟨_,fin e1 fk rfl,.inl ⟨by omega,p',rfl⟩⟩
    ·have fk:=E6 (P:=P) he dj (b:=b) (o:=o*ek.length) (len:=n) (cap:=cap) h0 h1 h2 hlc w
     refine⟨_,fin e1 fk rfl,?_⟩
     by_cases hc:cap=(l'.getD 0).toNat
     ·refine .inl ⟨by omega,some ⟨b,o*ek.length,none⟩,?_⟩
      rw [if_pos hc]
      congr 1<;>omega
     ·refine .inr ⟨b,o+(l'.getD 0).toNat,cap-(l'.getD 0).toNat,m,?_,by omega,hT,by omega⟩
      rw [if_neg hc,ZE3,hs]
  ·rename_i ek vs
   cases hb:Nat.beq ek.length sz with
   |false=>rw [hb] at hr;exact hr.elim
   |true=>
    rw [hb] at hr
    obtain⟨⟨h0,h1,h2⟩,rfl⟩:=hr
    have hs:ek.length=sz:=by simpa using hb
    refine⟨fun k hk=>by simp [AV.boxes,A0.boxes,SV.boxes] at hk,?_⟩
    rcases hv with ⟨hl,p,cap,e1⟩ |⟨b,o,cap,cs,te,fr,e1,hlc,hT,hw⟩
    ·subst hl
     obtain⟨p',fk⟩:=zl (P:=P) he dj (p:=p) (cap:=cap) h0 h1 h2 w
     exact⟨_,fin e1 fk rfl,.inl ⟨by simp,p',cap,rfl⟩⟩
    ·have fk:=E6 (P:=P) he dj (b:=b) (o:=o) (len:=vs.length) (cap:=cap) h0 h1 h2 hlc w
     refine⟨_,fin e1 fk rfl,?_⟩
     have hlen:((vs.drop (l'.getD 0).toNat).take ((h'.getD (vs.length:Int)).toNat-(l'.getD 0).toNat)).length=(h'.getD (vs.length:Int)).toNat-(l'.getD 0).toNat:=by
      rw [ZB9,ZC8];omega
     by_cases hc:cap=(l'.getD 0).toNat
     ·refine .inl ⟨?_,some ⟨b,o,none⟩,cap-(l'.getD 0).toNat,?_⟩
      ·rw [←ZD4,hlen];omega
      ·rw [if_pos hc];congr 1;omega
     ·refine .inr ⟨b,o+(l'.getD 0).toNat*ek.length,cap-(l'.getD 0).toNat,cs,te,fr,?_,by omega,hT,wq hw _ _⟩
      rw [if_neg hc,hlen,hs]
  ·rename_i ek vs
   cases hb:Nat.beq ek.length sz with
   |false=>rw [hb] at hr;exact hr.elim
   |true=>
    rw [hb] at hr
    obtain⟨⟨h0,h1,h2⟩,rfl⟩:=hr
    have hs:ek.length=sz:=by simpa using hb
    refine⟨fun k hk=>by simp [AV.boxes,A0.boxes,SV.boxes] at hk,?_⟩
    rcases hv with ⟨hl,p,cap,e1⟩ |⟨b,o,cap,cs,e1,hlc,hT,hw⟩
    ·subst hl
     obtain⟨p',fk⟩:=zl (P:=P) he dj (p:=p) (cap:=cap) h0 h1 h2 w
     exact⟨_,fin e1 fk rfl,.inl ⟨by simp,p',cap,rfl⟩⟩
    ·have fk:=E6 (P:=P) he dj (b:=b) (o:=o) (len:=vs.length) (cap:=cap) h0 h1 h2 hlc w
     refine⟨_,fin e1 fk rfl,?_⟩
     have hlen:((vs.drop (l'.getD 0).toNat).take ((h'.getD (vs.length:Int)).toNat-(l'.getD 0).toNat)).length=(h'.getD (vs.length:Int)).toNat-(l'.getD 0).toNat:=by
      rw [ZB9,ZC8];omega
     by_cases hc:cap=(l'.getD 0).toNat
     ·refine .inl ⟨?_,some ⟨b,o,none⟩,cap-(l'.getD 0).toNat,?_⟩
      ·rw [←ZD4,hlen];omega
      ·rw [if_pos hc];congr 1;omega
     ·refine .inr ⟨b,o+(l'.getD 0).toNat*ek.length,cap-(l'.getD 0).toNat,cs,?_,by omega,hT,wq hw _ _⟩
      rw [if_neg hc,hlen,hs]
  ·rename_i i sz' o m
   cases hb:Nat.beq sz' sz with
   |false=>rw [hb] at hr;exact hr.elim
   |true=>
    rw [hb] at hr
    obtain⟨⟨h0,h1,h2⟩,rfl⟩:=hr
    have hs:sz'=sz:=by simpa using hb
    refine⟨fun k hk=>hk,?_⟩
    rcases hv with ⟨hl,p,e1⟩ |⟨cap,n,e1,hlc,hT,hle⟩
    ·subst hl
     obtain⟨p',fk⟩:=zl (P:=P) he dj (p:=p) (cap:=0) h0 h1 h2 w
     exact⟨_,fin e1 fk rfl,.inl ⟨by omega,p',rfl⟩⟩
    ·have fk:=E6 (P:=P) he dj (b:=β i) (o:=o*sz') (len:=m) (cap:=cap) h0 h1 h2 hlc w
     refine⟨_,fin e1 fk rfl,?_⟩
     by_cases hc:cap=(l'.getD 0).toNat
     ·refine .inl ⟨by omega,some ⟨β i,o*sz',none⟩,?_⟩
      rw [if_pos hc]
      congr 1<;>omega
     ·refine .inr ⟨cap-(l'.getD 0).toNat,n,?_,by omega,hT,?_⟩
      ·rw [if_neg hc,ZE3,hs]
      ·have:o+(l'.getD 0).toNat+(cap-(l'.getD 0).toNat)=o+cap:=by omega
       rw [this];exact hle
  ·exact hr.elim
end
end GL
namespace GL
section
variable {P:Program}{N:Nat}{τ:St}
variable {d:Nat}{x y z:Operand}{t u ty:TypeId}{pos:String}{af:Array Edge}{g:Option (Nat×Bool)}
def sR (i:Nat) (k:AV→Q Rs):Q Rs:=.ask (.b i) fun
 |some v=>k v
 |none=>.ret .no
def adD (agg:Bool) (n d:Nat) (v:AV):Q Rs:=
 match v with
 |.o (.s (.bp i o))=>sR i fun
  |.o (.a l)=>match agg with
   |true=>.ret (bif Nat.ble (o+n) l.length then .go [(.s d,.a ((l.drop o).take n))] else .no)
   |false=>match l[o]? with
    |some y=>.ret (.go [(.s d,.s y)])
    |none=>.ret .no
  |_=>.ret .no
 |.o (.s (.xp i sz k j))=>sR i fun
  |.rs ek l=>bif Nat.beq ek.length sz then (match agg with
   |true=>.ret (bif Nat.ble (j+n) sz then .mZ (k<l.length) [(.s d,.a (((EK.AX ek (nth ek l k)).drop j).take n))] else .no)
   |false=>match (EK.AX ek (nth ek l k))[j]? with
    |some y=>.ret (.mZ (k<l.length) [(.s d,.s y)])
    |none=>.ret .no) else .ret .no
  |.o (.a l)=>bif Nat.beq sz 1&&Nat.beq j 0 then (match agg with
   |true=>.ret .no
   |false=>match l[k]? with
    |some y=>.ret (.go [(.s d,.s y)])
    |none=>.ret .no) else .ret .no
  |_=>.ret .no
 |.o (.s (.ep ek j))=>match agg with
  |true=>.ret (bif Nat.ble (j+n) ek.length then .ex True (EK.Ty ek) (EK.ok ek) [(.s d,fun x=>.a (((EK.AX ek x).drop j).take n))] else .no)
  |false=>match ek[j]? with
   |some c=>.ret (.ex True c.Ty c.ok [(.s d,fun x=>.s (c.sv x))])
   |none=>.ret .no
 |.o (.s (.vp ek x j))=>match agg with
  |true=>.ret (bif Nat.ble (j+n) ek.length then .go [(.s d,.a (((EK.AX ek x).drop j).take n))] else .no)
  |false=>match (EK.AX ek x)[j]? with
   |some y=>.ret (.go [(.s d,.s y)])
   |none=>.ret .no
 |.o (.s (.vs l j))=>match agg with
  |true=>.ret (bif Nat.ble (j+n) l.length then .go [(.s d,.a (cvs ((l.drop j).take n)))] else .no)
  |false=>match l[j]? with
   |some y=>.ret (.go [(.s d,.s y.sv)])
   |none=>.ret .no
 |_=>.ret .no
theorem run_load {agg:Bool}{n:Nat}(hS:Sh P t=some (agg,n)) {w:World}{b o:Nat}{cs:Array Value}{e:TypeId}{fr:Nat×Nat}(hb:w.heap[b]?=some (.cells cs e fr)) {ρ:Operand→Value}(hx:ρ x= .pointer (some ⟨b,o,none⟩)) {dst:Option Nat}:
  (agg=true→∀vs:List Value,vs.length=n→win cs o vs→(execOp ρ ⟨dst,.load t x,ty,pos,af,g⟩).run P w= .ok (.value (.agg vs.toArray)) w)∧
  (agg=false→∀v,cs[o]?=some v→(execOp ρ ⟨dst,.load t x,ty,pos,af,g⟩).run P w= .ok (.value v) w):=by
 refine⟨fun h vs hl hw=>?_,fun h v hv=>?_⟩
 ·subst h
  have:=ur (P:=P) hS (w:=w) (a:=⟨b,o,none⟩) (cs:=vs) hl (fun j v hj=>by rw [ga,rr hb];exact hw j v hj)
  simp [execOp,hx,Instr.loadAt,Instr.sureAddr,this]
 ·subst h
  have:=uq (P:=P) hS (w:=w) (a:=⟨b,o,none⟩) (v:=v) (by rw [rr hb];exact hv)
  simp [execOp,hx,Instr.loadAt,Instr.sureAddr,this]
theorem aiN {T:bb}{β:Nat→Nat}{l:List SV}{cs:List Value}(h:dN T β l cs) {i:Nat}{v:Value}(hv:cs[i]?=some v):∃x,l[i]?=some x∧x.rel T β v:=by
 have hl:=jj h
 have hi:i<l.length:=by rw [hl];exact (ZC0.1 hv).1
 obtain⟨v',hv',hr⟩:=qU h (ZB1 hi)
 rw [hv] at hv';cases hv'
 exact⟨_,ZB1 hi,hr⟩
theorem fv.value {c:Ctx}{T:bb}{β:Nat→Nat}{a:Act}{w:World}{o:Oper}(hh:Holds N c T β τ a w) (ho:o.dst=some d) (hd:d<N) {av:AV}{v:Value}(hex:(execOp a.eval o).run P w= .ok (.value v) w) (c6:av.rel T β v) (hnm:∀i∈av.boxes,τ (.b i)≠none)
  {K:Act→World→Prop} {Q':Exit→Act→World→Prop} (hK:∀a',Rel N c (τ.ap [(.s d,av)]) a' w→K a' w):o.wp P a w K Q':=by
 unfold Oper.wp
 rw [hex]
 show K (a.put o.dst v) w
 rw [ho]
 exact hK _ ⟨T,β,hh.put hd c6 hnm⟩
theorem GC {T:bb}{β:Nat→Nat}(ek:EK) (x:EK.Ty ek) (j n:Nat):dN T β (((EK.AX ek x).drop j).take n) (((EK.cells ek x).drop j).take n):=wz n (wA j (EK.E4 ek x))
theorem F0 {cs:Array Value}{o:Nat}{l:List Value}(h:win cs o l) (j n:Nat):win cs (o+j) ((l.drop j).take n):=by
 intro k v hk
 rw [List.getElem?_take] at hk
 split at hk
 ·rw [List.getElem?_drop] at hk
  rw [ZF7];exact h _ _ hk
 ·cases hk
theorem FY {cs:Array Value}{l:List Value}{o:Nat}(h:(cs.toList.drop o).take l.length=l):win cs o l:=by
 intro j v hj
 have bU:=(ZC0.1 hj).1
 rw [←h,List.getElem?_take,if_pos bU,List.getElem?_drop] at hj
 simpa using hj
theorem ahz {ek:EK}{x:EK.Ty ek}{j n i:Nat}(h:i∈cc (((EK.AX ek x).drop j).take n)):False:=by
 have:=nj h
 rw [EK.A9] at this
 cases this
theorem aiX {ek:EK}{x:EK.Ty ek}{j i:Nat}{y:SV}(hy:(EK.AX ek x)[j]?=some y) (h:i∈y.boxes):False:=by
 have:i∈cc (EK.AX ek x):=gJ.2 ⟨y,ZB6 hy,h⟩
 rw [EK.A9] at this
 cases this
theorem UR {cs:Array Value}{ek:EK}{l z:List (EK.Ty ek)}(h:cs.toList=flat ek (l++z)):win cs 0 (flat ek l):=by
 intro j v hj
 rw [ZA6]
 have h2:cs.toList[j]?=some v:=by
  rw [h,gD]
  exact ZC2 (ZC0.1 hj).1 ▸ hj
 simpa using h2
theorem FZ {cs:Array Value}{ek:EK}{n:Nat}{l:List (EK.Ty ek)}(h:agy ek n l cs):win cs 0 (flat ek l):=UR (z:=[]) (by simpa using h.2.2)
theorem ae8 (ek:EK):∀(x:EK.Ty ek) (j:Nat) (c:CP),ek[j]?=some c→∃v:c.Ty,(EK.cells ek x)[j]?=some (c.val v)∧(EK.ok ek x→c.ok v):=by
 induction ek with
 |nil=>intro x j c h;simp at h
 |cons c0 l ih=>
  intro x j c h
  cases l with
  |nil=>
   cases j with
   |zero=>simp at h;subst h;exact⟨x,rfl,fun h=>h⟩
   |succ j=>simp at h
  |cons c1 l=>
   cases j with
   |zero=>simp at h;subst h;exact⟨x.1,rfl,fun h=>h.1⟩
   |succ j=>
    obtain⟨v,h1,h2⟩:=ih x.2 j c (by simpa using h)
    exact⟨v,by simpa [EK.cells] using h1,fun h=>h2 h.2⟩
theorem aaq:∀l:List CV,(cvs l).length=l.length
 |[]=>rfl
 |_::l=>by simp [cvs,aaq l]
theorem LN {T:bb}:∀{l:List CV}{cs:List Value}(n:Nat),xl T l cs→xl T (l.take n) (cs.take n)
 |_,_,0,_=>by simp [xl]
 |[],[],_,_=>by simp [xl]
 |_::_,[],_,h=>h.elim
 |[],_::_,_,h=>h.elim
 |_::l,_::cs,n+1,h=>⟨h.1,LN n h.2⟩
theorem LO {T:bb}:∀{l:List CV}{cs:List Value}(n:Nat),xl T l cs→xl T (l.drop n) (cs.drop n)
 |_,_,0,h=>by simpa using h
 |[],[],_,_=>by simp [xl]
 |_::_,[],_,h=>h.elim
 |[],_::_,_,h=>h.elim
 |_::l,_::cs,n+1,h=>by simpa using LO n h.2
theorem Y0 {T:bb}:∀{l:List CV}{cs:List Value},xl T l cs→∀{i:Nat}{x:CV},l[i]?=some x→∃v,cs[i]?=some v∧x.rel T v
 |[],[],_,i,x,hx=>by simp at hx
 |_::_,[],h,_,_,_=>h.elim
 |[],_::_,h,_,_,_=>h.elim
 |y::l,v::cs,h,i,x,hx=>by
  cases i with
  |zero=>simp at hx;subst hx;exact⟨v,by simp,h.1⟩
  |succ i=>simpa using Y0 h.2 (by simpa using hx)
theorem agI {x:CV}{i:Nat}(h:i∈x.sv.boxes):False:=by cases x<;>simp [CV.sv,SV.boxes] at h
theorem aiY {i:Nat}:∀{l:List CV},i∈cc (cvs l)→False
 |[],h=>by simp [cvs,cc] at h
 |x::l,h=>by
  simp only [cvs,cc,ZB4] at h
  rcases h with h |h
  ·exact agI h
  ·exact aiY h
theorem aie {agg:Bool}{n:Nat}(hS:Sh P t=some (agg,n)) (hd:d<N):fv P N ⟨some d,.load t x,ty,pos,af,g⟩ (bY x fun v=>adD agg n d v):=by
 intro c τ a w hr hp K Q' hK
 obtain⟨T,β,hh⟩:=hr
 rw [c8] at hp hK
 cases hx:ev τ x with
 |none=>rw [hx] at hp;exact hp.elim
 |some v=>
  rw [hx] at hp hK
  have hv:=eP hh hx
  simp only at hp hK
  unfold adD at hp hK
  split at hp
  ·rename_i i o
   simp only [sR,Q.run] at hp hK
   have e:a.eval x= .pointer (some ⟨β i,o,none⟩):=hv
   cases hb:τ (.b i) with
   |none=>rw [hb] at hp;exact hp.elim
   |some av=>
    rw [hb] at hp hK
    simp only at hp hK
    split at hp
    ·rename_i l
     obtain⟨cs,te,hc,c6⟩:=hh.boxes i _ hb (by intro e;cases e)
     have vC:dN T β l cs.toList:=c6
     have hlen:=jj vC
     have hld:=run_load (x:=x) (ty:=ty) (pos:=pos) (af:=af) (g:=g) hS hc e (dst:=some d)
     cases agg with
     |true=>
      simp only [Q.run] at hp hK
      cases qp:Nat.ble (o+n) l.length with
      |false=>rw [qp] at hp;exact hp.elim
      |true=>
       rw [qp] at hp hK
       have hle:=zqNlb qp
       refine fv.value (av:=.a ((l.drop o).take n)) hh rfl hd (hld.1 rfl ((cs.toList.drop o).take n) (by rw [ZB9,ZC8];omega) (FY (by rw [ZB9,ZC8];congr 1;omega))) ⟨_,rfl,wz n (wA o vC)⟩ (fun k hk=>hh.named (.b i) _ hb k (nj hk)) (fun a' h=>hK _ _ _ rfl h)
     |false=>
      simp only at hp hK
      split at hp
      ·rename_i y hy
       simp only [hy] at hK
       obtain⟨v,hv',uK⟩:=qU vC hy
       exact fv.value (av:=.s y) hh rfl hd (hld.2 rfl v (by simpa using hv')) uK (fun k hk=>hh.named (.b i) _ hb k (gJ.2 ⟨y,ZB6 hy,hk⟩)) (fun a' h=>hK _ _ _ rfl h)
      ·exact hp.elim
    ·exact hp.elim
  ·rename_i i sz k j
   simp only [sR,Q.run] at hp hK
   obtain⟨e,hj⟩:=hv
   cases hb:τ (.b i) with
   |none=>rw [hb] at hp;exact hp.elim
   |some av=>
    rw [hb] at hp hK
    simp only at hp hK
    split at hp
    ·rename_i ek l
     obtain⟨cs,te,hc,fA,zz,mq,hz⟩:=hh.boxes i _ hb (by intro e;cases e)
     have hld:=run_load (x:=x) (ty:=ty) (pos:=pos) (af:=af) (g:=g) hS hc e (dst:=some d)
     simp only at hK
     cases hq:Nat.beq ek.length sz with
     |false=>rw [hq] at hp;exact hp.elim
     |true=>
      rw [hq] at hp hK
      have dj:ek.length=sz:=by simpa using hq
      subst dj
      have hw:∀hk:k<l.length,win cs (k*ek.length) (EK.cells ek (nth ek l k)):=fun hk=>by
       have:=E3 (UR mq) hk
       rwa [ZA6] at this
      cases agg with
      |true=>
       simp only [cond_true,Q.run] at hp hK
       cases qp:Nat.ble (j+n) ek.length with
       |false=>rw [qp] at hp;exact hp.elim
       |true=>
        rw [qp] at hp hK
        have hle:=zqNlb qp
        have hk:k<l.length:=hp
        refine fv.value (av:=.a (((EK.AX ek (nth ek l k)).drop j).take n)) hh rfl hd (hld.1 rfl (((EK.cells ek (nth ek l k)).drop j).take n) (by rw [ZB9,ZC8,EK.bK];omega) (F0 (hw hk) j n)) ⟨_,rfl,GC _ _ j n⟩ (fun k hk=>(ahz hk).elim) (fun a' h=>hK _ _ _ rfl h)
      |false=>
       simp only [cond_true] at hp hK
       split at hp
       ·rename_i y hy
        simp only [hy] at hK
        have hk:k<l.length:=hp
        obtain⟨v,hv',uK⟩:=qU (EK.E4 (T:=T) (β:=β) ek (nth ek l k)) hy
        exact fv.value (av:=.s y) hh rfl hd (hld.2 rfl v (hw hk j v hv')) uK (fun k hk=>(aiX hy hk).elim) (fun a' h=>hK _ _ _ rfl h)
       ·exact hp.elim
    ·rename_i l
     obtain⟨cs,te,hc,c6⟩:=hh.boxes i _ hb (by intro e;cases e)
     have vC:dN T β l cs.toList:=c6
     simp only at hK
     cases hq:Nat.beq sz 1&&Nat.beq j 0 with
     |false=>rw [hq] at hp;exact hp.elim
     |true=>
      rw [hq] at hp hK
      simp only [ZA9,Nat.beq_eq] at hq
      obtain⟨rfl,rfl⟩:=hq
      have hld:=run_load (x:=x) (ty:=ty) (pos:=pos) (af:=af) (g:=g) hS hc e (dst:=some d)
      simp only [cond_true] at hp hK
      cases agg with
      |true=>exact hp.elim
      |false=>
       simp only at hp hK
       split at hp
       ·rename_i y hy
        simp only [hy] at hK
        obtain⟨v,hv',uK⟩:=qU vC hy
        exact fv.value (av:=.s y) hh rfl hd (hld.2 rfl v (by simpa using hv')) uK (fun k hk=>hh.named (.b i) _ hb k (gJ.2 ⟨y,ZB6 hy,hk⟩)) (fun a' h=>hK _ _ _ rfl h)
       ·exact hp.elim
    ·exact hp.elim
  ·rename_i ek j
   obtain⟨b,o,m,e,hT,ho,hj⟩:=hv
   obtain⟨fA,cs,te,fr,l,hc,ke,l5⟩:=hh.typed b _ hT
   have hld:=run_load (x:=x) (ty:=ty) (pos:=pos) (af:=af) (g:=g) hS hc e (dst:=some d)
   have hol:o<l.length:=by rw [l5.1];exact ho
   have hw:win cs (o*ek.length) (EK.cells ek (nth ek l o)):=by
    have:=E3 (FZ l5) hol
    rwa [ZA6] at this
   have cG:EK.ok ek (nth ek l o):=l5.2.1 _ (ZB6 (oD hol))
   cases agg with
   |true=>
    simp only [Q.run] at hp hK
    cases qp:Nat.ble (j+n) ek.length with
    |false=>rw [qp] at hp;exact hp.elim
    |true=>
     rw [qp] at hp hK
     have hle:=zqNlb qp
     refine fv.value (av:=.a (((EK.AX ek (nth ek l o)).drop j).take n)) hh rfl hd (hld.1 rfl (((EK.cells ek (nth ek l o)).drop j).take n) (by rw [ZB9,ZC8,EK.bK];omega) (F0 hw j n)) ⟨_,rfl,GC _ _ j n⟩ (fun k hk=>(ahz hk).elim) (fun a' h=>hK _ _ _ ⟨_,cG,rfl⟩ h)
   |false=>
    simp only at hp hK
    split at hp
    ·rename_i cp hcp
     simp only [hcp] at hK
     obtain⟨v,h1,h2⟩:=ae8 ek (nth ek l o) j cp hcp
     exact fv.value (av:=.s (cp.sv v)) hh rfl hd (hld.2 rfl _ (hw j _ h1)) (cp.UX v) (fun k hk=>by cases cp<;>simp [CP.sv,AV.boxes,A0.boxes,SV.boxes] at hk) (fun a' h=>hK _ _ _ ⟨v,h2 cG,rfl⟩ h)
    ·exact hp.elim
  ·rename_i ek rec j
   obtain⟨b,o,cs,e,hj,hT,hw⟩:=hv
   obtain⟨te,fr,hc⟩:=FA hh.typed hT
   have hld:=run_load (x:=x) (ty:=ty) (pos:=pos) (af:=af) (g:=g) hS hc e (dst:=some d)
   cases agg with
   |true=>
    simp only [Q.run] at hp hK
    cases qp:Nat.ble (j+n) ek.length with
    |false=>rw [qp] at hp;exact hp.elim
    |true=>
     rw [qp] at hp hK
     have hle:=zqNlb qp
     refine fv.value (av:=.a (((EK.AX ek rec).drop j).take n)) hh rfl hd (hld.1 rfl (((EK.cells ek rec).drop j).take n) (by rw [ZB9,ZC8,EK.bK];omega) (F0 hw j n)) ⟨_,rfl,GC _ _ j n⟩ (fun k hk=>(ahz hk).elim) (fun a' h=>hK _ _ _ rfl h)
   |false=>
    simp only at hp hK
    split at hp
    ·rename_i y hy
     simp only [hy] at hK
     obtain⟨v,hv',uK⟩:=qU (EK.E4 (T:=T) (β:=β) ek rec) hy
     exact fv.value (av:=.s y) hh rfl hd (hld.2 rfl v (hw j v hv')) uK (fun k hk=>(aiX hy hk).elim) (fun a' h=>hK _ _ _ rfl h)
    ·exact hp.elim
  ·rename_i l j
   obtain⟨b,cs,e,hT,hC⟩:=hv
   obtain⟨te,fr,hc⟩:=FA hh.typed hT
   have vC:dN T β (cvs l) cs.toList:=zo hC
   have hlen:=jj vC
   rw [aaq] at hlen
   have hld:=run_load (x:=x) (ty:=ty) (pos:=pos) (af:=af) (g:=g) hS hc e (dst:=some d)
   cases agg with
   |true=>
    simp only [Q.run] at hp hK
    cases qp:Nat.ble (j+n) l.length with
    |false=>rw [qp] at hp;exact hp.elim
    |true=>
     rw [qp] at hp hK
     have hle:=zqNlb qp
     refine fv.value (av:=.a (cvs ((l.drop j).take n))) hh rfl hd (hld.1 rfl ((cs.toList.drop j).take n) (by rw [ZB9,ZC8];omega) (FY (by rw [ZB9,ZC8];congr 1;omega))) ⟨_,rfl,zo (LN n (LO j hC))⟩ (fun k hk=>(aiY hk).elim) (fun a' h=>hK _ _ _ rfl h)
   |false=>
    simp only at hp hK
    split at hp
    ·rename_i y hy
     simp only [hy] at hK
     obtain⟨v,hv',uK⟩:=Y0 hC hy
     exact fv.value (av:=.s y.sv) hh rfl hd (hld.2 rfl v (by simpa using hv')) (CV.acM.1 uK) (fun k hk=>(agI hk).elim) (fun a' h=>hK _ _ _ rfl h)
    ·exact hp.elim
  ·exact hp.elim
end
end GL
end Go.Proofs.YtnkbdhldiinfdaaGreatDoor
