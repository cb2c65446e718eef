/- A drawn law returns true for every code (its row lists package variables, tied by the card): part 9. -/
import Derived.Laws.Append
import Derived.Laws.BytesString
import Derived.Laws.MakeOwn
import Derived.Test.YtkgpljpmdkflmaaGreatDoorPah
set_option maxHeartbeats 20000000
set_option maxRecDepth 100000
set_option linter.all false
namespace Go.Proofs.YtkgpljpmdkflmaaGreatDoor
namespace GL
section
variable {P:Program}{N:Nat}{τ:St}
variable {d:Nat}{x y z:Operand}{t u ty:TypeId}{pos:String}{af:Array Edge}{g:Option (Nat×Bool)}
def P0 (l:List (Nat×Operand)) (k:List (Nat×AV)→Q Rs):Q Rs:=
 match l with
 |[]=>k []
 |p::l=>bZ p.2 fun v=>P0 l fun vs=>k ((p.1,v)::vs)
def evL (τ:St):List (Nat×Operand)→Option (List (Nat×AV))
 |[]=>some []
 |p::l=>match ev τ p.2 with
  |some v=>match evL τ l with
   |some vs=>some ((p.1,v)::vs)
   |none=>none
  |none=>none
theorem AI (τ:St):∀(l:List (Nat×Operand)) (k:List (Nat×AV)→Q Rs),(P0 l k).run τ=match evL τ l with
  |some v=>(k v).run τ
  |none=>.no
 |[],k=>rfl
 |p::l,k=>by
  simp only [P0,da,evL]
  cases ev τ p.2 with
  |none=>rfl
  |some v=>
   simp only [AI τ l]
   cases evL τ l<;>rfl
theorem abV (vs:List Value):∀(off k:Nat) (cs:Array Value),(vs.zipIdx k).foldl (fun cs (p:Value×Nat)=>cs.setIfInBounds (off+p.2) p.1) cs=spl cs (off+k) vs:=by
 induction vs with
 |nil=>intro off k cs;rfl
 |cons v vs ih=>
  intro off k cs
  simp only [List.zipIdx_cons,List.foldl_cons,spl]
  rw [ih off (k+1)]
  rfl
theorem C5 {place:Nat→Option (Nat×Nat)}{i off size:Nat}{v:Value}{rest:List (Nat×Value)}{cs:Array Value}(hp:place i=some (off,size)) (hs:v.cells.size=size) (hle:off+size≤cs.size):
  Instr.fill place cs ((i,v)::rest)=Instr.fill place (spl cs off v.cells.toList) rest:=by
 have ajp:v.cells.zipIdx.foldl (fun cs (p:Value×Nat)=>cs.setIfInBounds (off+p.2) p.1) cs=spl cs off v.cells.toList:=by
  rw [←Array.foldl_toList,Array.toList_zipIdx]
  exact abV _ _ 0 _
 have uA:¬(v.cells.size≠size∨off+v.cells.size>cs.size):=by omega
 simp only [Instr.fill,hp]
 rw [if_neg (by simpa using uA),ajp]
def afe (P:Program) (t:TypeId):Option (List (Nat×Nat)×List Value):=
 match P.info? t,P.underlying t with
 |some it,some (.struct fs)=>match it.zero,fs.toList.mapM (fun f=>(P.info? f.type).map fun i=>(f.offset,i.size)) with
  |some z,some places=>some (places,z.cells.toList)
  |_,_=>none
 |_,_=>none
def Z1 (places:List (Nat×Nat)) (l:List SV):List (Nat×AV)→Option (List SV)
 |[]=>some l
 |p::rest=>match places[p.1]?,D8 p.2 with
  |some (off,size),some m=>bif (Nat.beq m.length size&&Nat.ble (off+size) l.length)&&mh m then Z1 places (xn l off m) rest else none
  |_,_=>none
theorem MV {c:Ctx}{T:bb}{β:Nat→Nat}{a:Act}{w:World}(hh:Holds N c T β τ a w) {places:List (Nat×Nat)}:∀(parts:List (Nat×Operand)) (vs:List (Nat×AV)) (l l':List SV) (cs:Array Value),evL τ parts=some vs→Z1 places l vs=some l'→dO T β l cs.toList→(∀i∈cf l,τ (.b i)≠none)→
  ∃ml,Instr.fill (places.toArray[·]?) cs (parts.map fun p=>(p.1,a.eval p.2))=some ml∧dO T β l' ml.toList∧∀i∈cf l',τ (.b i)≠none
 |[],vs,l,l',cs,h1,h2,h3,h4=>by
  cases h1;cases h2
  exact⟨cs,rfl,h3,h4⟩
 |p::parts,vs,l,l',cs,h1,h2,h3,h4=>by
  simp only [evL] at h1
  split at h1
  ·rename_i v hv
   split at h1
   ·rename_i vs' IX
    cases h1
    simp only [Z1] at h2
    split at h2
    ·rename_i off size m rW hm
     cases hc:(Nat.beq m.length size&&Nat.ble (off+size) l.length)&&mh m with
     |false=>rw [hc] at h2;cases h2
     |true=>
      rw [hc] at h2
      simp only [ZA9] at hc
      have hms:m.length=size:=by simpa using hc.1.1
      have hle:=zqNlb hc.1.2
      obtain⟨c7,_⟩:=wZ hm hc.2 (eQ hh hv)
      have hml:=jl c7
      have hll:=jl h3
      have dj:(a.eval p.2).cells.size=size:=by rw [←hms,hml];simp
      obtain⟨ml,g1,g2,g3⟩:=MV hh parts vs' (xn l off m) l' (spl cs off (a.eval p.2).cells.toList) IX h2 (RB l cs off c7 h3) (fun i hi=>by
       rcases GF m l off hi with h |h
       ·exact h4 i h
       ·exact hZ hh hv i (vL hm h))
      refine⟨ml,?_,g2,g3⟩
      have akQ:places.toArray[p.1]?=some (off,size):=by simpa using rW
      rw [ZE7,C5 (place:=(places.toArray[·]?)) akQ dj (by simp at hll;omega)]
      exact g1
    ·cases h2
   ·cases h1
  ·cases h1
def X5 (places:List (Nat×Nat)) (zs:List Value) (vs:List (Nat×AV)):V1:=
 match Z1 places (uI zs) vs with
 |some l=>.go (.a l)
 |none=>.no
theorem agl {places:List (Nat×Nat)}{zs:List Value}{parts:Array (Nat×Operand)}(hb:afe P t=some (places,zs)) (hd:d<N):fw P N ⟨some d,.build t parts,ty,pos,af,g⟩ (P0 parts.toList fun vs=>.ret ((X5 places zs vs).rs d)):=by
 intro c τ a w hr hp K Q' hK
 obtain⟨T,β,hh⟩:=hr
 rw [AI] at hp hK
 cases hx:evL τ parts.toList with
 |none=>rw [hx] at hp;exact hp.elim
 |some vs=>
  rw [hx] at hp hK
  refine V1.put hh hd hp rfl (fun r hr=>?_) hK
  unfold X5 at hr
  split at hr
  ·rename_i l hl
   cases hr
   unfold afe at hb
   split at hb
   ·rename_i it fs hi hu
    split at hb
    ·rename_i z pl hz rW
     cases hb
     obtain⟨ml,h1,h2,h3⟩:=MV hh parts.toList vs _ l z.cells hx hl (by rw [show z.cells.toList=z.cells.toList from rfl];exact HY _) (by rw [yC];simp)
     refine⟨h3,.agg ml,?_,ml,rfl,h2⟩
     have ahO:P.built t (parts.map fun p=>(p.1,a.eval p.2)).toList=some ml:=by
      unfold Program.built
      rw [hi,hu]
      simp only [hz,rW]
      simpa using h1
     have:=run_build (P:=P) w t _ ml ahO
     simp [execOp,this]
    ·cases hb
   ·cases hb
  ·exact hr.elim
def vR (P:Program) (t:TypeId):Option (Nat×Nat×List Value):=
 match P.underlying t with
 |some (.slice e)=>match P.info? e with
  |some i=>match i.zero with
   |some z=>some (i.size,i.bytes,z.cells.toList)
   |none=>none
  |none=>none
 |_=>none
theorem j0 {sz jL:Nat}{zs:List Value}(h:vR P t=some (sz,jL,zs)):∃e i z,P.underlying t=some (.slice e)∧P.info? e=some i∧i.zero=some z∧i.size=sz∧i.bytes=jL∧z.cells.toList=zs:=by
 unfold vR at h
 split at h
 ·rename_i e he
  split at h
  ·rename_i i hi
   split at h
   ·rename_i z hz
    cases h
    exact⟨e,i,z,he,hi,hz,rfl,rfl,rfl⟩
   ·cases h
  ·cases h
 ·cases h
structure Fits (P:Program) (t:TypeId) (ek:EK) (jL:Nat):Prop where
 info:vR P t=some (ek.length,jL,EK.cells ek (EK.zero ek))
 ne:ek≠[]
 small:jL≤1048576
theorem CP.sW (c:CP):c.ok c.zero:=by
 cases c<;>simp [CP.ok,CP.zero]
theorem EK.sW:∀ek:List CP,EK.ok ek (EK.zero ek)
 |[]=>trivial
 |[c]=>c.sW
 |c::d::l=>⟨c.sW,EK.sW (d::l)⟩
theorem Fits.sh {ek:EK}{jL:Nat}(h:Fits P t ek jL):rO P t=some ek.length:=by
 obtain⟨e,i,z,h1,h2,h3,h4,_⟩:=j0 h.info
 simp [rO,h1,h2,h4]
theorem LZ {ek:EK}(fB:ek≠[]) {z:Array Value}(hz:z.toList=EK.cells ek (EK.zero ek)):∀n:Nat,((Array.range (n*ek.length)).map (fun i=>z[i % z.size]!)).toList=flat ek (List.replicate n (EK.zero ek)):=by
 intro n
 have oW:0<ek.length:=List.length_pos_iff.2 fB
 have hzs:z.size=ek.length:=by rw [←ZE4,hz,EK.bL]
 apply List.ext_getElem?
 intro i
 by_cases hi:i<n*ek.length
 ·have hk:i / ek.length<n:=Nat.div_lt_of_lt_mul (by rwa [Nat.mul_comm])
  have hj:i % ek.length<ek.length:=Nat.mod_lt _ oW
  have h1:=TU ek (List.replicate n (EK.zero ek)) (i / ek.length) (i % ek.length) (EK.zero ek) (by simp [hk]) hj
  have CY:i / ek.length*ek.length+i % ek.length=i:=by rw [Nat.mul_comm];exact Nat.div_add_mod i ek.length
  rw [CY] at h1
  rw [h1,←hz]
  have h2:z.toList[i % ek.length]?=some z[i % ek.length]!:=by
   simp [Array.getElem!_eq_getD,ZE8,hzs,hj]
  rw [h2]
  simp [hi,hzs]
 ·rw [ZD8 (by simp;omega),ZD8 (by rw [cA];simp;omega)]
def abA (ex:Bool) (d:Nat) (ek:EK) (l:List (EK.Ty ek)) (p:Prop) (pt:Prop):Q Rs:=
 match ex with
 |true=>.ask (.b (1000+d)) fun
  |none=>.ret (.nc p [(.s d,.s (.xs (1000+d) ek.length 0 l.length)),(.b (1000+d),.rs ek l)])
  |some _=>.ret .no
 |false=>.ret (.nc (p∧pt) [(.s d,.s (.sl ek l.length))])
theorem HU {c:Ctx}{T:bb}{β:Nat→Nat}{a:Act}{w w':World}(hh:Holds N c T β τ a w) (hd:d<N) {ex:Bool}{ek:EK}(fB:ek≠[]) {l z:List (EK.Ty ek)}{p pt:Prop}(hp:((abA ex d ek l p pt).run τ).pre) (hpt:pt→∀x∈l,EK.ok ek x) (hz:∀x∈z,EK.ok ek x)
  {cs:Array Value} {e:TypeId} (mw:cs.toList=flat ek (l++z)) (hpu:oM w (.cells cs e (0,0)) w') {o:Oper} (ho:o.dst=some d) {cap:Nat} (EX:cap=l.length+z.length) (hex:p→(execOp a.eval o).run P w= .ok (.value (.slice (some ⟨w.heap.size,0,none⟩) l.length cap)) w')
  {K:Act→World→Prop} {Q':Exit→Act→World→Prop} (hK:∀u a' w',((abA ex d ek l p pt).run τ).out u→Rel N c (τ.ap u) a' w'→K a' w'):o.wp P a w K Q':=by
 have dj:cs.size=cap*ek.length:=by rw [←ZE4,mw,cA,EX,ZA0]
 cases ex with
 |true=>
  simp only [abA,Q.run] at hp hK
  cases hn:τ (.b (1000+d)) with
  |some v=>rw [hn] at hp;exact hp.elim
  |none=>
   rw [hn] at hp hK
   have hp':p:=hp
   unfold Oper.wp
   rw [hex hp']
   show K (a.put o.dst _) w'
   rw [ho]
   have h1:=hh.tF (d:=1000+d) (by omega) hn (av:=.rs ek l) (cs:=cs) (e:=e) hpu ⟨fB,z,mw,hz⟩ (by simp [AV.boxes])
   refine hK _ _ _ rfl ⟨_,_,h1.put hd (av:=.s (.xs (1000+d) ek.length 0 l.length)) (.inr ⟨cap,cs.size,?_,by omega,?_,by rw [ZA6,dj];exact ZB5 _⟩) (by simp [AV.boxes,A0.boxes,SV.boxes,um])⟩
   ·show _=Value.slice (some ⟨ou β (1000+d) w.heap.size (1000+d),0*ek.length,none⟩) _ _
    unfold ou;rw [if_pos rfl,ZG7]
   ·unfold ou xl;rw [if_pos rfl,if_pos rfl]
 |false=>
  simp only [abA,Q.run] at hp hK
  obtain⟨hp1,hp2⟩:p∧pt:=hp
  unfold Oper.wp
  rw [hex hp1]
  show K (a.put o.dst _) w'
  rw [ho]
  have uK:∀x∈l++z,EK.ok ek x:=fun x hx=>by
   rcases ZB4.1 hx with h |h
   ·exact hpt hp2 x h
   ·exact hz x h
  have h1:=hh.CF (k:=.ty ek cap) hpu ⟨fB,cs,e,(0,0),l++z,hpu.new,I5 _,by simp [EX],uK,mw⟩
  refine hK _ _ _ rfl ⟨_,_,h1.put hd (av:=.s (.sl ek l.length)) (.inr ⟨w.heap.size,0,cap,cap,by rw [ZG7],by omega,by unfold xl;rw [if_pos rfl],by omega⟩) (by simp [AV.boxes,A0.boxes,SV.boxes])⟩
def ady (ex:Bool) (d:Nat) (ek:EK) (v u:AV):Q Rs:=
 match v,u with
 |.o (.s (.v (.int .i64 m))),.o (.s (.v (.int .i64 n)))=>abA ex d ek (List.replicate n.toNat (EK.zero ek)) (m=n∧0≤n∧n≤1048576) True
 |_,_=>.ret .no
theorem ah5 {ex:Bool}{ek:EK}{jL:Nat}(hf:Fits P t ek jL) (hd:d<N):fw P N ⟨some d,.makeSlice t x y,ty,pos,af,g⟩ (bZ x fun v=>bZ y fun u=>ady ex d ek v u):=by
 intro c τ a w hr hp K Q' hK
 obtain⟨T,β,hh⟩:=hr
 rw [da] at hp hK
 cases hx:ev τ x with
 |none=>rw [hx] at hp;exact hp.elim
 |some v=>
  rw [hx] at hp hK
  simp only [da] at hp hK
  cases hy:ev τ y with
  |none=>rw [hy] at hp;exact hp.elim
  |some u=>
   rw [hy] at hp hK
   simp only at hp hK
   unfold ady at hp hK
   split at hp
   ·rename_i m n
    simp only at hK
    obtain⟨e,i,z,ht,hi,hz,dj,hby,hzs⟩:=j0 hf.info
    have e1:a.eval x= .int .i64 m:=eQ hh hx
    have e2:a.eval y= .int .i64 n:=eQ hh hy
    let cs:Array Value:=(Array.range (n.toNat*ek.length)).map (fun k=>z.cells[k % z.cells.size]!)
    have mw:cs.toList=flat ek (List.replicate n.toNat (EK.zero ek)++[]):=by
     rw [ZE5];exact LZ hf.ne hzs n.toNat
    refine HU hh hd hf.ne (z:=[]) hp (fun _ x hx=>by rw [List.eq_of_mem_replicate hx];exact EK.sW ek) (by simp) mw (e:=e) (w':= { w with heap:=w.heap.push (.cells cs e (0,0)) }) ⟨rfl,rfl,rfl,rfl⟩ rfl (cap:=n.toNat) (by simp) ?_ hK
    rintro⟨rfl,h0,h1⟩
    have hb:(i.bytes:Int)*m≤281474976710656:=by
     have hs:=hf.small
     rw [hby]
     have h2:(jL:Int)*m≤1048576*1048576:=Int.mul_le_mul (by omega) h1 h0 (by omega)
     omega
    have zd:¬(m<0):=by omega
    have hw:=oS (n:=m) (by simp only [gL];omega) (by simp only [imax];omega)
    have hb':¬(281474976710656<(i.bytes:Int)*m):=by omega
    rw [ZG0]
    by_cases hz0:m.toNat*i.size=0
    ·have TN:cs=(Array.range (m.toNat*i.size)).map (fun k=>(#[]:Array Value)[k % (#[]:Array Value).size]!):=by
      have:m.toNat*ek.length=0:=by rw [←dj];exact hz0
      simp [cs,this,hz0]
     rw [TN]
     simp [execOp,e1,e2,Instr.makeSlice,run_underlying ht,asInt,asIntOf,typeInfo,hi,hw,zd,hb',sizeOf,hz0,newRow]
    ·have TN:cs=(Array.range (m.toNat*i.size)).map (fun k=>z.cells[k % z.cells.size]!):=by simp only [cs,dj]
     rw [TN]
     simp [execOp,e1,e2,Instr.makeSlice,run_underlying ht,asInt,asIntOf,typeInfo,hi,hw,zd,hb',sizeOf,hz0,newRow,zeroValue,hz]
   ·exact hp.elim
def BR (ek:EK):Nat→List (Nat×AV)→Option (List (EK.Ty ek))
 |_,[]=>some []
 |j,p::l=>match D8 p.2 with
  |some m=>bif Nat.beq p.1 j&&mh m then (match EK.ofS ek m,BR ek (j+1) l with
   |some r,some rs=>some (r::rs)
   |_,_=>none) else none
  |none=>none
def SB (ek:EK):List (EK.Ty ek)→Prop
 |[]=>True
 |x::l=>EK.ok ek x∧SB ek l
theorem CB {ek:EK}:∀{l:List (EK.Ty ek)},SB ek l→∀x∈l,EK.ok ek x
 |[],_,x,h=>by cases h
 |y::l,h,x,hx=>by
  rcases ZB8.1 hx with rfl |hx
  ·exact h.1
  ·exact CB h.2 x hx
theorem G2 {ek:EK}:∀{l:List (Nat×AV)}{j:Nat}{rs:List (EK.Ty ek)},BR ek j l=some rs→rs.length=l.length
 |[],_,rs,h=>by cases h;rfl
 |p::l,j,rs,h=>by
  simp only [BR] at h
  split at h
  ·rename_i m _
   cases hc:Nat.beq p.1 j&&mh m with
   |false=>rw [hc] at h;cases h
   |true=>
    rw [hc] at h
    simp only [cond_true] at h
    split at h
    ·rename_i r rs' _ h2
     cases h
     simp [G2 h2]
    ·cases h
  ·cases h
theorem G1 {c:Ctx}{T:bb}{β:Nat→Nat}{a:Act}{w:World}(hh:Holds N c T β τ a w) {ek:EK}:∀(parts:List (Nat×Operand)) (vs:List (Nat×AV)) (j:Nat) (rs:List (EK.Ty ek)) (cs:Array Value),evL τ parts=some vs→BR ek j vs=some rs→(j+parts.length)*ek.length≤cs.size→
  ∃ml,Instr.fill (fun i=>some (i*ek.length,ek.length)) cs (parts.map fun p=>(p.1,a.eval p.2))=some ml∧ml.toList=cs.toList.take (j*ek.length)++flat ek rs++cs.toList.drop ((j+parts.length)*ek.length)
 |[],vs,j,rs,cs,h1,h2,h3=>by
  cases h1;cases h2
  exact⟨cs,rfl,by simp [aes]⟩
 |p::parts,vs,j,rs,cs,h1,h2,h3=>by
  simp only [evL] at h1
  split at h1
  ·rename_i v hv
   split at h1
   ·rename_i vs' IX
    cases h1
    simp only [BR] at h2
    split at h2
    ·rename_i m hm
     cases hc:Nat.beq p.1 j&&mh m with
     |false=>rw [hc] at h2;cases h2
     |true=>
      rw [hc] at h2
      simp only [cond_true] at h2
      split at h2
      ·rename_i r rs' hr hrs
       cases h2
       simp only [ZA9] at hc
       have hj:p.1=j:=by simpa using hc.1
       obtain⟨c7,_⟩:=wZ hm hc.2 (eQ hh hv)
       have I3:=EK.wJ ek hr c7
       have dj:(a.eval p.2).cells.size=ek.length:=by rw [←ZE4,I3,EK.bL]
       simp only [ZA1] at h3
       have oc:j*ek.length+ek.length≤cs.size:=by
        have:(j+1)*ek.length≤(j+(parts.length+1))*ek.length:=ZG3 _ (by omega)
        rw [ZE3,Nat.one_mul] at this;omega
       obtain⟨ml,g1,g2⟩:=G1 hh parts vs' (j+1) rs' (spl cs (j*ek.length) (a.eval p.2).cells.toList) IX hrs (by
        have e:j+1+parts.length=j+(parts.length+1):=by omega
        rw [nH,e];exact h3)
       refine⟨ml,?_,?_⟩
       ·rw [ZE7,hj,C5 (place:=fun i=>some (i*ek.length,ek.length)) rfl dj oc]
        exact g1
       ·rw [g2,mG _ _ _ (by rw [I3,EK.bL];exact oc),I3,iT,EK.bL]
        have hl1:(cs.toList.take (j*ek.length)).length=j*ek.length:=by simp;omega
        have e1:(j+1)*ek.length=(cs.toList.take (j*ek.length)++EK.cells ek r).length:=by
         rw [ZA0,hl1,EK.bL,ZE3,Nat.one_mul]
        have e2:(j+1+parts.length)*ek.length=(cs.toList.take (j*ek.length)++EK.cells ek r).length+parts.length*ek.length:=by
         rw [←e1,←ZE3]
        rw [e2,e1,List.take_left',ZF5,List.drop_drop]
        ·have e3:j*ek.length+ek.length+parts.length*ek.length=(j+(parts.length+1))*ek.length:=by
          rw [ZE3 j,ZE3,Nat.one_mul];omega
         rw [e3]
         simp [ZD2]
        ·rfl
      ·cases h2
    ·cases h2
   ·cases h1
  ·cases h1
def PY (ex:Bool) (d k:Nat) (ek:EK) (vs:List (Nat×AV)):Q Rs:=
 match BR ek 0 vs with
 |some l=>bif Nat.beq l.length k&&Nat.ble (k*ek.length) 16777216 then abA ex d ek l True (SB ek l) else .ret .no
 |none=>.ret .no
theorem afj {ex:Bool}{ek:EK}{jL k:Nat}{parts:Array (Nat×Operand)}(hf:Fits P t ek jL) (hd:d<N):fw P N ⟨some d,.buildSlice t k parts,ty,pos,af,g⟩ (P0 parts.toList fun vs=>PY ex d k ek vs):=by
 intro c τ a w hr hp K Q' hK
 obtain⟨T,β,hh⟩:=hr
 rw [AI] at hp hK
 cases hx:evL τ parts.toList with
 |none=>rw [hx] at hp;exact hp.elim
 |some vs=>
  rw [hx] at hp hK
  simp only at hp hK
  unfold PY at hp hK
  split at hp
  ·rename_i l hl
   simp only [hl] at hK
   cases hc:Nat.beq l.length k&&Nat.ble (k*ek.length) 16777216 with
   |false=>rw [hc] at hp;exact hp.elim
   |true=>
    rw [hc] at hp hK
    simp only [cond_true] at hp hK
    simp only [ZA9] at hc
    have hk:l.length=k:=by simpa using hc.1
    have hle:=zqNlb hc.2
    obtain⟨e,i,z,ht,hi,hz,dj,hby,hzs⟩:=j0 hf.info
    let cs0:Array Value:=if k*i.size=0 then (Array.range (k*i.size)).map (fun k=>(#[]:Array Value)[k % (#[]:Array Value).size]!) else (Array.range (k*i.size)).map (fun k=>z.cells[k % z.cells.size]!)
    have TN:cs0.size=k*ek.length:=by simp only [cs0];split<;>simp [dj]
    have rW:parts.toList.length=k:=by
     rw [←hk,G2 hl]
     have:∀(ps:List (Nat×Operand)) (vs:List (Nat×AV)),evL τ ps=some vs→ps.length=vs.length:=by
      intro ps
      induction ps with
      |nil=>intro vs h;cases h;rfl
      |cons p ps ih=>
       intro vs h
       simp only [evL] at h
       split at h
       ·split at h
        ·rename_i vs' h';cases h;simp [ih _ h']
        ·cases h
       ·cases h
     exact this _ _ hx
    obtain⟨ml,aef,ahM⟩:=G1 hh parts.toList vs 0 l cs0 hx hl (by rw [rW,TN,ZA6];exact ZB5 _)
    have mw:ml.toList=flat ek (l++[]):=by
     rw [ahM,rW,ZG7,ZA6,List.take_zero,ZC9,List.drop_of_length_le (by simp [TN]),ZE5,ZE5]
    refine HU hh hd hf.ne (z:=[]) hp (fun h=>CB h) (by simp) mw (e:=e) (w':= { w with heap:=w.heap.push (.cells ml e (0,0)) }) ⟨rfl,rfl,rfl,rfl⟩ rfl (cap:=k) (by simp [hk]) (fun _=>?_) hK
    have h24:¬(16777216<k*i.size):=by rw [dj];omega
    have tQ:Instr.fill (fun x=>some (x*i.size,i.size)) cs0 (parts.toList.map fun p=>(p.1,a.eval p.2))=some ml:=by rw [dj];exact aef
    rw [hk]
    by_cases hz0:k*i.size=0
    ·simp only [cs0,if_pos hz0] at tQ
     simp [execOp,Instr.buildSlice,run_underlying ht,sizeOf,typeInfo,hi,h24,hz0,newRow]
     rw [hz0] at tQ
     simp at tQ
     simp [tQ]
    ·simp only [cs0,if_neg hz0] at tQ
     simp [execOp,Instr.buildSlice,run_underlying ht,sizeOf,typeInfo,hi,h24,hz0,newRow,zeroValue,hz]
     simp [tQ]
  ·exact hp.elim
end
end GL
namespace GL
section
variable {P:Program}{N:Nat}{τ:St}
variable {d:Nat}{x y z:Operand}{t u ty:TypeId}{pos:String}{af:Array Edge}{g:Option (Nat×Bool)}
def Rd (w:World) (v:Value) (ek:EK) (l:List (EK.Ty ek)):Prop:=
 (l=[]∧∃p cap,v= .slice p 0 cap)∨∃b o cap cs e fr,v= .slice (some ⟨b,o,none⟩) l.length cap∧w.heap[b]?=some (.cells cs e fr)∧win cs o (flat ek l)
theorem Rd.cells {w:World}{ek:EK}{b o:Nat}{cs:Array Value}{e:TypeId}{fr:Nat×Nat}{l:List Value}(hb:w.heap[b]?=some (.cells cs e fr)) (hw:win cs o l):∀j v,l[j]?=some v→w.cell? ((⟨b,o,none⟩:Addr).add j)=some v:=by
 intro j v hj
 rw [ga,ry hb]
 exact hw j v hj
theorem r9 {ek:EK}{jL:Nat}(hf:Fits P t ek jL) (w:World) {p p2:Option Addr}{m cap c2:Nat}(hm:m≤cap) (hp:p=none→cap=0):(Builtin.append_ #[t,t] ty #[.slice p m cap,.slice p2 0 c2]).run P w= .ok (.slice p m cap) w:=by
 obtain⟨e,i,z,ht,hi,hz,dj,hby,hzs⟩:=j0 hf.info
 have h2:(Builtin.firstCells i.size 0 (.slice p2 0 c2)).run P w= .ok #[] w:=by
  cases p2 with
  |none=>simp [Builtin.firstCells]
  |some b=>exact run_firstCells_some (P:=P) w i.size 0 b 0 c2 [] (by simp) (by simp)
 cases p with
 |none=>
  have hc:=hp rfl
  subst hc
  have CW:m=0:=by omega
  subst CW
  simp [Builtin.append_,run_underlying ht,sizeOf,typeInfo,hi,Builtin.lenOf,h2]
 |some a=>
  simp [Builtin.append_,run_underlying ht,sizeOf,typeInfo,hi,Builtin.lenOf,h2,hm,storeCells]
theorem QT {ek:EK}{jL:Nat}(hf:Fits P t ek jL) {w:World}{b o m cap:Nat}{cs:Array Value}{e':TypeId}{fr:Nat×Nat}(hb:w.heap[b]?=some (.cells cs e' fr)) (kg:free fr cs.size) {l2:List (EK.Ty ek)}{y2:Value}(h2:Rd w y2 ek l2) (fB:l2≠[]) (oc:m+l2.length≤cap) (akM:o+(m+l2.length)*ek.length≤cs.size):
  ∃w',(Builtin.append_ #[t,t] ty #[.slice (some ⟨b,o,none⟩) m cap,y2]).run P w= .ok (.slice (some ⟨b,o,none⟩) (m+l2.length) cap) w'∧P3 w b (.cells (spl cs (o+m*ek.length) (flat ek l2)) e' fr) w':=by
 obtain⟨e,i,z,ht,hi,hz,dj,hby,hzs⟩:=j0 hf.info
 rcases h2 with ⟨h,_⟩ |⟨b2,o2,c2,cs2,e2,fr2,rfl,hb2,hw2⟩
 ·exact absurd h fB
 ·have hfc:=run_firstCells_some (P:=P) w i.size l2.length ⟨b2,o2,none⟩ l2.length c2 (flat ek l2) (by rw [cA,dj]) (Rd.cells (ek:=ek) hb2 hw2)
  obtain⟨w',hst,hw⟩:=pG (P:=P) (b:=b) (off:=o+m*i.size) (flat ek l2) 0 cs w hb (by rw [cA,dj,Nat.add_zero,ZF7,←ZE3];exact akM) kg (aer ek l2)
  refine⟨w',?_,by rw [Nat.add_zero,dj] at hw;exact hw⟩
  simp [Builtin.append_,run_underlying ht,sizeOf,typeInfo,hi,Builtin.lenOf,oc,hfc,ga,hst]
theorem zo {ek:EK}{jL:Nat}(hf:Fits P t ek jL) {w:World}{p:Option Addr}{cap:Nat}{l1:List (EK.Ty ek)}(h1:(l1=[]∧(p=none→cap=0))∨∃b o cs e' fr,p=some ⟨b,o,none⟩∧w.heap[b]?=some (.cells cs e' fr)∧win cs o (flat ek l1)) {l2:List (EK.Ty ek)}{y2:Value}(h2:Rd w y2 ek l2) (fB:l2≠[]) (oc:cap<l1.length+l2.length) (hle:l1.length+l2.length≤1048576):
  ∃w' yX zz cs e',(Builtin.append_ #[t,t] ty #[.slice p l1.length cap,y2]).run P w= .ok (.slice (some ⟨w.heap.size,0,none⟩) (l1.length+l2.length) yX) w'∧oM w (.cells cs e' (0,0)) w'∧cs.toList=flat ek (l1++l2++zz)∧(∀x∈zz,EK.ok ek x)∧yX=l1.length+l2.length+zz.length:=by
 obtain⟨e,i,z,ht,hi,hz,dj,hby,hzs⟩:=j0 hf.info
 have ajv:(l1.length+l2.length)*i.bytes≤140737488355328:=by
  have hs:=hf.small
  have:(l1.length+l2.length)*i.bytes≤1048576*1048576:=Nat.mul_le_mul hle (by rw [hby];exact hs)
  omega
 have hl2:0<l2.length:=List.length_pos_iff.2 fB
 have hzz:∀k,(Builtin.zeroCells z.cells k).toList=flat ek (List.replicate k (EK.zero ek)):=fun k=>by
  have:=LZ hf.ne hzs k
  have hzl:z.cells.size=ek.length:=by rw [←ZE4,hzs,EK.bL]
  unfold Builtin.zeroCells
  rw [hzl] at this ⊢
  exact this
 rcases h2 with ⟨h,_⟩ |⟨b2,o2,c2,cs2,e2,fr2,rfl,hb2,hw2⟩
 ·exact absurd h fB
 ·have aei:=Rd.cells (ek:=ek) hb2 hw2
  have fin:∀(pa:Addr),p=some pa→(∀j v,(flat ek l1)[j]?=some v→w.cell? (pa.add j)=some v)→∃w' yX zz cs e',(Builtin.append_ #[t,t] ty #[.slice p l1.length cap,.slice (some ⟨b2,o2,none⟩) l2.length c2]).run P w= .ok (.slice (some ⟨w.heap.size,0,none⟩) (l1.length+l2.length) yX) w'∧oM w (.cells cs e' (0,0)) w'∧cs.toList=flat ek (l1++l2++zz)∧(∀x∈zz,EK.ok ek x)∧yX=l1.length+l2.length+zz.length:=by
   intro pa hpa hc1
   subst hpa
   have TL:=growslice_fits (need:=l1.length+l2.length) (old:=cap) (bytes:=i.bytes) oc ajv
   have fl:=run_append_grow (P:=P) (w:=w) t ty e i z ht hi hz pa l1.length cap (flat ek l1) (by rw [cA,dj]) hc1 ⟨b2,o2,none⟩ l2.length c2 (flat ek l2) (by rw [cA,dj]) aei oc (by omega) TL
   have EX:l1.length+l2.length≤grownCap w (l1.length+l2.length) cap e:=by unfold grownCap;simp only [Question.cut];omega
   refine⟨_,_,List.replicate (grownCap w (l1.length+l2.length) cap e-(l1.length+l2.length)) (EK.zero ek),_,e,fl,⟨rfl,rfl,rfl,rfl⟩,?_,fun x hx=>by rw [List.eq_of_mem_replicate hx];exact EK.sW ek,by rw [ZG0];omega⟩
   rw [Array.toList_append,Array.toList_append,hzz,gE,gE]
  rcases h1 with ⟨rfl,hp⟩ |⟨b,o,cs,e',fr,rfl,hb,hw⟩
  ·cases p with
   |none=>
    have hc:=hp rfl
    subst hc
    have fl:=run_append_nil (P:=P) (w:=w) t ty e i z ht hi hz ⟨b2,o2,none⟩ l2.length c2 (flat ek l2) (by rw [cA,dj]) aei hl2 (by simp at hle;omega) (by simp at ajv;omega)
    have EX:l2.length≤grownCap w l2.length 0 e:=by unfold grownCap;simp only [Question.cut];omega
    refine⟨w.drew.alloc (.cells ((flat ek l2).toArray++Builtin.zeroCells z.cells (grownCap w l2.length 0 e-l2.length)) e),grownCap w l2.length 0 e,List.replicate (grownCap w l2.length 0 e-l2.length) (EK.zero ek),_,e,by simpa using fl,⟨rfl,rfl,rfl,rfl⟩,?_,fun x hx=>by rw [List.eq_of_mem_replicate hx];exact EK.sW ek,by simp;omega⟩
    rw [Array.toList_append,hzz,ZC9,gE]
   |some pa=>exact fin pa rfl (by simp [flat])
  ·exact fin _ rfl (Rd.cells (ek:=ek) hb hw)
def agY {mB ek:EK}(h:mB=ek) (l:List (EK.Ty mB)):List (EK.Ty ek):=h ▸ l
theorem dC {ek:EK}(h:ek=ek) (l:List (EK.Ty ek)):agY h l=l:=rfl
def rI (mB ek:EK) (l:List (EK.Ty mB)):Option (List (EK.Ty ek)):=match h:EK.beq mB ek with
 |true=>some (agY (EK.eq_of_beq h) l)
 |false=>none
theorem ic {mB ek:EK}{l:List (EK.Ty mB)}{m:List (EK.Ty ek)}(h:rI mB ek l=some m):mB=ek∧HEq l m:=by
 unfold rI at h
 split at h
 ·rename_i hb
  have he:=EK.eq_of_beq hb
  subst he
  cases h
  exact⟨rfl,HEq.rfl⟩
 ·cases h
def G0 (pt:Bool) (ek:EK) (v:AV) (k:Prop→List (EK.Ty ek)→Q Rs):Q Rs:=
 match v with
 |.o (.s (.vw mB l))=>match rI mB ek l with
  |some m=>k True m
  |none=>.ret .no
 |.o (.s (.vz mB l))=>match rI mB ek l with
  |some m=>k True m
  |none=>.ret .no
 |.o (.s (.xs j sz o m))=>sU j fun
  |.rs mB l=>match rI mB ek l with
   |some l=>bif Nat.beq sz ek.length then (match pt with
    |true=>k (o+m≤l.length) ((l.drop o).take m)
    |false=>k (o=0∧m=l.length) l) else .ret .no
   |none=>.ret .no
  |_=>.ret .no
 |.o (.s (.v (.slice none 0 0)))=>k True []
 |_=>.ret .no
theorem wE {pt:Bool}{c:Ctx}{T:bb}{β:Nat→Nat}{a:Act}{w:World}(hh:Holds N c T β τ a w) {ek:EK}{v:AV}{y:Value}(hr:v.rel T β y) {k:Prop→List (EK.Ty ek)→Q Rs}(hp:((G0 pt ek v k).run τ).pre):
  ∃(p:Prop) (l:List (EK.Ty ek)),(G0 pt ek v k).run τ=(k p l).run τ∧(p→Rd w y ek l):=by
 unfold G0 at hp ⊢
 split at hp
 ·rename_i mB l
  split at hp
  ·rename_i m h
   obtain⟨rfl,hm⟩:=ic h
   cases hm
   refine⟨True,l,rfl,fun _=>?_⟩
   rcases hr with ⟨rfl,p,cap,rfl⟩ |⟨b,o,cap,cs,e,fr,h1,h2,h3,h4⟩
   ·exact .inl ⟨rfl,p,cap,rfl⟩
   ·exact .inr ⟨b,o,cap,cs,e,fr,h1,hh.typed b _ h3,h4⟩
  ·exact hp.elim
 ·rename_i mB l
  split at hp
  ·rename_i m h
   obtain⟨rfl,hm⟩:=ic h
   cases hm
   refine⟨True,l,rfl,fun _=>?_⟩
   rcases hr with ⟨rfl,p,cap,rfl⟩ |⟨b,o,cap,cs,h1,h2,h3,h4⟩
   ·exact .inl ⟨rfl,p,cap,rfl⟩
   ·obtain⟨e,fr,hb⟩:=E9 hh.typed h3
    exact .inr ⟨b,o,cap,cs,e,fr,h1,hb,h4⟩
  ·exact hp.elim
 ·rename_i j sz o m
  simp only [sU,Q.run] at hp ⊢
  cases hb:τ (.b j) with
  |none=>rw [hb] at hp;exact hp.elim
  |some av=>
   rw [hb] at hp
   simp only at hp ⊢
   split at hp
   ·rename_i mB l
    split at hp
    ·rename_i m' h
     obtain⟨rfl,hm⟩:=ic h
     cases hm
     cases hc:Nat.beq sz mB.length with
     |false=>rw [hc] at hp;exact hp.elim
     |true=>
      have dj:sz=mB.length:=by simpa using hc
      subst dj
      obtain⟨cs,te,mw,_,z,I2,_⟩:=hh.boxes j _ hb (by intro e;cases e)
      cases pt with
      |true=>
       refine⟨o+m≤l.length,(l.drop o).take m,rfl,fun hle=>?_⟩
       have hlen:((l.drop o).take m).length=m:=by simp;omega
       rcases hr with ⟨rfl,p,rfl⟩ |⟨cap,n,rfl,_⟩
       ·exact .inl ⟨by simp,p,0,rfl⟩
       ·exact .inr ⟨β j,o*mB.length,cap,cs,te,(0,0),by rw [hlen],mw,A2 I2 o m⟩
      |false=>
       refine⟨o=0∧m=l.length,l,rfl,fun hle=>?_⟩
       obtain⟨rfl,rfl⟩:=hle
       rcases hr with ⟨zd,p,rfl⟩ |⟨cap,n,rfl,_⟩
       ·exact .inl ⟨ZD4.1 zd,p,0,rfl⟩
       ·exact .inr ⟨β j,0*mB.length,cap,cs,te,(0,0),rfl,mw,by have:=A2 I2 0 l.length;simpa using this⟩
    ·exact hp.elim
   ·exact hp.elim
 ·exact⟨True,[],rfl,fun _=>.inl ⟨rfl,none,0,hr⟩⟩
 ·exact hp.elim
def yz (i d:Nat):Nat:=bif Nat.ble 1000 i&&Nat.blt i 1000000000 then 1000+d else 1000000000+d
theorem abB (i d:Nat):1000≤yz i d∧(1000000000≤yz i d∨(1000≤i∧i<1000000000)):=by
 unfold yz
 cases hc:Nat.ble 1000 i&&Nat.blt i 1000000000 with
 |false=>simp only [cond_false];omega
 |true=>
  simp only [ZA9] at hc
  have h1:=zqNlb hc.1
  have h2:i<1000000000:=zqNlb hc.2
  simp only [cond_true];omega
def aih (pt:Bool) (d:Nat) (ek:EK) (v u:AV):Q Rs:=
 match v with
 |.o (.s (.xs i sz 0 m))=>bif Nat.beq sz ek.length then sU i fun
  |.rs mB l=>match rI mB ek l with
   |some l=>G0 pt ek u fun p l2=>.ask (.b (yz i d)) fun
    |none=>.ret (.nc ((m=l.length∧l.length+l2.length≤1048576)∧p) [(.s d,.s (.xs (yz i d) ek.length 0 (l.length+l2.length))),(.b (yz i d),.rs ek (l++l2)),(.b i,.zz)])
    |some _=>.ret .no
   |none=>.ret .no
  |_=>.ret .no else .ret .no
 |.o (.s (.v (.slice none 0 0)))=>G0 pt ek u fun p l2=>.ask (.b (1000+d)) fun
  |none=>.ret (.nc ((0<l2.length∧l2.length≤1048576)∧p) [(.s d,.s (.xs (1000+d) ek.length 0 l2.length)),(.b (1000+d),.rs ek l2)])
  |some _=>.ret .no
 |_=>.ret .no
theorem KD {a:Act}{w:World}{v1 v2:Value}(h1:a.eval x=v1) (h2:a.eval y=v2) {v:Value}{w':World}(hr:(Builtin.append_ #[t,t] ty #[v1,v2]).run P w= .ok v w'):(execOp a.eval ⟨some d,.call ⟨.builtin .append,#[x,y],#[t,t]⟩,ty,pos,af,g⟩).run P w= .ok (.value v) w':=by
 simp [execOp,resolve,invoke,builtin,h1,h2,hr]
theorem aie {pt:Bool}{ek:EK}{jL:Nat}(hf:Fits P t ek jL) (hd:d<N):fw P N ⟨some d,.call ⟨.builtin .append,#[x,y],#[t,t]⟩,ty,pos,af,g⟩ (bZ x fun v=>bZ y fun u=>aih pt d ek v u):=by
 intro c τ a w hr hp K Q' hK
 obtain⟨T,β,hh⟩:=hr
 rw [da] at hp hK
 cases hx:ev τ x with
 |none=>rw [hx] at hp;exact hp.elim
 |some v=>
  rw [hx] at hp hK
  simp only [da] at hp hK
  cases hy:ev τ y with
  |none=>rw [hy] at hp;exact hp.elim
  |some u=>
   rw [hy] at hp hK
   simp only at hp hK
   have hv:=eQ hh hx
   have hu:=eQ hh hy
   unfold aih at hp hK
   split at hp
   ·rename_i i sz m
    simp only at hK
    obtain⟨ad5,ahI⟩:=abB i d
    generalize yz i d=nm at hp hK ad5 ahI
    cases hc:Nat.beq sz ek.length with
    |false=>rw [hc] at hp;exact hp.elim
    |true=>
     rw [hc] at hp hK
     simp only [cond_true,sU,Q.run] at hp hK
     have dj:sz=ek.length:=by simpa using hc
     subst dj
     cases hb:τ (.b i) with
     |none=>rw [hb] at hp;exact hp.elim
     |some av=>
      rw [hb] at hp hK
      simp only at hp hK
      split at hp
      ·rename_i mB l
       split at hp
       ·rename_i m0 h
        obtain⟨rfl,CW⟩:=ic h
        cases CW
        simp only [h] at hK
        obtain⟨p,l2,fl,hRd⟩:=wE hh hu hp
        have hp':=hp
        rw [fl] at hp'
        simp only [Q.run] at hp'
        cases hn:τ (.b nm) with
        |some _=>rw [hn] at hp';exact hp'.elim
        |none=>
         rw [hn] at hp'
         obtain⟨⟨hm,hle⟩,hpp⟩:(m=l.length∧l.length+l2.length≤1048576)∧p:=hp'
         subst hm
         have hR:=hRd hpp
         have hid:i≠nm:=fun e=>by rw [e,hn] at hb;cases hb
         have FJ:live τ i:=eE hb (by intro e;cases e)
         obtain⟨cs,te,mw,fB,zz,I2,hzz⟩:=hh.boxes i _ hb (by intro e;cases e)
         have fin:∀{w':World} {val:Value} {T':bb} {β':Nat→Nat},(Builtin.append_ #[t,t] ty #[a.eval x,a.eval y]).run P w= .ok val w'→Holds N c T' β' ((τ.ap [(.b i,.zz)]).ap [(.b nm,.rs mB (l++l2))]) a w'→(SV.xs nm mB.length 0 (l.length+l2.length)).rel T' β' val→Oper.wp P ⟨some d,.call ⟨.builtin .append,#[x,y],#[t,t]⟩,ty,pos,af,g⟩ a w K Q':=by
          intro w' val T' β' zS hh' c7
          unfold Oper.wp
          rw [KD rfl rfl zS]
          show K (a.put (some d) val) w'
          refine hK [(.s d,.s (.xs nm mB.length 0 (l.length+l2.length))),(.b nm,.rs mB (l++l2)),(.b i,.zz)] _ _ ?_ ⟨_,_,hh'.put hd (av:=.s (.xs nm mB.length 0 (l.length+l2.length))) c7 (by simp [AV.boxes,A0.boxes,SV.boxes,um])⟩
          rw [fl]
          simp only [Q.run,hn]
          rfl
         by_cases h2:l2=[]
         ·
          subst h2
          have h0:(Builtin.append_ #[t,t] ty #[a.eval x,a.eval y]).run P w= .ok (a.eval x) w:=by
           rcases hR with ⟨_,p2,c2,e2⟩ |⟨b2,o2,c2,_,_,_,e2,_⟩
           ·rcases hv with ⟨zd,p1,e1⟩ |⟨cap,n,e1,hmc,_⟩
            ·rw [e1,e2];exact r9 hf w (ZB5 _) (fun _=>rfl)
            ·rw [e1,e2];exact r9 hf w hmc (by simp)
           ·rcases hv with ⟨zd,p1,e1⟩ |⟨cap,n,e1,hmc,_⟩
            ·rw [e1,e2];exact r9 hf w (ZB5 _) (fun _=>rfl)
            ·rw [e1,e2];exact r9 hf w hmc (by simp)
          have hmv:=hh.SO (i:=i) (d:=nm) ad5 ahI hn (av:=.rs mB (l++[])) FJ mw (w':=w) ⟨mw,fun _ _=>rfl,rfl,rfl,rfl,rfl⟩ rfl ⟨fB,zz,by simpa using I2,hzz⟩ rfl
          refine fin h0 hmv ?_
          rcases hv with ⟨zd,p1,e1⟩ |⟨cap,n,e1,hmc,hT,hcn⟩
          ·exact .inl ⟨by simpa using zd,p1,e1⟩
          ·refine .inr ⟨cap,n,?_,by simpa using hmc,?_,hcn⟩
           ·rw [e1];unfold ou;rw [if_pos rfl];simp
           ·unfold ou;rw [if_pos rfl];exact hT
         ·rcases hv with ⟨zd,p1,e1⟩ |⟨cap,n,e1,hmc,hT,hcn⟩
          ·
           have hl:l=[]:=ZD4.1 zd
           subst hl
           obtain⟨w',yX,z',ml,e',zS,hpu,TK,hz',D7⟩:=zo (ty:=ty) hf (p:=p1) (cap:=0) (l1:=[]) (.inl ⟨rfl,fun _=>rfl⟩) hR h2 (by have:=List.length_pos_iff.2 h2;simpa using this) (by simpa using hle)
           have h3:=(hh.kill (i:=i)).tF (d:=nm) ad5 (by rw [um,if_neg (by simp;exact fun h=>hid h.symm)];exact hn) (av:=.rs mB ([]++l2)) hpu ⟨fB,z',TK,hz'⟩ (by simp [AV.boxes])
           refine fin (by rw [e1];exact zS) h3 (.inr ⟨yX,ml.size,?_,by rw [D7];omega,?_,?_⟩)
           ·unfold ou;rw [if_pos rfl,ZG7]
           ·unfold ou xl;rw [if_pos rfl,if_pos rfl]
           ·rw [←ZE4,TK,cA];simp [D7]
          ·rw [ZG7] at e1
           have hnn:=hh.YQ hT mw
           by_cases oc:l.length+l2.length≤cap
           ·
            have EX:(l.length+l2.length)*mB.length≤cap*mB.length:=ZG3 _ oc
            rw [ZA6] at hcn
            obtain⟨w',zS,hw⟩:=QT (ty:=ty) hf (b:=β i) (o:=0) (m:=l.length) (cap:=cap) mw (I5 _) hR h2 oc (by rw [ZA6];omega)
            rw [ZA6] at hw
            have hzl:(l++zz).length*mB.length=cs.size:=by rw [←cA,←I2,ZE4]
            have al5:l2.length≤zz.length:=by
             have h1:(l.length+l2.length)*mB.length≤(l++zz).length*mB.length:=by omega
             have h2:=Nat.le_of_mul_le_mul_right h1 (List.length_pos_iff.2 fB)
             simp at h2;omega
            have akN:(spl cs (l.length*mB.length) (flat mB l2)).toList=flat mB (l++l2++zz.drop l2.length):=by
             have e2:(l++zz).take l.length=l:=by simp
             have e3:(l++zz).drop (l.length+l2.length)=zz.drop l2.length:=by rw [ZF5]
             rw [mG _ _ _ (by rw [cA,←ZE3];omega),I2,cA,←ZE3,na,pn,e2,e3,gE,gE]
            have hmv:=hh.SO (i:=i) (d:=nm) ad5 ahI hn (av:=.rs mB (l++l2)) FJ mw hw (nH _ _ _) ⟨fB,zz.drop l2.length,akN,fun x hx=>hzz x (ZF2 hx)⟩ rfl
            refine fin (by rw [e1];exact zS) hmv (.inr ⟨cap,n,?_,oc,?_,by rw [ZA6];exact hcn⟩)
            ·unfold ou;rw [if_pos rfl,ZG7]
            ·unfold ou;rw [if_pos rfl];exact hT
           ·obtain⟨w',yX,z',ml,e',zS,hpu,TK,hz',D7⟩:=zo (ty:=ty) hf (p:=some ⟨β i,0,none⟩) (cap:=cap) (l1:=l) (.inr ⟨β i,0,cs,te,(0,0),rfl,mw,UN I2⟩) hR h2 (by omega) hle
            have h3:=(hh.kill (i:=i)).tF (d:=nm) ad5 (by rw [um,if_neg (by simp;exact fun h=>hid h.symm)];exact hn) (av:=.rs mB (l++l2)) hpu ⟨fB,z',TK,hz'⟩ (by simp [AV.boxes])
            refine fin (by rw [e1];exact zS) h3 (.inr ⟨yX,ml.size,?_,by rw [D7];omega,?_,?_⟩)
            ·unfold ou;rw [if_pos rfl,ZG7]
            ·unfold ou xl;rw [if_pos rfl,if_pos rfl]
            ·rw [←ZE4,TK,cA];simp [D7,ZF7]
       ·exact hp.elim
      ·exact hp.elim
   ·simp only at hK
    obtain⟨p,l2,fl,hRd⟩:=wE hh hu hp
    have hp':=hp
    rw [fl] at hp' hK
    simp only [Q.run] at hp' hK
    cases hn:τ (.b (1000+d)) with
    |some _=>rw [hn] at hp';exact hp'.elim
    |none=>
     rw [hn] at hp' hK
     obtain⟨⟨hm,hle⟩,hpp⟩:(0<l2.length∧l2.length≤1048576)∧p:=hp'
     have hR:=hRd hpp
     have e1:a.eval x= .slice none 0 0:=hv
     obtain⟨w',yX,z',ml,e',zS,hpu,TK,hz',D7⟩:=zo (ty:=ty) hf (p:=none) (cap:=0) (l1:=[]) (.inl ⟨rfl,fun _=>rfl⟩) hR (List.length_pos_iff.1 hm) (by simpa using hm) (by simpa using hle)
     have h3:=hh.tF (d:=1000+d) (by omega) hn (av:=.rs ek l2) hpu ⟨hf.ne,z',by simpa using TK,hz'⟩ (by simp [AV.boxes])
     unfold Oper.wp
     rw [KD (x:=x) (y:=y) e1 rfl zS]
     refine hK _ _ _ rfl ⟨_,_,h3.put hd (av:=.s (.xs (1000+d) ek.length 0 l2.length)) (.inr ⟨yX,ml.size,?_,by rw [D7];simp,?_,?_⟩) (by simp [AV.boxes,A0.boxes,SV.boxes,um])⟩
     ·unfold ou;rw [if_pos rfl,ZG7];simp
     ·unfold ou xl;rw [if_pos rfl,if_pos rfl]
     ·rw [←ZE4,TK,cA];simp [D7]
   ·exact hp.elim
end
end GL
end Go.Proofs.YtkgpljpmdkflmaaGreatDoor
