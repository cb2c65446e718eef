/- A drawn law returns true for every code (its row lists package variables, tied by the card): part 9. -/
import Derived.Laws.Append
import Derived.Laws.BytesString
import Derived.Laws.MakeOwn
import Derived.Test.YtnkbdhldiinfdaaGreatDoorPah
set_option maxHeartbeats 20000000
set_option maxRecDepth 100000
set_option linter.all false
namespace Go.Proofs.YtnkbdhldiinfdaaGreatDoor
namespace GL
section
variable {P:Program}{N:Nat}{τ:St}
variable {d:Nat}{x y z:Operand}{t u ty:TypeId}{pos:String}{af:Array Edge}{g:Option (Nat×Bool)}
def P2 (l:List (Nat×Operand)) (k:List (Nat×AV)→Q Rs):Q Rs:=
 match l with
 |[]=>k []
 |p::l=>bY p.2 fun v=>P2 l fun vs=>k ((p.1,v)::vs)
def evL (τ:St):List (Nat×Operand)→Option (List (Nat×AV))
 |[]=>some []
 |p::l=>match ev τ p.2 with
  |some v=>match evL τ l with
   |some vs=>some ((p.1,v)::vs)
   |none=>none
  |none=>none
theorem AI (τ:St):∀(l:List (Nat×Operand)) (k:List (Nat×AV)→Q Rs),(P2 l k).run τ=match evL τ l with
  |some v=>(k v).run τ
  |none=>.no
 |[],k=>rfl
 |p::l,k=>by
  simp only [P2,c8,evL]
  cases ev τ p.2 with
  |none=>rfl
  |some v=>
   simp only [AI τ l]
   cases evL τ l<;>rfl
theorem abY (vs:List Value):∀(off k:Nat) (cs:Array Value),(vs.zipIdx k).foldl (fun cs (p:Value×Nat)=>cs.setIfInBounds (off+p.2) p.1) cs=spl cs (off+k) vs:=by
 induction vs with
 |nil=>intro off k cs;rfl
 |cons v vs ih=>
  intro off k cs
  simp only [List.zipIdx_cons,List.foldl_cons,spl]
  rw [ih off (k+1)]
  rfl
theorem C4 {place:Nat→Option (Nat×Nat)}{i off size:Nat}{v:Value}{rest:List (Nat×Value)}{cs:Array Value}(hp:place i=some (off,size)) (hs:v.cells.size=size) (hle:off+size≤cs.size):
  Instr.fill place cs ((i,v)::rest)=Instr.fill place (spl cs off v.cells.toList) rest:=by
 have aju:v.cells.zipIdx.foldl (fun cs (p:Value×Nat)=>cs.setIfInBounds (off+p.2) p.1) cs=spl cs off v.cells.toList:=by
  rw [←Array.foldl_toList,Array.toList_zipIdx]
  exact abY _ _ 0 _
 have uy:¬(v.cells.size≠size∨off+v.cells.size>cs.size):=by omega
 simp only [Instr.fill,hp]
 rw [if_neg (by simpa using uy),aju]
def afk (P:Program) (t:TypeId):Option (List (Nat×Nat)×List Value):=
 match P.info? t,P.underlying t with
 |some it,some (.struct fs)=>match it.zero,fs.toList.mapM (fun f=>(P.info? f.type).map fun i=>(f.offset,i.size)) with
  |some z,some places=>some (places,z.cells.toList)
  |_,_=>none
 |_,_=>none
def Z4 (places:List (Nat×Nat)) (l:List SV):List (Nat×AV)→Option (List SV)
 |[]=>some l
 |p::rest=>match places[p.1]?,D7 p.2 with
  |some (off,size),some m=>bif (Nat.beq m.length size&&Nat.ble (off+size) l.length)&&me m then Z4 places (xk l off m) rest else none
  |_,_=>none
theorem MX {c:Ctx}{T:bb}{β:Nat→Nat}{a:Act}{w:World}(hh:Holds N c T β τ a w) {places:List (Nat×Nat)}:∀(parts:List (Nat×Operand)) (vs:List (Nat×AV)) (l l':List SV) (cs:Array Value),evL τ parts=some vs→Z4 places l vs=some l'→dN T β l cs.toList→(∀i∈cc l,τ (.b i)≠none)→
  ∃mg,Instr.fill (places.toArray[·]?) cs (parts.map fun p=>(p.1,a.eval p.2))=some mg∧dN T β l' mg.toList∧∀i∈cc l',τ (.b i)≠none
 |[],vs,l,l',cs,h1,h2,h3,h4=>by
  cases h1;cases h2
  exact⟨cs,rfl,h3,h4⟩
 |p::parts,vs,l,l',cs,h1,h2,h3,h4=>by
  simp only [evL] at h1
  split at h1
  ·rename_i v hv
   split at h1
   ·rename_i vs' IY
    cases h1
    simp only [Z4] at h2
    split at h2
    ·rename_i off size m rT hm
     cases hc:(Nat.beq m.length size&&Nat.ble (off+size) l.length)&&me m with
     |false=>rw [hc] at h2;cases h2
     |true=>
      rw [hc] at h2
      simp only [ZA9] at hc
      have hms:m.length=size:=by simpa using hc.1.1
      have hle:=zqNlb hc.1.2
      obtain⟨c6,_⟩:=wW hm hc.2 (eP hh hv)
      have hml:=jj c6
      have hll:=jj h3
      have dj:(a.eval p.2).cells.size=size:=by rw [←hms,hml];simp
      obtain⟨mg,g1,g2,g3⟩:=MX hh parts vs' (xk l off m) l' (spl cs off (a.eval p.2).cells.toList) IY h2 (RD l cs off c6 h3) (fun i hi=>by
       rcases GG m l off hi with h |h
       ·exact h4 i h
       ·exact gY hh hv i (vI hm h))
      refine⟨mg,?_,g2,g3⟩
      have akW:places.toArray[p.1]?=some (off,size):=by simpa using rT
      rw [ZE7,C4 (place:=(places.toArray[·]?)) akW dj (by simp at hll;omega)]
      exact g1
    ·cases h2
   ·cases h1
  ·cases h1
def X7 (places:List (Nat×Nat)) (zs:List Value) (vs:List (Nat×AV)):V1:=
 match Z4 places (uF zs) vs with
 |some l=>.go (.a l)
 |none=>.no
theorem agr {places:List (Nat×Nat)}{zs:List Value}{parts:Array (Nat×Operand)}(hb:afk P t=some (places,zs)) (hd:d<N):fv P N ⟨some d,.build t parts,ty,pos,af,g⟩ (P2 parts.toList fun vs=>.ret ((X7 places zs vs).rs d)):=by
 intro c τ a w hr hp K Q' hK
 obtain⟨T,β,hh⟩:=hr
 rw [AI] at hp hK
 cases hx:evL τ parts.toList with
 |none=>rw [hx] at hp;exact hp.elim
 |some vs=>
  rw [hx] at hp hK
  refine V1.put hh hd hp rfl (fun r hr=>?_) hK
  unfold X7 at hr
  split at hr
  ·rename_i l hl
   cases hr
   unfold afk at hb
   split at hb
   ·rename_i it fs hi hu
    split at hb
    ·rename_i z pl hz rT
     cases hb
     obtain⟨mg,h1,h2,h3⟩:=MX hh parts.toList vs _ l z.cells hx hl (by rw [show z.cells.toList=z.cells.toList from rfl];exact HZ _) (by rw [yA];simp)
     refine⟨h3,.agg mg,?_,mg,rfl,h2⟩
     have ahW:P.built t (parts.map fun p=>(p.1,a.eval p.2)).toList=some mg:=by
      unfold Program.built
      rw [hi,hu]
      simp only [hz,rT]
      simpa using h1
     have:=run_build (P:=P) w t _ mg ahW
     simp [execOp,this]
    ·cases hb
   ·cases hb
  ·exact hr.elim
def vO (P:Program) (t:TypeId):Option (Nat×Nat×List Value):=
 match P.underlying t with
 |some (.slice e)=>match P.info? e with
  |some i=>match i.zero with
   |some z=>some (i.size,i.bytes,z.cells.toList)
   |none=>none
  |none=>none
 |_=>none
theorem jY {sz jK:Nat}{zs:List Value}(h:vO P t=some (sz,jK,zs)):∃e i z,P.underlying t=some (.slice e)∧P.info? e=some i∧i.zero=some z∧i.size=sz∧i.bytes=jK∧z.cells.toList=zs:=by
 unfold vO at h
 split at h
 ·rename_i e he
  split at h
  ·rename_i i hi
   split at h
   ·rename_i z hz
    cases h
    exact⟨e,i,z,he,hi,hz,rfl,rfl,rfl⟩
   ·cases h
  ·cases h
 ·cases h
structure Fits (P:Program) (t:TypeId) (ek:EK) (jK:Nat):Prop where
 info:vO P t=some (ek.length,jK,EK.cells ek (EK.zero ek))
 ne:ek≠[]
 small:jK≤1048576
theorem CP.sT (c:CP):c.ok c.zero:=by
 cases c<;>simp [CP.ok,CP.zero]
theorem EK.sT:∀ek:List CP,EK.ok ek (EK.zero ek)
 |[]=>trivial
 |[c]=>c.sT
 |c::d::l=>⟨c.sT,EK.sT (d::l)⟩
theorem Fits.sh {ek:EK}{jK:Nat}(h:Fits P t ek jK):rL P t=some ek.length:=by
 obtain⟨e,i,z,h1,h2,h3,h4,_⟩:=jY h.info
 simp [rL,h1,h2,h4]
theorem L1 {ek:EK}(fA:ek≠[]) {z:Array Value}(hz:z.toList=EK.cells ek (EK.zero ek)):∀n:Nat,((Array.range (n*ek.length)).map (fun i=>z[i % z.size]!)).toList=flat ek (List.replicate n (EK.zero ek)):=by
 intro n
 have oU:0<ek.length:=List.length_pos_iff.2 fA
 have hzs:z.size=ek.length:=by rw [←ZE4,hz,EK.bK]
 apply List.ext_getElem?
 intro i
 by_cases hi:i<n*ek.length
 ·have hk:i / ek.length<n:=Nat.div_lt_of_lt_mul (by rwa [Nat.mul_comm])
  have hj:i % ek.length<ek.length:=Nat.mod_lt _ oU
  have h1:=TY ek (List.replicate n (EK.zero ek)) (i / ek.length) (i % ek.length) (EK.zero ek) (by simp [hk]) hj
  have CX:i / ek.length*ek.length+i % ek.length=i:=by rw [Nat.mul_comm];exact Nat.div_add_mod i ek.length
  rw [CX] at h1
  rw [h1,←hz]
  have h2:z.toList[i % ek.length]?=some z[i % ek.length]!:=by
   simp [Array.getElem!_eq_getD,ZE8,hzs,hj]
  rw [h2]
  simp [hi,hzs]
 ·rw [ZD8 (by simp;omega),ZD8 (by rw [cA];simp;omega)]
def abD (ex:Bool) (d:Nat) (ek:EK) (l:List (EK.Ty ek)) (p:Prop) (pt:Prop):Q Rs:=
 match ex with
 |true=>.ask (.b (1000+d)) fun
  |none=>.ret (.mZ p [(.s d,.s (.xs (1000+d) ek.length 0 l.length)),(.b (1000+d),.rs ek l)])
  |some _=>.ret .no
 |false=>.ret (.mZ (p∧pt) [(.s d,.s (.sl ek l.length))])
theorem HV {c:Ctx}{T:bb}{β:Nat→Nat}{a:Act}{w w':World}(hh:Holds N c T β τ a w) (hd:d<N) {ex:Bool}{ek:EK}(fA:ek≠[]) {l z:List (EK.Ty ek)}{p pt:Prop}(hp:((abD ex d ek l p pt).run τ).pre) (hpt:pt→∀x∈l,EK.ok ek x) (hz:∀x∈z,EK.ok ek x)
  {cs:Array Value} {e:TypeId} (mq:cs.toList=flat ek (l++z)) (hpu:oK w (.cells cs e (0,0)) w') {o:Oper} (ho:o.dst=some d) {cap:Nat} (EY:cap=l.length+z.length) (hex:p→(execOp a.eval o).run P w= .ok (.value (.slice (some ⟨w.heap.size,0,none⟩) l.length cap)) w')
  {K:Act→World→Prop} {Q':Exit→Act→World→Prop} (hK:∀u a' w',((abD ex d ek l p pt).run τ).out u→Rel N c (τ.ap u) a' w'→K a' w'):o.wp P a w K Q':=by
 have dj:cs.size=cap*ek.length:=by rw [←ZE4,mq,cA,EY,ZA0]
 cases ex with
 |true=>
  simp only [abD,Q.run] at hp hK
  cases hn:τ (.b (1000+d)) with
  |some v=>rw [hn] at hp;exact hp.elim
  |none=>
   rw [hn] at hp hK
   have hp':p:=hp
   unfold Oper.wp
   rw [hex hp']
   show K (a.put o.dst _) w'
   rw [ho]
   have h1:=hh.tD (d:=1000+d) (by omega) hn (av:=.rs ek l) (cs:=cs) (e:=e) hpu ⟨fA,z,mq,hz⟩ (by simp [AV.boxes])
   refine hK _ _ _ rfl ⟨_,_,h1.put hd (av:=.s (.xs (1000+d) ek.length 0 l.length)) (.inr ⟨cap,cs.size,?_,by omega,?_,by rw [ZA6,dj];exact ZB5 _⟩) (by simp [AV.boxes,A0.boxes,SV.boxes,uj])⟩
   ·show _=Value.slice (some ⟨oo β (1000+d) w.heap.size (1000+d),0*ek.length,none⟩) _ _
    unfold oo;rw [if_pos rfl,ZH0]
   ·unfold oo xi;rw [if_pos rfl,if_pos rfl]
 |false=>
  simp only [abD,Q.run] at hp hK
  obtain⟨hp1,hp2⟩:p∧pt:=hp
  unfold Oper.wp
  rw [hex hp1]
  show K (a.put o.dst _) w'
  rw [ho]
  have uH:∀x∈l++z,EK.ok ek x:=fun x hx=>by
   rcases ZB4.1 hx with h |h
   ·exact hpt hp2 x h
   ·exact hz x h
  have h1:=hh.CF (k:=.ty ek cap) hpu ⟨fA,cs,e,(0,0),l++z,hpu.new,I6 _,by simp [EY],uH,mq⟩
  refine hK _ _ _ rfl ⟨_,_,h1.put hd (av:=.s (.sl ek l.length)) (.inr ⟨w.heap.size,0,cap,cap,by rw [ZH0],by omega,by unfold xi;rw [if_pos rfl],by omega⟩) (by simp [AV.boxes,A0.boxes,SV.boxes])⟩
def adC (ex:Bool) (d:Nat) (ek:EK) (v u:AV):Q Rs:=
 match v,u with
 |.o (.s (.v (.int .i64 m))),.o (.s (.v (.int .i64 n)))=>abD ex d ek (List.replicate n.toNat (EK.zero ek)) (m=n∧0≤n∧n≤1048576) True
 |_,_=>.ret .no
theorem aid {ex:Bool}{ek:EK}{jK:Nat}(hf:Fits P t ek jK) (hd:d<N):fv P N ⟨some d,.makeSlice t x y,ty,pos,af,g⟩ (bY x fun v=>bY y fun u=>adC ex d ek v u):=by
 intro c τ a w hr hp K Q' hK
 obtain⟨T,β,hh⟩:=hr
 rw [c8] at hp hK
 cases hx:ev τ x with
 |none=>rw [hx] at hp;exact hp.elim
 |some v=>
  rw [hx] at hp hK
  simp only [c8] at hp hK
  cases hy:ev τ y with
  |none=>rw [hy] at hp;exact hp.elim
  |some u=>
   rw [hy] at hp hK
   simp only at hp hK
   unfold adC at hp hK
   split at hp
   ·rename_i m n
    simp only at hK
    obtain⟨e,i,z,ht,hi,hz,dj,hby,hzs⟩:=jY hf.info
    have e1:a.eval x= .int .i64 m:=eP hh hx
    have e2:a.eval y= .int .i64 n:=eP hh hy
    let cs:Array Value:=(Array.range (n.toNat*ek.length)).map (fun k=>z.cells[k % z.cells.size]!)
    have mq:cs.toList=flat ek (List.replicate n.toNat (EK.zero ek)++[]):=by
     rw [ZE5];exact L1 hf.ne hzs n.toNat
    refine HV hh hd hf.ne (z:=[]) hp (fun _ x hx=>by rw [List.eq_of_mem_replicate hx];exact EK.sT ek) (by simp) mq (e:=e) (w':= { w with heap:=w.heap.push (.cells cs e (0,0)) }) ⟨rfl,rfl,rfl,rfl⟩ rfl (cap:=n.toNat) (by simp) ?_ hK
    rintro⟨rfl,h0,h1⟩
    have hb:(i.bytes:Int)*m≤281474976710656:=by
     have hs:=hf.small
     rw [hby]
     have h2:(jK:Int)*m≤1048576*1048576:=Int.mul_le_mul (by omega) h1 h0 (by omega)
     omega
    have za:¬(m<0):=by omega
    have hw:=oQ (n:=m) (by simp only [gK];omega) (by simp only [imax];omega)
    have hb':¬(281474976710656<(i.bytes:Int)*m):=by omega
    rw [ZG2]
    by_cases hz0:m.toNat*i.size=0
    ·have TQ:cs=(Array.range (m.toNat*i.size)).map (fun k=>(#[]:Array Value)[k % (#[]:Array Value).size]!):=by
      have:m.toNat*ek.length=0:=by rw [←dj];exact hz0
      simp [cs,this,hz0]
     rw [TQ]
     simp [execOp,e1,e2,Instr.makeSlice,run_underlying ht,asInt,asIntOf,typeInfo,hi,hw,za,hb',sizeOf,hz0,newRow]
    ·have TQ:cs=(Array.range (m.toNat*i.size)).map (fun k=>z.cells[k % z.cells.size]!):=by simp only [cs,dj]
     rw [TQ]
     simp [execOp,e1,e2,Instr.makeSlice,run_underlying ht,asInt,asIntOf,typeInfo,hi,hw,za,hb',sizeOf,hz0,newRow,zeroValue,hz]
   ·exact hp.elim
def BR (ek:EK):Nat→List (Nat×AV)→Option (List (EK.Ty ek))
 |_,[]=>some []
 |j,p::l=>match D7 p.2 with
  |some m=>bif Nat.beq p.1 j&&me m then (match EK.ofS ek m,BR ek (j+1) l with
   |some r,some rs=>some (r::rs)
   |_,_=>none) else none
  |none=>none
def SE (ek:EK):List (EK.Ty ek)→Prop
 |[]=>True
 |x::l=>EK.ok ek x∧SE ek l
theorem CB {ek:EK}:∀{l:List (EK.Ty ek)},SE ek l→∀x∈l,EK.ok ek x
 |[],_,x,h=>by cases h
 |y::l,h,x,hx=>by
  rcases ZB8.1 hx with rfl |hx
  ·exact h.1
  ·exact CB h.2 x hx
theorem G3 {ek:EK}:∀{l:List (Nat×AV)}{j:Nat}{rs:List (EK.Ty ek)},BR ek j l=some rs→rs.length=l.length
 |[],_,rs,h=>by cases h;rfl
 |p::l,j,rs,h=>by
  simp only [BR] at h
  split at h
  ·rename_i m _
   cases hc:Nat.beq p.1 j&&me m with
   |false=>rw [hc] at h;cases h
   |true=>
    rw [hc] at h
    simp only [cond_true] at h
    split at h
    ·rename_i r rs' _ h2
     cases h
     simp [G3 h2]
    ·cases h
  ·cases h
theorem G2 {c:Ctx}{T:bb}{β:Nat→Nat}{a:Act}{w:World}(hh:Holds N c T β τ a w) {ek:EK}:∀(parts:List (Nat×Operand)) (vs:List (Nat×AV)) (j:Nat) (rs:List (EK.Ty ek)) (cs:Array Value),evL τ parts=some vs→BR ek j vs=some rs→(j+parts.length)*ek.length≤cs.size→
  ∃mg,Instr.fill (fun i=>some (i*ek.length,ek.length)) cs (parts.map fun p=>(p.1,a.eval p.2))=some mg∧mg.toList=cs.toList.take (j*ek.length)++flat ek rs++cs.toList.drop ((j+parts.length)*ek.length)
 |[],vs,j,rs,cs,h1,h2,h3=>by
  cases h1;cases h2
  exact⟨cs,rfl,by simp [aew]⟩
 |p::parts,vs,j,rs,cs,h1,h2,h3=>by
  simp only [evL] at h1
  split at h1
  ·rename_i v hv
   split at h1
   ·rename_i vs' IY
    cases h1
    simp only [BR] at h2
    split at h2
    ·rename_i m hm
     cases hc:Nat.beq p.1 j&&me m with
     |false=>rw [hc] at h2;cases h2
     |true=>
      rw [hc] at h2
      simp only [cond_true] at h2
      split at h2
      ·rename_i r rs' hr hrs
       cases h2
       simp only [ZA9] at hc
       have hj:p.1=j:=by simpa using hc.1
       obtain⟨c6,_⟩:=wW hm hc.2 (eP hh hv)
       have I4:=EK.wG ek hr c6
       have dj:(a.eval p.2).cells.size=ek.length:=by rw [←ZE4,I4,EK.bK]
       simp only [ZA1] at h3
       have n0:j*ek.length+ek.length≤cs.size:=by
        have:(j+1)*ek.length≤(j+(parts.length+1))*ek.length:=ZG6 _ (by omega)
        rw [ZE3,Nat.one_mul] at this;omega
       obtain⟨mg,g1,g2⟩:=G2 hh parts vs' (j+1) rs' (spl cs (j*ek.length) (a.eval p.2).cells.toList) IY hrs (by
        have e:j+1+parts.length=j+(parts.length+1):=by omega
        rw [nE,e];exact h3)
       refine⟨mg,?_,?_⟩
       ·rw [ZE7,hj,C4 (place:=fun i=>some (i*ek.length,ek.length)) rfl dj n0]
        exact g1
       ·rw [g2,mD _ _ _ (by rw [I4,EK.bK];exact n0),I4,iS,EK.bK]
        have hl1:(cs.toList.take (j*ek.length)).length=j*ek.length:=by simp;omega
        have e1:(j+1)*ek.length=(cs.toList.take (j*ek.length)++EK.cells ek r).length:=by
         rw [ZA0,hl1,EK.bK,ZE3,Nat.one_mul]
        have e2:(j+1+parts.length)*ek.length=(cs.toList.take (j*ek.length)++EK.cells ek r).length+parts.length*ek.length:=by
         rw [←e1,←ZE3]
        rw [e2,e1,List.take_left',ZF5,ZF9]
        ·have e3:j*ek.length+ek.length+parts.length*ek.length=(j+(parts.length+1))*ek.length:=by
          rw [ZE3 j,ZE3,Nat.one_mul];omega
         rw [e3]
         simp [ZD2]
        ·rfl
      ·cases h2
    ·cases h2
   ·cases h1
  ·cases h1
def P0 (ex:Bool) (d k:Nat) (ek:EK) (vs:List (Nat×AV)):Q Rs:=
 match BR ek 0 vs with
 |some l=>bif Nat.beq l.length k&&Nat.ble (k*ek.length) 16777216 then abD ex d ek l True (SE ek l) else .ret .no
 |none=>.ret .no
theorem afp {ex:Bool}{ek:EK}{jK k:Nat}{parts:Array (Nat×Operand)}(hf:Fits P t ek jK) (hd:d<N):fv P N ⟨some d,.buildSlice t k parts,ty,pos,af,g⟩ (P2 parts.toList fun vs=>P0 ex d k ek vs):=by
 intro c τ a w hr hp K Q' hK
 obtain⟨T,β,hh⟩:=hr
 rw [AI] at hp hK
 cases hx:evL τ parts.toList with
 |none=>rw [hx] at hp;exact hp.elim
 |some vs=>
  rw [hx] at hp hK
  simp only at hp hK
  unfold P0 at hp hK
  split at hp
  ·rename_i l hl
   simp only [hl] at hK
   cases hc:Nat.beq l.length k&&Nat.ble (k*ek.length) 16777216 with
   |false=>rw [hc] at hp;exact hp.elim
   |true=>
    rw [hc] at hp hK
    simp only [cond_true] at hp hK
    simp only [ZA9] at hc
    have hk:l.length=k:=by simpa using hc.1
    have hle:=zqNlb hc.2
    obtain⟨e,i,z,ht,hi,hz,dj,hby,hzs⟩:=jY hf.info
    let cs0:Array Value:=if k*i.size=0 then (Array.range (k*i.size)).map (fun k=>(#[]:Array Value)[k % (#[]:Array Value).size]!) else (Array.range (k*i.size)).map (fun k=>z.cells[k % z.cells.size]!)
    have TQ:cs0.size=k*ek.length:=by simp only [cs0];split<;>simp [dj]
    have rT:parts.toList.length=k:=by
     rw [←hk,G3 hl]
     have:∀(ps:List (Nat×Operand)) (vs:List (Nat×AV)),evL τ ps=some vs→ps.length=vs.length:=by
      intro ps
      induction ps with
      |nil=>intro vs h;cases h;rfl
      |cons p ps ih=>
       intro vs h
       simp only [evL] at h
       split at h
       ·split at h
        ·rename_i vs' h';cases h;simp [ih _ h']
        ·cases h
       ·cases h
     exact this _ _ hx
    obtain⟨mg,aej,ahU⟩:=G2 hh parts.toList vs 0 l cs0 hx hl (by rw [rT,TQ,ZA6];exact ZB5 _)
    have mq:mg.toList=flat ek (l++[]):=by
     rw [ahU,rT,ZH0,ZA6,List.take_zero,ZD0,List.drop_of_length_le (by simp [TQ]),ZE5,ZE5]
    refine HV hh hd hf.ne (z:=[]) hp (fun h=>CB h) (by simp) mq (e:=e) (w':= { w with heap:=w.heap.push (.cells mg e (0,0)) }) ⟨rfl,rfl,rfl,rfl⟩ rfl (cap:=k) (by simp [hk]) (fun _=>?_) hK
    have h24:¬(16777216<k*i.size):=by rw [dj];omega
    have tO:Instr.fill (fun x=>some (x*i.size,i.size)) cs0 (parts.toList.map fun p=>(p.1,a.eval p.2))=some mg:=by rw [dj];exact aej
    rw [hk]
    by_cases hz0:k*i.size=0
    ·simp only [cs0,if_pos hz0] at tO
     simp [execOp,Instr.buildSlice,run_underlying ht,sizeOf,typeInfo,hi,h24,hz0,newRow]
     rw [hz0] at tO
     simp at tO
     simp [tO]
    ·simp only [cs0,if_neg hz0] at tO
     simp [execOp,Instr.buildSlice,run_underlying ht,sizeOf,typeInfo,hi,h24,hz0,newRow,zeroValue,hz]
     simp [tO]
  ·exact hp.elim
end
end GL
namespace GL
section
variable {P:Program}{N:Nat}{τ:St}
variable {d:Nat}{x y z:Operand}{t u ty:TypeId}{pos:String}{af:Array Edge}{g:Option (Nat×Bool)}
def Rd (w:World) (v:Value) (ek:EK) (l:List (EK.Ty ek)):Prop:=
 (l=[]∧∃p cap,v= .slice p 0 cap)∨∃b o cap cs e fr,v= .slice (some ⟨b,o,none⟩) l.length cap∧w.heap[b]?=some (.cells cs e fr)∧win cs o (flat ek l)
theorem Rd.cells {w:World}{ek:EK}{b o:Nat}{cs:Array Value}{e:TypeId}{fr:Nat×Nat}{l:List Value}(hb:w.heap[b]?=some (.cells cs e fr)) (hw:win cs o l):∀j v,l[j]?=some v→w.cell? ((⟨b,o,none⟩:Addr).add j)=some v:=by
 intro j v hj
 rw [ga,rr hb]
 exact hw j v hj
theorem r6 {ek:EK}{jK:Nat}(hf:Fits P t ek jK) (w:World) {p p2:Option Addr}{m cap c2:Nat}(hm:m≤cap) (hp:p=none→cap=0):(Builtin.append_ #[t,t] ty #[.slice p m cap,.slice p2 0 c2]).run P w= .ok (.slice p m cap) w:=by
 obtain⟨e,i,z,ht,hi,hz,dj,hby,hzs⟩:=jY hf.info
 have h2:(Builtin.firstCells i.size 0 (.slice p2 0 c2)).run P w= .ok #[] w:=by
  cases p2 with
  |none=>simp [Builtin.firstCells]
  |some b=>exact run_firstCells_some (P:=P) w i.size 0 b 0 c2 [] (by simp) (by simp)
 cases p with
 |none=>
  have hc:=hp rfl
  subst hc
  have xB:m=0:=by omega
  subst xB
  simp [Builtin.append_,run_underlying ht,sizeOf,typeInfo,hi,Builtin.lenOf,h2]
 |some a=>
  simp [Builtin.append_,run_underlying ht,sizeOf,typeInfo,hi,Builtin.lenOf,h2,hm,storeCells]
theorem QV {ek:EK}{jK:Nat}(hf:Fits P t ek jK) {w:World}{b o m cap:Nat}{cs:Array Value}{e':TypeId}{fr:Nat×Nat}(hb:w.heap[b]?=some (.cells cs e' fr)) (ke:free fr cs.size) {l2:List (EK.Ty ek)}{y2:Value}(h2:Rd w y2 ek l2) (fA:l2≠[]) (n0:m+l2.length≤cap) (akS:o+(m+l2.length)*ek.length≤cs.size):
  ∃w',(Builtin.append_ #[t,t] ty #[.slice (some ⟨b,o,none⟩) m cap,y2]).run P w= .ok (.slice (some ⟨b,o,none⟩) (m+l2.length) cap) w'∧P5 w b (.cells (spl cs (o+m*ek.length) (flat ek l2)) e' fr) w':=by
 obtain⟨e,i,z,ht,hi,hz,dj,hby,hzs⟩:=jY hf.info
 rcases h2 with ⟨h,_⟩ |⟨b2,o2,c2,cs2,e2,fr2,rfl,hb2,hw2⟩
 ·exact absurd h fA
 ·have hfc:=run_firstCells_some (P:=P) w i.size l2.length ⟨b2,o2,none⟩ l2.length c2 (flat ek l2) (by rw [cA,dj]) (Rd.cells (ek:=ek) hb2 hw2)
  obtain⟨w',hst,hw⟩:=pE (P:=P) (b:=b) (off:=o+m*i.size) (flat ek l2) 0 cs w hb (by rw [cA,dj,Nat.add_zero,ZF7,←ZE3];exact akS) ke (aev ek l2)
  refine⟨w',?_,by rw [Nat.add_zero,dj] at hw;exact hw⟩
  simp [Builtin.append_,run_underlying ht,sizeOf,typeInfo,hi,Builtin.lenOf,n0,hfc,ga,hst]
theorem zm {ek:EK}{jK:Nat}(hf:Fits P t ek jK) {w:World}{p:Option Addr}{cap:Nat}{l1:List (EK.Ty ek)}(h1:(l1=[]∧(p=none→cap=0))∨∃b o cs e' fr,p=some ⟨b,o,none⟩∧w.heap[b]?=some (.cells cs e' fr)∧win cs o (flat ek l1)) {l2:List (EK.Ty ek)}{y2:Value}(h2:Rd w y2 ek l2) (fA:l2≠[]) (n0:cap<l1.length+l2.length) (hle:l1.length+l2.length≤1048576):
  ∃w' yV zz cs e',(Builtin.append_ #[t,t] ty #[.slice p l1.length cap,y2]).run P w= .ok (.slice (some ⟨w.heap.size,0,none⟩) (l1.length+l2.length) yV) w'∧oK w (.cells cs e' (0,0)) w'∧cs.toList=flat ek (l1++l2++zz)∧(∀x∈zz,EK.ok ek x)∧yV=l1.length+l2.length+zz.length:=by
 obtain⟨e,i,z,ht,hi,hz,dj,hby,hzs⟩:=jY hf.info
 have ajA:(l1.length+l2.length)*i.bytes≤140737488355328:=by
  have hs:=hf.small
  have:(l1.length+l2.length)*i.bytes≤1048576*1048576:=Nat.mul_le_mul hle (by rw [hby];exact hs)
  omega
 have hl2:0<l2.length:=List.length_pos_iff.2 fA
 have hzz:∀k,(Builtin.zeroCells z.cells k).toList=flat ek (List.replicate k (EK.zero ek)):=fun k=>by
  have:=L1 hf.ne hzs k
  have hzl:z.cells.size=ek.length:=by rw [←ZE4,hzs,EK.bK]
  unfold Builtin.zeroCells
  rw [hzl] at this ⊢
  exact this
 rcases h2 with ⟨h,_⟩ |⟨b2,o2,c2,cs2,e2,fr2,rfl,hb2,hw2⟩
 ·exact absurd h fA
 ·have aem:=Rd.cells (ek:=ek) hb2 hw2
  have fin:∀(pa:Addr),p=some pa→(∀j v,(flat ek l1)[j]?=some v→w.cell? (pa.add j)=some v)→∃w' yV zz cs e',(Builtin.append_ #[t,t] ty #[.slice p l1.length cap,.slice (some ⟨b2,o2,none⟩) l2.length c2]).run P w= .ok (.slice (some ⟨w.heap.size,0,none⟩) (l1.length+l2.length) yV) w'∧oK w (.cells cs e' (0,0)) w'∧cs.toList=flat ek (l1++l2++zz)∧(∀x∈zz,EK.ok ek x)∧yV=l1.length+l2.length+zz.length:=by
   intro pa hpa hc1
   subst hpa
   have TO:=growslice_fits (need:=l1.length+l2.length) (old:=cap) (bytes:=i.bytes) n0 ajA
   have fk:=run_append_grow (P:=P) (w:=w) t ty e i z ht hi hz pa l1.length cap (flat ek l1) (by rw [cA,dj]) hc1 ⟨b2,o2,none⟩ l2.length c2 (flat ek l2) (by rw [cA,dj]) aem n0 (by omega) TO
   have EY:l1.length+l2.length≤grownCap w (l1.length+l2.length) cap e:=by unfold grownCap;simp only [Question.cut];omega
   refine⟨_,_,List.replicate (grownCap w (l1.length+l2.length) cap e-(l1.length+l2.length)) (EK.zero ek),_,e,fk,⟨rfl,rfl,rfl,rfl⟩,?_,fun x hx=>by rw [List.eq_of_mem_replicate hx];exact EK.sT ek,by rw [ZG2];omega⟩
   rw [Array.toList_append,Array.toList_append,hzz,gD,gD]
  rcases h1 with ⟨rfl,hp⟩ |⟨b,o,cs,e',fr,rfl,hb,hw⟩
  ·cases p with
   |none=>
    have hc:=hp rfl
    subst hc
    have fk:=run_append_nil (P:=P) (w:=w) t ty e i z ht hi hz ⟨b2,o2,none⟩ l2.length c2 (flat ek l2) (by rw [cA,dj]) aem hl2 (by simp at hle;omega) (by simp at ajA;omega)
    have EY:l2.length≤grownCap w l2.length 0 e:=by unfold grownCap;simp only [Question.cut];omega
    refine⟨w.drew.alloc (.cells ((flat ek l2).toArray++Builtin.zeroCells z.cells (grownCap w l2.length 0 e-l2.length)) e),grownCap w l2.length 0 e,List.replicate (grownCap w l2.length 0 e-l2.length) (EK.zero ek),_,e,by simpa using fk,⟨rfl,rfl,rfl,rfl⟩,?_,fun x hx=>by rw [List.eq_of_mem_replicate hx];exact EK.sT ek,by simp;omega⟩
    rw [Array.toList_append,hzz,ZD0,gD]
   |some pa=>exact fin pa rfl (by simp [flat])
  ·exact fin _ rfl (Rd.cells (ek:=ek) hb hw)
def ag4 {my ek:EK}(h:my=ek) (l:List (EK.Ty my)):List (EK.Ty ek):=h ▸ l
theorem dC {ek:EK}(h:ek=ek) (l:List (EK.Ty ek)):ag4 h l=l:=rfl
def rF (my ek:EK) (l:List (EK.Ty my)):Option (List (EK.Ty ek)):=match h:EK.beq my ek with
 |true=>some (ag4 (EK.eq_of_beq h) l)
 |false=>none
theorem ic {my ek:EK}{l:List (EK.Ty my)}{m:List (EK.Ty ek)}(h:rF my ek l=some m):my=ek∧HEq l m:=by
 unfold rF at h
 split at h
 ·rename_i hb
  have he:=EK.eq_of_beq hb
  subst he
  cases h
  exact⟨rfl,HEq.rfl⟩
 ·cases h
def G1 (pt:Bool) (ek:EK) (v:AV) (k:Prop→List (EK.Ty ek)→Q Rs):Q Rs:=
 match v with
 |.o (.s (.vw my l))=>match rF my ek l with
  |some m=>k True m
  |none=>.ret .no
 |.o (.s (.vz my l))=>match rF my ek l with
  |some m=>k True m
  |none=>.ret .no
 |.o (.s (.xs j sz o m))=>sR j fun
  |.rs my l=>match rF my ek l with
   |some l=>bif Nat.beq sz ek.length then (match pt with
    |true=>k (o+m≤l.length) ((l.drop o).take m)
    |false=>k (o=0∧m=l.length) l) else .ret .no
   |none=>.ret .no
  |_=>.ret .no
 |.o (.s (.v (.slice none 0 0)))=>k True []
 |_=>.ret .no
theorem wB {pt:Bool}{c:Ctx}{T:bb}{β:Nat→Nat}{a:Act}{w:World}(hh:Holds N c T β τ a w) {ek:EK}{v:AV}{y:Value}(hr:v.rel T β y) {k:Prop→List (EK.Ty ek)→Q Rs}(hp:((G1 pt ek v k).run τ).pre):
  ∃(p:Prop) (l:List (EK.Ty ek)),(G1 pt ek v k).run τ=(k p l).run τ∧(p→Rd w y ek l):=by
 unfold G1 at hp ⊢
 split at hp
 ·rename_i my l
  split at hp
  ·rename_i m h
   obtain⟨rfl,hm⟩:=ic h
   cases hm
   refine⟨True,l,rfl,fun _=>?_⟩
   rcases hr with ⟨rfl,p,cap,rfl⟩ |⟨b,o,cap,cs,e,fr,h1,h2,h3,h4⟩
   ·exact .inl ⟨rfl,p,cap,rfl⟩
   ·exact .inr ⟨b,o,cap,cs,e,fr,h1,hh.typed b _ h3,h4⟩
  ·exact hp.elim
 ·rename_i my l
  split at hp
  ·rename_i m h
   obtain⟨rfl,hm⟩:=ic h
   cases hm
   refine⟨True,l,rfl,fun _=>?_⟩
   rcases hr with ⟨rfl,p,cap,rfl⟩ |⟨b,o,cap,cs,h1,h2,h3,h4⟩
   ·exact .inl ⟨rfl,p,cap,rfl⟩
   ·obtain⟨e,fr,hb⟩:=FA hh.typed h3
    exact .inr ⟨b,o,cap,cs,e,fr,h1,hb,h4⟩
  ·exact hp.elim
 ·rename_i j sz o m
  simp only [sR,Q.run] at hp ⊢
  cases hb:τ (.b j) with
  |none=>rw [hb] at hp;exact hp.elim
  |some av=>
   rw [hb] at hp
   simp only at hp ⊢
   split at hp
   ·rename_i my l
    split at hp
    ·rename_i m' h
     obtain⟨rfl,hm⟩:=ic h
     cases hm
     cases hc:Nat.beq sz my.length with
     |false=>rw [hc] at hp;exact hp.elim
     |true=>
      have dj:sz=my.length:=by simpa using hc
      subst dj
      obtain⟨cs,te,mq,_,z,I3,_⟩:=hh.boxes j _ hb (by intro e;cases e)
      cases pt with
      |true=>
       refine⟨o+m≤l.length,(l.drop o).take m,rfl,fun hle=>?_⟩
       have hlen:((l.drop o).take m).length=m:=by simp;omega
       rcases hr with ⟨rfl,p,rfl⟩ |⟨cap,n,rfl,_⟩
       ·exact .inl ⟨by simp,p,0,rfl⟩
       ·exact .inr ⟨β j,o*my.length,cap,cs,te,(0,0),by rw [hlen],mq,A2 I3 o m⟩
      |false=>
       refine⟨o=0∧m=l.length,l,rfl,fun hle=>?_⟩
       obtain⟨rfl,rfl⟩:=hle
       rcases hr with ⟨za,p,rfl⟩ |⟨cap,n,rfl,_⟩
       ·exact .inl ⟨ZD4.1 za,p,0,rfl⟩
       ·exact .inr ⟨β j,0*my.length,cap,cs,te,(0,0),rfl,mq,by have:=A2 I3 0 l.length;simpa using this⟩
    ·exact hp.elim
   ·exact hp.elim
 ·exact⟨True,[],rfl,fun _=>.inl ⟨rfl,none,0,hr⟩⟩
 ·exact hp.elim
def yx (i d:Nat):Nat:=bif Nat.ble 1000 i&&Nat.blt i 1000000000 then 1000+d else 1000000000+d
theorem abE (i d:Nat):1000≤yx i d∧(1000000000≤yx i d∨(1000≤i∧i<1000000000)):=by
 unfold yx
 cases hc:Nat.ble 1000 i&&Nat.blt i 1000000000 with
 |false=>simp only [cond_false];omega
 |true=>
  simp only [ZA9] at hc
  have h1:=zqNlb hc.1
  have h2:i<1000000000:=zqNlb hc.2
  simp only [cond_true];omega
def aip (pt:Bool) (d:Nat) (ek:EK) (v u:AV):Q Rs:=
 match v with
 |.o (.s (.xs i sz 0 m))=>bif Nat.beq sz ek.length then sR i fun
  |.rs my l=>match rF my ek l with
   |some l=>G1 pt ek u fun p l2=>.ask (.b (yx i d)) fun
    |none=>.ret (.mZ ((m=l.length∧l.length+l2.length≤1048576)∧p) [(.s d,.s (.xs (yx i d) ek.length 0 (l.length+l2.length))),(.b (yx i d),.rs ek (l++l2)),(.b i,.zz)])
    |some _=>.ret .no
   |none=>.ret .no
  |_=>.ret .no else .ret .no
 |.o (.s (.v (.slice none 0 0)))=>G1 pt ek u fun p l2=>.ask (.b (1000+d)) fun
  |none=>.ret (.mZ ((0<l2.length∧l2.length≤1048576)∧p) [(.s d,.s (.xs (1000+d) ek.length 0 l2.length)),(.b (1000+d),.rs ek l2)])
  |some _=>.ret .no
 |_=>.ret .no
theorem KF {a:Act}{w:World}{v1 v2:Value}(h1:a.eval x=v1) (h2:a.eval y=v2) {v:Value}{w':World}(hr:(Builtin.append_ #[t,t] ty #[v1,v2]).run P w= .ok v w'):(execOp a.eval ⟨some d,.call ⟨.builtin .append,#[x,y],#[t,t]⟩,ty,pos,af,g⟩).run P w= .ok (.value v) w':=by
 simp [execOp,resolve,invoke,builtin,h1,h2,hr]
theorem ain {pt:Bool}{ek:EK}{jK:Nat}(hf:Fits P t ek jK) (hd:d<N):fv P N ⟨some d,.call ⟨.builtin .append,#[x,y],#[t,t]⟩,ty,pos,af,g⟩ (bY x fun v=>bY y fun u=>aip pt d ek v u):=by
 intro c τ a w hr hp K Q' hK
 obtain⟨T,β,hh⟩:=hr
 rw [c8] at hp hK
 cases hx:ev τ x with
 |none=>rw [hx] at hp;exact hp.elim
 |some v=>
  rw [hx] at hp hK
  simp only [c8] at hp hK
  cases hy:ev τ y with
  |none=>rw [hy] at hp;exact hp.elim
  |some u=>
   rw [hy] at hp hK
   simp only at hp hK
   have hv:=eP hh hx
   have hu:=eP hh hy
   unfold aip at hp hK
   split at hp
   ·rename_i i sz m
    simp only at hK
    obtain⟨ad9,ahQ⟩:=abE i d
    generalize yx i d=nm at hp hK ad9 ahQ
    cases hc:Nat.beq sz ek.length with
    |false=>rw [hc] at hp;exact hp.elim
    |true=>
     rw [hc] at hp hK
     simp only [cond_true,sR,Q.run] at hp hK
     have dj:sz=ek.length:=by simpa using hc
     subst dj
     cases hb:τ (.b i) with
     |none=>rw [hb] at hp;exact hp.elim
     |some av=>
      rw [hb] at hp hK
      simp only at hp hK
      split at hp
      ·rename_i my l
       split at hp
       ·rename_i m0 h
        obtain⟨rfl,xB⟩:=ic h
        cases xB
        simp only [h] at hK
        obtain⟨p,l2,fk,hRd⟩:=wB hh hu hp
        have hp':=hp
        rw [fk] at hp'
        simp only [Q.run] at hp'
        cases hn:τ (.b nm) with
        |some _=>rw [hn] at hp';exact hp'.elim
        |none=>
         rw [hn] at hp'
         obtain⟨⟨hm,hle⟩,hpp⟩:(m=l.length∧l.length+l2.length≤1048576)∧p:=hp'
         subst hm
         have hR:=hRd hpp
         have hid:i≠nm:=fun e=>by rw [e,hn] at hb;cases hb
         have FK:live τ i:=eD hb (by intro e;cases e)
         obtain⟨cs,te,mq,fA,zz,I3,hzz⟩:=hh.boxes i _ hb (by intro e;cases e)
         have fin:∀{w':World} {val:Value} {T':bb} {β':Nat→Nat},(Builtin.append_ #[t,t] ty #[a.eval x,a.eval y]).run P w= .ok val w'→Holds N c T' β' ((τ.ap [(.b i,.zz)]).ap [(.b nm,.rs my (l++l2))]) a w'→(SV.xs nm my.length 0 (l.length+l2.length)).rel T' β' val→Oper.wp P ⟨some d,.call ⟨.builtin .append,#[x,y],#[t,t]⟩,ty,pos,af,g⟩ a w K Q':=by
          intro w' val T' β' zR hh' c6
          unfold Oper.wp
          rw [KF rfl rfl zR]
          show K (a.put (some d) val) w'
          refine hK [(.s d,.s (.xs nm my.length 0 (l.length+l2.length))),(.b nm,.rs my (l++l2)),(.b i,.zz)] _ _ ?_ ⟨_,_,hh'.put hd (av:=.s (.xs nm my.length 0 (l.length+l2.length))) c6 (by simp [AV.boxes,A0.boxes,SV.boxes,uj])⟩
          rw [fk]
          simp only [Q.run,hn]
          rfl
         by_cases h2:l2=[]
         ·
          subst h2
          have h0:(Builtin.append_ #[t,t] ty #[a.eval x,a.eval y]).run P w= .ok (a.eval x) w:=by
           rcases hR with ⟨_,p2,c2,e2⟩ |⟨b2,o2,c2,_,_,_,e2,_⟩
           ·rcases hv with ⟨za,p1,e1⟩ |⟨cap,n,e1,hmc,_⟩
            ·rw [e1,e2];exact r6 hf w (ZB5 _) (fun _=>rfl)
            ·rw [e1,e2];exact r6 hf w hmc (by simp)
           ·rcases hv with ⟨za,p1,e1⟩ |⟨cap,n,e1,hmc,_⟩
            ·rw [e1,e2];exact r6 hf w (ZB5 _) (fun _=>rfl)
            ·rw [e1,e2];exact r6 hf w hmc (by simp)
          have hmv:=hh.SS (i:=i) (d:=nm) ad9 ahQ hn (av:=.rs my (l++[])) FK mq (w':=w) ⟨mq,fun _ _=>rfl,rfl,rfl,rfl,rfl⟩ rfl ⟨fA,zz,by simpa using I3,hzz⟩ rfl
          refine fin h0 hmv ?_
          rcases hv with ⟨za,p1,e1⟩ |⟨cap,n,e1,hmc,hT,hcn⟩
          ·exact .inl ⟨by simpa using za,p1,e1⟩
          ·refine .inr ⟨cap,n,?_,by simpa using hmc,?_,hcn⟩
           ·rw [e1];unfold oo;rw [if_pos rfl];simp
           ·unfold oo;rw [if_pos rfl];exact hT
         ·rcases hv with ⟨za,p1,e1⟩ |⟨cap,n,e1,hmc,hT,hcn⟩
          ·
           have hl:l=[]:=ZD4.1 za
           subst hl
           obtain⟨w',yV,z',mg,e',zR,hpu,TN,hz',D6⟩:=zm (ty:=ty) hf (p:=p1) (cap:=0) (l1:=[]) (.inl ⟨rfl,fun _=>rfl⟩) hR h2 (by have:=List.length_pos_iff.2 h2;simpa using this) (by simpa using hle)
           have h3:=(hh.kill (i:=i)).tD (d:=nm) ad9 (by rw [uj,if_neg (by simp;exact fun h=>hid h.symm)];exact hn) (av:=.rs my ([]++l2)) hpu ⟨fA,z',TN,hz'⟩ (by simp [AV.boxes])
           refine fin (by rw [e1];exact zR) h3 (.inr ⟨yV,mg.size,?_,by rw [D6];omega,?_,?_⟩)
           ·unfold oo;rw [if_pos rfl,ZH0]
           ·unfold oo xi;rw [if_pos rfl,if_pos rfl]
           ·rw [←ZE4,TN,cA];simp [D6]
          ·rw [ZH0] at e1
           have hnn:=hh.YS hT mq
           by_cases n0:l.length+l2.length≤cap
           ·
            have EY:(l.length+l2.length)*my.length≤cap*my.length:=ZG6 _ n0
            rw [ZA6] at hcn
            obtain⟨w',zR,hw⟩:=QV (ty:=ty) hf (b:=β i) (o:=0) (m:=l.length) (cap:=cap) mq (I6 _) hR h2 n0 (by rw [ZA6];omega)
            rw [ZA6] at hw
            have hzl:(l++zz).length*my.length=cs.size:=by rw [←cA,←I3,ZE4]
            have amb:l2.length≤zz.length:=by
             have h1:(l.length+l2.length)*my.length≤(l++zz).length*my.length:=by omega
             have h2:=Nat.le_of_mul_le_mul_right h1 (List.length_pos_iff.2 fA)
             simp at h2;omega
            have akT:(spl cs (l.length*my.length) (flat my l2)).toList=flat my (l++l2++zz.drop l2.length):=by
             have e2:(l++zz).take l.length=l:=by simp
             have e3:(l++zz).drop (l.length+l2.length)=zz.drop l2.length:=by rw [ZF5]
             rw [mD _ _ _ (by rw [cA,←ZE3];omega),I3,cA,←ZE3,mX,ph,e2,e3,gD,gD]
            have hmv:=hh.SS (i:=i) (d:=nm) ad9 ahQ hn (av:=.rs my (l++l2)) FK mq hw (nE _ _ _) ⟨fA,zz.drop l2.length,akT,fun x hx=>hzz x (ZF2 hx)⟩ rfl
            refine fin (by rw [e1];exact zR) hmv (.inr ⟨cap,n,?_,n0,?_,by rw [ZA6];exact hcn⟩)
            ·unfold oo;rw [if_pos rfl,ZH0]
            ·unfold oo;rw [if_pos rfl];exact hT
           ·obtain⟨w',yV,z',mg,e',zR,hpu,TN,hz',D6⟩:=zm (ty:=ty) hf (p:=some ⟨β i,0,none⟩) (cap:=cap) (l1:=l) (.inr ⟨β i,0,cs,te,(0,0),rfl,mq,UR I3⟩) hR h2 (by omega) hle
            have h3:=(hh.kill (i:=i)).tD (d:=nm) ad9 (by rw [uj,if_neg (by simp;exact fun h=>hid h.symm)];exact hn) (av:=.rs my (l++l2)) hpu ⟨fA,z',TN,hz'⟩ (by simp [AV.boxes])
            refine fin (by rw [e1];exact zR) h3 (.inr ⟨yV,mg.size,?_,by rw [D6];omega,?_,?_⟩)
            ·unfold oo;rw [if_pos rfl,ZH0]
            ·unfold oo xi;rw [if_pos rfl,if_pos rfl]
            ·rw [←ZE4,TN,cA];simp [D6,ZF7]
       ·exact hp.elim
      ·exact hp.elim
   ·simp only at hK
    obtain⟨p,l2,fk,hRd⟩:=wB hh hu hp
    have hp':=hp
    rw [fk] at hp' hK
    simp only [Q.run] at hp' hK
    cases hn:τ (.b (1000+d)) with
    |some _=>rw [hn] at hp';exact hp'.elim
    |none=>
     rw [hn] at hp' hK
     obtain⟨⟨hm,hle⟩,hpp⟩:(0<l2.length∧l2.length≤1048576)∧p:=hp'
     have hR:=hRd hpp
     have e1:a.eval x= .slice none 0 0:=hv
     obtain⟨w',yV,z',mg,e',zR,hpu,TN,hz',D6⟩:=zm (ty:=ty) hf (p:=none) (cap:=0) (l1:=[]) (.inl ⟨rfl,fun _=>rfl⟩) hR (List.length_pos_iff.1 hm) (by simpa using hm) (by simpa using hle)
     have h3:=hh.tD (d:=1000+d) (by omega) hn (av:=.rs ek l2) hpu ⟨hf.ne,z',by simpa using TN,hz'⟩ (by simp [AV.boxes])
     unfold Oper.wp
     rw [KF (x:=x) (y:=y) e1 rfl zR]
     refine hK _ _ _ rfl ⟨_,_,h3.put hd (av:=.s (.xs (1000+d) ek.length 0 l2.length)) (.inr ⟨yV,mg.size,?_,by rw [D6];simp,?_,?_⟩) (by simp [AV.boxes,A0.boxes,SV.boxes,uj])⟩
     ·unfold oo;rw [if_pos rfl,ZH0];simp
     ·unfold oo xi;rw [if_pos rfl,if_pos rfl]
     ·rw [←ZE4,TN,cA];simp [D6]
   ·exact hp.elim
end
end GL
end Go.Proofs.YtnkbdhldiinfdaaGreatDoor
