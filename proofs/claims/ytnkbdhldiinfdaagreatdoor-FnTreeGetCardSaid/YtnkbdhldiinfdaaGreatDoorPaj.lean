/- A drawn law returns true for every code (its row lists package variables, tied by the card): part 10. -/
import Derived.Test.YtnkbdhldiinfdaaGreatDoorPai
set_option maxHeartbeats 20000000
set_option maxRecDepth 100000
set_option linter.all false
namespace Go.Proofs.YtnkbdhldiinfdaaGreatDoor
namespace GL
section
variable {P:Program}{N:Nat}{τ:St}
variable {d:Nat}{x y z:Operand}{t u ty:TypeId}{pos:String}{af:Array Edge}{g:Option (Nat×Bool)}
def ace (ek:EK):SV→Option Nat
 |.sl my n=>bif EK.beq my ek then some n else none
 |.v (.slice none 0 0)=>some 0
 |_=>none
theorem we {T:bb}{β:Nat→Nat}{ek:EK}{v:SV}{n:Nat}(h:ace ek v=some n) {y:Value}(hr:v.rel T β y):(SV.sl ek n).rel T β y:=by
 unfold ace at h
 split at h
 ·rename_i my m
  cases hb:EK.beq my ek with
  |false=>rw [hb] at h;cases h
  |true=>
   rw [hb] at h;cases h
   have he:=EK.eq_of_beq hb
   subst he
   exact hr
 ·cases h
  exact .inl ⟨rfl,none,hr⟩
 ·cases h
theorem YR {T:bb}{β:Nat→Nat}{w:World}(hT:WT T w) {ek:EK}{n:Nat}{y:Value}(hr:(SV.sl ek n).rel T β y):∃l:List (EK.Ty ek),l.length=n∧(∀x∈l,EK.ok ek x)∧Rd w y ek l:=by
 rcases hr with ⟨rfl,p,rfl⟩ |⟨b,o,cap,m,rfl,h2,h3,h4⟩
 ·exact⟨[],rfl,by simp,.inl ⟨rfl,p,0,rfl⟩⟩
 ·obtain⟨fA,cs,e,fr,l,hb,ke,l5⟩:=hT b _ h3
  have hlen:((l.drop o).take n).length=n:=by simp [l5.1];omega
  refine⟨(l.drop o).take n,hlen,fun x hx=>l5.2.1 x (ZF2 (ZE6 hx)),.inr ⟨b,o*ek.length,cap,cs,e,fr,by rw [hlen],hb,?_⟩⟩
  have:=wq (FZ l5) o n
  rwa [ZA6] at this
def aiq (pt:Bool) (d:Nat) (ek:EK) (v u:AV):Q Rs:=
 match v,u with
 |.o (.s v'),.o (.s u')=>match ace ek v' with
  |some m=>match ace ek u' with
   |some n=>.ret (.mZ (m+n≤1048576) [(.s d,.s (.sl ek (m+n)))])
   |none=>G1 pt ek u fun p l2=>.ret (.mZ (m+l2.length≤1048576∧p∧SE ek l2) [(.s d,.s (.sl ek (m+l2.length)))])
  |none=>.ret .no
 |_,_=>.ret .no
theorem aft {ek:EK}{jK:Nat}(hf:Fits P t ek jK) {c:Ctx}{T:bb}{β:Nat→Nat}{a:Act}{w:World}(hh:Holds N c T β τ a w) {m:Nat}{v1 v2:Value}(h1:(SV.sl ek m).rel T β v1) {l2:List (EK.Ty ek)}(h2:Rd w v2 ek l2) (cG:∀x∈l2,EK.ok ek x) (hle:m+l2.length≤1048576):
  ∃val T' w',(Builtin.append_ #[t,t] ty #[v1,v2]).run P w= .ok val w'∧Holds N c T' β τ a w'∧(SV.sl ek (m+l2.length)).rel T' β val:=by
 by_cases hn:l2=[]
 ·subst hn
  have h0:(Builtin.append_ #[t,t] ty #[v1,v2]).run P w= .ok v1 w:=by
   have e2:∃p c2,v2= .slice p 0 c2:=by
    rcases h2 with ⟨_,p,c2,e⟩ |⟨b,o,c2,_,_,_,e,_⟩
    ·exact⟨p,c2,e⟩
    ·exact⟨_,c2,e⟩
   obtain⟨p2,c2,rfl⟩:=e2
   rcases h1 with ⟨rfl,p,rfl⟩ |⟨b,o,cap,n,rfl,hmc,_,_⟩
   ·exact r6 hf w (ZB5 _) (fun _=>rfl)
   ·exact r6 hf w hmc (by simp)
  exact⟨v1,T,w,h0,hh,h1⟩
 ·have grow:∀{p:Option Addr} {cap:Nat} {l1:List (EK.Ty ek)},v1= .slice p l1.length cap→l1.length=m→(∀x∈l1,EK.ok ek x)→((l1=[]∧(p=none→cap=0))∨∃b o cs e' fr,p=some ⟨b,o,none⟩∧w.heap[b]?=some (.cells cs e' fr)∧win cs o (flat ek l1))→cap<m+l2.length→
    ∃val T' w',(Builtin.append_ #[t,t] ty #[v1,v2]).run P w= .ok val w'∧Holds N c T' β τ a w'∧(SV.sl ek (m+l2.length)).rel T' β val:=by
   intro p cap l1 e1 hl1 akX hw1 bU
   subst e1;subst hl1
   obtain⟨w',yV,zz,mg,e',fk,hpu,I3,hz,EY⟩:=zm (ty:=ty) hf hw1 h2 hn bU hle
   have h3:=hh.CF (k:=.ty ek yV) hpu ⟨hf.ne,mg,e',(0,0),l1++l2++zz,hpu.new,I6 _,by simp [EY,ZF7],fun x hx=>by
    rcases ZB4.1 hx with h |h
    ·rcases ZB4.1 h with h |h
     ·exact akX x h
     ·exact cG x h
    ·exact hz x h,I3⟩
   exact⟨_,_,_,fk,h3,.inr ⟨w.heap.size,0,yV,yV,by rw [ZH0],by omega,by unfold xi;rw [if_pos rfl],by omega⟩⟩
  have h1':=h1
  rcases h1 with ⟨rfl,p,rfl⟩ |⟨b,o,cap,n,rfl,hmc,hT,hon⟩
  ·exact grow (p:=p) (cap:=0) (l1:=[]) rfl rfl (by simp) (.inl ⟨rfl,fun _=>rfl⟩) (by have:=List.length_pos_iff.2 hn;omega)
  ·obtain⟨fA,cs,e,fr,l,hb,ke,l5⟩:=hh.typed b _ hT
   by_cases n0:m+l2.length≤cap
   ·have dj:cs.size=n*ek.length:=by rw [←ZE4,l5.2.2,cA,l5.1]
    have hb1:(o+(m+l2.length))*ek.length≤n*ek.length:=ZG6 _ (by omega)
    obtain⟨w',fk,hw⟩:=QV (ty:=ty) hf (m:=m) (cap:=cap) hb ke h2 hn n0 (by rw [dj,←ZE3];exact hb1)
    have EW:o*ek.length+m*ek.length=(o+m)*ek.length:=by rw [ZE3]
    rw [EW] at hw
    have vE:(spl cs ((o+m)*ek.length) (flat ek l2)).toList=flat ek (l.take (o+m)++l2++l.drop (o+m+l2.length)):=by
     rw [mD _ _ _ (by rw [cA,←ZE3,dj];exact ZG6 _ (by omega)),l5.2.2,cA,←ZE3,mX,ph,gD,gD]
    refine⟨_,T,w',fk,hh.uR hT hw (by rw [nE];exact ke) (l:=l.take (o+m)++l2++l.drop (o+m+l2.length)) ⟨?_,fun x hx=>?_,vE⟩,.inr ⟨b,o,cap,n,rfl,n0,hT,hon⟩⟩
    ·have:=l5.1;simp;omega
    ·rcases ZB4.1 hx with h |h
     ·rcases ZB4.1 h with h |h
      ·exact l5.2.1 x (ZE6 h)
      ·exact cG x h
     ·exact l5.2.1 x (ZF2 h)
   ·have hlen:((l.drop o).take m).length=m:=by simp [l5.1];omega
    refine grow (p:=some ⟨b,o*ek.length,none⟩) (cap:=cap) (l1:=(l.drop o).take m) (by rw [hlen]) hlen (fun x hx=>l5.2.1 x (ZF2 (ZE6 hx))) (.inr ⟨b,o*ek.length,cs,e,fr,rfl,hb,?_⟩) (by omega)
    have:=wq (FZ l5) o m
    rwa [ZA6] at this
theorem aio {pt:Bool}{ek:EK}{jK:Nat}(hf:Fits P t ek jK) (hd:d<N):fv P N ⟨some d,.call ⟨.builtin .append,#[x,y],#[t,t]⟩,ty,pos,af,g⟩ (bY x fun v=>bY y fun u=>aiq pt d ek v u):=by
 intro c τ a w hr hp K Q' hK
 obtain⟨T,β,hh⟩:=hr
 rw [c8] at hp hK
 cases hx:ev τ x with
 |none=>rw [hx] at hp;exact hp.elim
 |some v=>
  rw [hx] at hp hK
  simp only [c8] at hp hK
  cases hy:ev τ y with
  |none=>rw [hy] at hp;exact hp.elim
  |some u=>
   rw [hy] at hp hK
   simp only at hp hK
   have hv:=eP hh hx
   have hu:=eP hh hy
   have fin:∀{l2:List (EK.Ty ek)} {m:Nat},(SV.sl ek m).rel T β (a.eval x)→Rd w (a.eval y) ek l2→(∀x∈l2,EK.ok ek x)→m+l2.length≤1048576→(∀a' w',Rel N c (τ.ap [(.s d,.s (.sl ek (m+l2.length)))]) a' w'→K a' w')→Oper.wp P ⟨some d,.call ⟨.builtin .append,#[x,y],#[t,t]⟩,ty,pos,af,g⟩ a w K Q':=by
    intro l2 m h1 h2 cG hle hK
    obtain⟨val,T',w',fk,hh',c6⟩:=aft (ty:=ty) hf hh h1 h2 cG hle
    unfold Oper.wp
    rw [KF (x:=x) (y:=y) rfl rfl fk]
    show K (a.put (some d) val) w'
    exact hK _ _ ⟨_,_,hh'.put hd (av:=.s (.sl ek (m+l2.length))) c6 (by simp [AV.boxes,A0.boxes,SV.boxes])⟩
   unfold aiq at hp hK
   split at hp
   ·rename_i v' u'
    split at hp
    ·rename_i m hm
     simp only [hm] at hK
     split at hp
     ·rename_i n hn
      simp only [hn,Q.run] at hK
      obtain⟨l2,hl2,cG,hRd⟩:=YR hh.typed (we hn hu)
      subst hl2
      exact fin (we hm hv) hRd cG hp (fun a' w' h=>hK _ _ _ rfl h)
     ·rename_i hn
      simp only [hn] at hK
      obtain⟨p,l2,fk,hRd⟩:=wB hh hu hp
      rw [fk] at hp hK
      obtain⟨h1,h2,h3⟩:m+l2.length≤1048576∧p∧SE ek l2:=hp
      exact fin (we hm hv) (hRd h2) (CB h3) h1 (fun a' w' h=>hK _ _ _ rfl h)
    ·exact hp.elim
   ·exact hp.elim
def fa (l:List Int):ByteArray:=l.foldl (fun r n=>r.push (UInt8.ofNat n.toNat)) ByteArray.empty
theorem nC:∀(l:List Int) (r:ByteArray),(l.foldl (fun r n=>r.push (UInt8.ofNat n.toNat)) r).size=r.size+l.length
 |[],r=>by simp
 |n::l,r=>by
  rw [List.foldl_cons,nC l]
  simp [ByteArray.size_push];omega
abbrev mf:EK:=[.u8]
theorem Z2:∀l:List Int,flat mf l=l.map (Value.int .u8)
 |[]=>rfl
 |n::l=>by
  have:=Z2 l
  rw [iS,this];rfl
theorem acA {e:TypeId}(hs:P.underlying t=some (.slice e)) (he:P.underlying e=some (.int .u8)) (hd:P.underlying u=some .string) {w:World}{v:Value}{l:List Int}(h:Rd w v mf l):(convert t u v).run P w= .ok (.string (fa l)) w:=by
 rcases h with ⟨rfl,p,cap,rfl⟩ |⟨b,o,cap,cs,e',fr,rfl,hb,hw⟩
 ·rw [run_convert_bytes_string w t u e p 0 cap hs he hd]
  cases p with
  |none=>simp [Conv.bytesToString,fa]
  |some p=>
   rw [run_bytesToString (P:=P) w p 0 cap [] (by simp [loadCells,loadCellsFrom])]
   rfl
 ·rw [run_convert_bytes_string w t u e _ _ cap hs he hd]
  have h1:=run_loadCells_list (P:=P) w ⟨b,o,none⟩ (flat mf l) (Rd.cells (ek:=mf) hb hw)
  rw [cA,Z2] at h1
  simp only [List.length_singleton,Nat.mul_one] at h1
  rw [run_bytesToString (P:=P) w ⟨b,o,none⟩ l.length cap l h1]
  rfl
def acr (pt:Bool) (d:Nat) (v:AV):Q Rs:=
 match v with
 |.o (.s v')=>match ace mf v' with
  |some n=>.ret (.ex True ByteArray (fun s=>s.size=n) [(.s d,fun s=>.str s)])
  |none=>G1 pt mf v fun p (l:List Int)=>.ret (.mZ p [(.s d,.str (fa l))])
 |_=>.ret .no
theorem ah9 {pt:Bool}{e:TypeId}(hs:P.underlying t=some (.slice e)) (he:P.underlying e=some (.int .u8)) (hu:P.underlying u=some .string) (hd:d<N):fv P N ⟨some d,.convert t u x,ty,pos,af,g⟩ (bY x fun v=>acr pt d v):=by
 intro c τ a w hr hp K Q' hK
 obtain⟨T,β,hh⟩:=hr
 rw [c8] at hp hK
 cases hx:ev τ x with
 |none=>rw [hx] at hp;exact hp.elim
 |some v=>
  rw [hx] at hp hK
  simp only at hp hK
  have hv:=eP hh hx
  have hex:∀{l:List Int},Rd w (a.eval x) mf l→(execOp a.eval ⟨some d,.convert t u x,ty,pos,af,g⟩).run P w= .ok (.value (.string (fa l))) w:=fun h=>by
   simp [execOp,acA hs he hu h]
  unfold acr at hp hK
  split at hp
  ·rename_i v'
   split at hp
   ·rename_i n hn
    simp only [hn] at hK
    obtain⟨l,hl,cG,hRd⟩:=YR hh.typed (we hn hv)
    have dj:(fa l).size=n:=by
     have:=nC l ByteArray.empty
     unfold fa
     rw [this,←hl];simp
    exact fv.value (av:=.str (fa l)) hh rfl hd (hex hRd) rfl (by simp [AV.boxes,A0.boxes,SV.boxes]) (fun a' h=>hK _ _ _ ⟨_,dj,rfl⟩ h)
   ·rename_i hn
    simp only [hn] at hK
    obtain⟨p,l,fk,hRd⟩:=wB hh hv hp
    rw [fk] at hp hK
    exact fv.value (av:=.str (fa l)) hh rfl hd (hex (hRd hp)) rfl (by simp [AV.boxes,A0.boxes,SV.boxes]) (fun a' h=>hK _ _ _ rfl h)
  ·exact hp.elim
def acy (v:AV):V1:=
 match v with
 |.o (.s (.sl ek n))=>.mZ (0<n) (.s (.sl ek n))
 |_=>.no
theorem aia {e:TypeId}(hs:P.underlying t=some (.slice e)) (he:P.underlying e=some (.int .u8)) (hd:d<N):fv P N ⟨some d,.convert t t x,ty,pos,af,g⟩ (bY x fun v=>.ret ((acy v).rs d)):=by
 intro c τ a w hr hp K Q' hK
 obtain⟨T,β,hh⟩:=hr
 rw [c8] at hp hK
 cases hx:ev τ x with
 |none=>rw [hx] at hp;exact hp.elim
 |some v=>
  rw [hx] at hp hK
  simp only at hp hK
  have hv:=eP hh hx
  unfold acy at hp hK
  split at hp
  ·rename_i ek n
   simp only at hK
   rcases hv with ⟨rfl,p,e1⟩ |⟨b,o,cap,m,e1,h2,h3,h4⟩
   ·exact absurd (show 0<0 from hp) (by omega)
   ·obtain⟨fA,cs,e',fr,l,hb,ke,l5⟩:=hh.typed b _ h3
    have ahM:w.shape? b=some (e',cs.size):=by simp [World.shape?,hb]
    have hex:(execOp a.eval ⟨some d,.convert t t x,ty,pos,af,g⟩).run P w= .ok (.value (.slice (some ⟨b,o*ek.length,none⟩) n cap)) (w.freeze ⟨b,cs.size,none⟩ 1):=by
     simp [execOp,e1,convert,run_underlying hs,run_underlying he,markStringish,ahM]
    have hfz:P5 w b (.cells cs e' (if fr.1==fr.2 then (cs.size,cs.size+1) else (min fr.1 cs.size,max fr.2 (cs.size+1)))) (w.freeze ⟨b,cs.size,none⟩ 1):= {
     at_:=by simp [World.freeze,Array.getElem?_modify,hb]
     other:=fun k hk=>by simp only [World.freeze];rw [if_neg (by omega)];simp only [Array.getElem?_modify];rw [if_neg (by omega)]
     size:=by simp [World.freeze]
     os:=rfl
     tape:=rfl
     output:=rfl }
    have h5:=hh.uR h3 hfz (by
     split
     ·exact .inr ⟨ZB5 _,by simp⟩
     ·rcases ke with h |h
      ·rename_i fA;exact absurd (by simpa using h) fA
      ·exact .inr ⟨by simp;omega,by simp;omega⟩) l5
    unfold Oper.wp
    rw [hex]
    exact hK _ _ _ rfl ⟨_,_,h5.put hd (av:=.s (.sl ek n)) (.inr ⟨b,o,cap,m,rfl,h2,h3,h4⟩) (by simp [AV.boxes,A0.boxes,SV.boxes])⟩
  ·exact hp.elim
end
end GL
namespace GL
inductive SP where
 |int
 |byte
 |str
 |bool
 |sl (ek:EK)
 |vz (ek:EK)
 |vw (ek:EK)
 |xb (i:Nat) (ek:EK)
abbrev SP.Ty:SP→Type
 |.int=>Int
 |.byte=>Int
 |.str=>ByteArray
 |.bool=>Bool
 |.sl _=>Nat
 |.vz ek=>List (EK.Ty ek)
 |.vw ek=>List (EK.Ty ek)
 |.xb _ _=>Nat
def SP.sv:(p:SP)→p.Ty→SV
 |.int,n=>.v (.int .i64 n)
 |.byte,n=>.v (.int .u8 n)
 |.str,s=>.v (.string s)
 |.bool,b=>.q b
 |.sl ek,n=>.sl ek n
 |.vz ek,l=>.vz ek l
 |.vw ek,l=>.vw ek l
 |.xb i ek,m=>.xs i ek.length 0 m
def SP.parse:(p:SP)→SV→Option p.Ty
 |.int,.v (.int .i64 n)=>some n
 |.byte,.v (.int .u8 n)=>some n
 |.str,.v (.string s)=>some s
 |.bool,.q b=>some b
 |.bool,.v (.bool b)=>some b
 |.sl ek,x=>ace ek x
 |.vz ek,.vz my l=>rF my ek l
 |.vz ek,.vw my l=>rF my ek l
 |.vz _,.v (.slice none 0 0)=>some []
 |.vw ek,.vw my l=>rF my ek l
 |.vw _,.v (.slice none 0 0)=>some []
 |.xb i ek,.xs j sz 0 m=>bif Nat.beq i j&&Nat.beq sz ek.length then some m else none
 |_,_=>none
theorem SP.eN {T:bb}{β:Nat→Nat}{p:SP}{x:SV}{v:p.Ty}(h:p.parse x=some v):(∀{y:Value},x.rel T β y→(p.sv v).rel T β y)∧∀i∈(p.sv v).boxes,i∈x.boxes:=by
 unfold SP.parse at h
 split at h
 ·cases h;exact⟨fun hr=>hr,fun _ hi=>hi⟩
 ·cases h;exact⟨fun hr=>hr,fun _ hi=>hi⟩
 ·cases h;exact⟨fun hr=>hr,fun _ hi=>hi⟩
 ·cases h;exact⟨fun hr=>hr,fun _ hi=>hi⟩
 ·cases h;exact⟨fun hr=>hr,fun _ hi=>hi⟩
 ·exact⟨fun hr=>we h hr,fun i hi=>by simp [SP.sv,SV.boxes] at hi⟩
 ·obtain⟨rfl,hm⟩:=ic h
  cases hm;exact⟨fun hr=>hr,fun _ hi=>hi⟩
 ·obtain⟨rfl,hm⟩:=ic h
  cases hm
  refine⟨fun hr=>?_,fun i hi=>by simp [SP.sv,SV.boxes] at hi⟩
  rcases hr with hr |⟨b,o,cap,cs,e,fr,h1,h2,h3,h4⟩
  ·exact .inl hr
  ·exact .inr ⟨b,o,cap,cs,h1,h2,.inl ⟨e,fr,h3⟩,h4⟩
 ·cases h;exact⟨fun hr=>.inl ⟨rfl,none,0,hr⟩,fun i hi=>by simp [SP.sv,SV.boxes] at hi⟩
 ·obtain⟨rfl,hm⟩:=ic h
  cases hm;exact⟨fun hr=>hr,fun _ hi=>hi⟩
 ·cases h;exact⟨fun hr=>.inl ⟨rfl,none,0,hr⟩,fun i hi=>by simp [SP.sv,SV.boxes] at hi⟩
 ·rename_i i ek j sz m
  cases hc:Nat.beq i j&&Nat.beq sz ek.length with
  |false=>rw [hc] at h;cases h
  |true=>
   rw [hc] at h;cases h
   simp only [ZA9] at hc
   have h1:i=j:=by simpa using hc.1
   have h2:sz=ek.length:=by simpa using hc.2
   subst h1;subst h2
   exact⟨fun hr=>hr,fun _ hi=>hi⟩
 ·cases h
abbrev pw.Ty:List SP→Type
 |[]=>Unit
 |[p]=>p.Ty
 |p::q::l=>p.Ty×pw.Ty (q::l)
def pw.AX:(l:List SP)→pw.Ty l→List SV
 |[],_=>[]
 |[p],x=>[p.sv x]
 |p::q::l,x=>p.sv x.1::pw.AX (q::l) x.2
def pw.parse:(l:List SP)→List SV→Option (pw.Ty l)
 |[],[]=>some ()
 |[p],[x]=>p.parse x
 |p::q::l,x::m=>match p.parse x,pw.parse (q::l) m with
  |some v,some r=>some (v,r)
  |_,_=>none
 |_,_=>none
theorem pw.eN {T:bb}{β:Nat→Nat}:∀{l:List SP}{m:List SV}{v:pw.Ty l},pw.parse l m=some v→(∀{ys:List Value},dN T β m ys→dN T β (pw.AX l v) ys)∧∀i∈cc (pw.AX l v),i∈cc m
 |[],[],_,_=>⟨fun h=>h,fun i hi=>hi⟩
 |[],_::_,_,h=>by simp [pw.parse] at h
 |[p],[],_,h=>by simp [pw.parse] at h
 |[p],[x],v,h=>by
  have:=SP.eN (T:=T) (β:=β) (p:=p) h
  refine⟨fun {ys} h'=>?_,fun i hi=>?_⟩
  ·match ys,h' with
   |[y],h'=>exact⟨this.1 h'.1,trivial⟩
  ·simp only [pw.AX,cc,ZE5] at hi ⊢
   exact this.2 i hi
 |[p],_::_::_,v,h=>by simp [pw.parse] at h
 |p::q::l,[],v,h=>by simp [pw.parse] at h
 |p::q::l,x::m,v,h=>by
  simp only [pw.parse] at h
  split at h
  ·rename_i v1 r1 h1 h2
   cases h
   have g1:=SP.eN (T:=T) (β:=β) h1
   have g2:=pw.eN (T:=T) (β:=β) (l:=q::l) h2
   refine⟨fun {ys} h'=>?_,fun i hi=>?_⟩
   ·match ys,h' with
    |y::ys,h'=>exact⟨g1.1 h'.1,g2.1 h'.2⟩
   ·simp only [pw.AX,cc,ZB4] at hi ⊢
    rcases hi with hi |hi
    ·exact .inl (g1.2 i hi)
    ·exact .inr (g2.2 i hi)
  ·cases h
inductive AP where
 |s (p:SP)
 |a (l:List SP)
 |b (i:Nat)
 |r (ek:EK)
 |fn (f:Nat) (is:List Nat)
 |vs (l:List SP)
abbrev AP.Ty:AP→Type
 |.s p=>p.Ty
 |.a l=>pw.Ty l
 |.b _=>Unit
 |.r ek=>List (EK.Ty ek)
 |.fn _ _=>Unit
 |.vs l=>pw.Ty l
def SP.cv:(p:SP)→p.Ty→CV
 |.int,n=>.v (.int .i64 n)
 |.byte,n=>.v (.int .u8 n)
 |.str,s=>.v (.string s)
 |.bool,b=>.q b
 |.vz ek,l=>.vz ek l
 |_,_=>.v undef
def SP.K5:SP→Bool
 |.int=>true
 |.byte=>true
 |.str=>true
 |.bool=>true
 |.vz _=>true
 |_=>false
def pw.K5:List SP→Bool
 |[]=>true
 |p::l=>p.K5&&pw.K5 l
def pw.cvl:(l:List SP)→pw.Ty l→List CV
 |[],_=>[]
 |[p],x=>[p.cv x]
 |p::q::l,x=>p.cv x.1::pw.cvl (q::l) x.2
theorem SP.JO {T:bb}{β:Nat→Nat}{p:SP}(h:p.K5=true) {x:p.Ty}{v:Value}(hr:(p.sv x).rel T β v):(p.cv x).rel T v:=by
 cases p<;>first|exact hr|cases h
theorem pw.JO {T:bb}{β:Nat→Nat}:∀{l:List SP},pw.K5 l=true→∀{x:pw.Ty l}{vs:List Value},dN T β (pw.AX l x) vs→xl T (pw.cvl l x) vs
 |[],_,_,vs,hr=>by cases vs<;>first|trivial|exact hr.elim
 |[p],h,x,vs,hr=>by
  simp only [pw.K5,ZA9] at h
  match vs,hr with
  |[v],hr=>exact⟨SP.JO h.1 hr.1,trivial⟩
  |_::_::_,hr=>exact hr.2.elim
 |p::q::l,h,x,vs,hr=>by
  simp only [pw.K5,ZA9] at h
  match vs,hr with
  |v::vs,hr=>exact⟨SP.JO h.1 hr.1,pw.JO (l:=q::l) (by simp [pw.K5,h.2]) hr.2⟩
def zc:List Nat→List (Nat×Nat)
 |[]=>[]
 |i::l=>(i,0)::zc l
def afa:List Nat→List (Nat×Nat)→Bool
 |[],[]=>true
 |i::l,p::m=>(Nat.beq i p.1&&Nat.beq 0 p.2)&&afa l m
 |_,_=>false
theorem aau:∀{l:List Nat}{m:List (Nat×Nat)},afa l m=true→m=zc l
 |[],[],_=>rfl
 |[],_::_,h=>by cases h
 |_::_,[],h=>by cases h
 |i::l,(a,b)::m,h=>by
  simp only [afa,ZA9,Nat.beq_eq] at h
  obtain⟨⟨rfl,rfl⟩,h2⟩:=h
  rw [zc,aau h2]
def AP.av:(p:AP)→p.Ty→AV
 |.s p,x=>.s (p.sv x)
 |.a l,x=>.a (pw.AX l x)
 |.b i,_=>.s (.bp i 0)
 |.r ek,l=>.rs ek l
 |.fn f is,_=>.fn f (zc is)
 |.vs l,x=>.s (.vs (pw.cvl l x) 0)
def AP.parse:(p:AP)→AV→Option p.Ty
 |.s p,.o (.s x)=>p.parse x
 |.a l,.o (.a m)=>pw.parse l m
 |.b i,.o (.s (.bp j 0))=>bif Nat.beq i j then some () else none
 |.r ek,.rs my l=>rF my ek l
 |.fn f is,.fn f' l=>bif Nat.beq f f'&&afa is l then some () else none
 |.vs l,.o (.s (.vs m 0))=>bif pw.K5 l then pw.parse l (cvs m) else none
 |_,_=>none
theorem AP.eN {T:bb}{β:Nat→Nat}{p:AP}{x:AV}{v:p.Ty}(h:p.parse x=some v):(∀{y:Value},x.rel T β y→(p.av v).rel T β y)∧(∀{cs:Array Value},x.rU T β cs→(p.av v).rU T β cs)∧∀i∈(p.av v).boxes,i∈x.boxes:=by
 unfold AP.parse at h
 split at h
 ·rename_i q x'
  exact⟨fun hr=>(SP.eN h).1 hr,fun hc=>hc.elim,fun i hi=>(SP.eN (T:=T) (β:=β) h).2 i hi⟩
 ·rename_i l m
  refine⟨fun hr=>?_,fun hc=>?_,fun i hi=>?_⟩
  ·obtain⟨cs,e,hl⟩:=hr
   exact⟨cs,e,(pw.eN h).1 hl⟩
  ·exact (pw.eN h).1 hc
  ·exact (pw.eN (T:=T) (β:=β) h).2 i hi
 ·rename_i i j
  cases hb:Nat.beq i j with
  |false=>rw [hb] at h;cases h
  |true=>
   have:i=j:=by simpa using hb
   subst this
   exact⟨fun hr=>hr,fun hc=>hc.elim,fun k hk=>hk⟩
 ·rename_i ek my l
  obtain⟨rfl,hm⟩:=ic h
  cases hm
  exact⟨fun hr=>hr,fun hc=>hc,fun k hk=>hk⟩
 ·rename_i f is f' l
  cases hb:Nat.beq f f'&&afa is l with
  |false=>rw [hb] at h;cases h
  |true=>
   simp only [ZA9,Nat.beq_eq] at hb
   obtain⟨rfl,h2⟩:=hb
   rw [aau h2]
   exact⟨fun hr=>hr,fun hc=>hc.elim,fun k hk=>hk⟩
 ·rename_i l m
  cases hb:pw.K5 l with
  |false=>rw [hb] at h;cases h
  |true=>
   rw [hb] at h
   have h':pw.parse l (cvs m)=some v:=h
   refine⟨fun hr=>?_,fun hc=>hc.elim,fun k hk=>by simp [AP.av,AV.boxes,A0.boxes,SV.boxes] at hk⟩
   obtain⟨b,cs,e,h1,h2⟩:=hr
   exact⟨b,cs,e,h1,pw.JO (β:=β) hb ((pw.eN h').1 (zo h2))⟩
 ·cases h
abbrev APs.Ty:List AP→Type
 |[]=>Unit
 |[p]=>p.Ty
 |p::q::l=>p.Ty×APs.Ty (q::l)
def APs.avs:(l:List AP)→APs.Ty l→List AV
 |[],_=>[]
 |[p],x=>[p.av x]
 |p::q::l,x=>p.av x.1::APs.avs (q::l) x.2
def APs.parse:(l:List AP)→List AV→Option (APs.Ty l)
 |[],[]=>some ()
 |[p],[x]=>p.parse x
 |p::q::l,x::m=>match p.parse x,APs.parse (q::l) m with
  |some v,some r=>some (v,r)
  |_,_=>none
 |_,_=>none
theorem APs.fE:∀(l:List AP) (v:APs.Ty l),(APs.avs l v).length=l.length
 |[],_=>rfl
 |[_],_=>rfl
 |p::q::l,v=>by simp [APs.avs,APs.fE (q::l) v.2]
theorem APs.HE:∀{l:List AP}{m:List AV}{v:APs.Ty l},APs.parse l m=some v→m.length=l.length∧∀(i:Nat) (av:AV),(APs.avs l v)[i]?=some av→∃(p:AP) (x:AV) (u:p.Ty),m[i]?=some x∧p.parse x=some u∧av=p.av u
 |[],[],_,_=>⟨rfl,by simp [APs.avs]⟩
 |[],_::_,_,h=>by simp [APs.parse] at h
 |[p],[],_,h=>by simp [APs.parse] at h
 |[p],[x],v,h=>by
  refine⟨rfl,fun i av hi=>?_⟩
  cases i with
  |zero=>
   have:p.av v=av:=by simpa [APs.avs] using hi
   exact⟨p,x,v,rfl,h,this.symm⟩
  |succ i=>simp [APs.avs] at hi
 |[p],_::_::_,v,h=>by simp [APs.parse] at h
 |p::q::l,[],v,h=>by simp [APs.parse] at h
 |p::q::l,x::m,v,h=>by
  simp only [APs.parse] at h
  split at h
  ·rename_i v1 r1 h1 h2
   cases h
   obtain⟨g1,g2⟩:=APs.HE (l:=q::l) h2
   refine⟨by simp at g1 ⊢;exact g1,fun i av hi=>?_⟩
   cases i with
   |zero=>
    have:p.av v1=av:=by simpa [APs.avs] using hi
    exact⟨p,x,v1,rfl,h1,this.symm⟩
   |succ i=>
    simp only [APs.avs,List.getElem?_cons_succ] at hi
    obtain⟨p',x',u,g3,g4,g5⟩:=g2 i av hi
    exact⟨p',x',u,by simpa using g3,g4,g5⟩
  ·cases h
structure cn where
 A:List AP
 B:List AP
 pre:APs.Ty A→APs.Ty B→Prop
 α:APs.Ty A→APs.Ty B→Type:=fun _ _=>Unit
 φ:∀x y,α x y→Prop:=fun _ _ _=>True
 r:∀x y,α x y→AV
 o:∀x y,α x y→List AV
 nf:Nat:=0
 mv:Bool:=false
 ro:Bool:=false
def wj (P:Program) (f:FuncId) (c:cn):Prop:=
 ∀x y,c.pre x y→TC P f c.mv (APs.avs c.A x) (APs.avs c.B y) (fun r os=>∃z,c.φ x y z∧r=c.r x y z∧os=c.o x y z∧os.length=c.B.length+c.nf)
end GL
end Go.Proofs.YtnkbdhldiinfdaaGreatDoor
