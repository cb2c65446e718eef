/- Part 6 of the proof of a drawn law. -/
import Derived.Test.YtnkbdhldiinfdaaGreatDoorPae
set_option maxHeartbeats 20000000
set_option maxRecDepth 100000
set_option linter.all false
namespace Go.Proofs.YtnkbdhldiinfdaaGreatDoor
namespace GL
section
variable {P:Program}{N:Nat}{τ:St}
variable {d:Nat}{x y z:Operand}{t u ty:TypeId}{pos:String}{af:Array Edge}{g:Option (Nat×Bool)}
def ace (ek:EK):SV→Option Nat
 |.sl my n=>bif EK.beq my ek then some n else none
 |.v (.slice none 0 0)=>some 0
 |_=>none
theorem we {T:bb}{β:Nat→Nat}{ek:EK}{v:SV}{n:Nat}(h:ace ek v=some n) {y:Value}(hr:v.rel T β y):(SV.sl ek n).rel T β y:=by
 unfold ace at h
 split at h
 ·rename_i my m
  cases hb:EK.beq my ek with
  |false=>rw [hb] at h;cases h
  |true=>
   rw [hb] at h;cases h
   have he:=EK.eq_of_beq hb
   subst he
   exact hr
 ·cases h
  exact .inl ⟨rfl,none,hr⟩
 ·cases h
theorem YR {T:bb}{β:Nat→Nat}{w:World}(hT:WT T w) {ek:EK}{n:Nat}{y:Value}(hr:(SV.sl ek n).rel T β y):∃l:List (EK.Ty ek),l.length=n∧(∀x∈l,EK.ok ek x)∧Rd w y ek l:=by
 rcases hr with ⟨rfl,p,rfl⟩ |⟨b,o,cap,m,rfl,h2,h3,h4⟩
 ·exact⟨[],rfl,by simp,.inl ⟨rfl,p,0,rfl⟩⟩
 ·obtain⟨fA,cs,e,fr,l,hb,ke,l5⟩:=hT b _ h3
  have hlen:((l.drop o).take n).length=n:=by simp [l5.1];omega
  refine⟨(l.drop o).take n,hlen,λx hx=>l5.2.1 x (ZF2 (ZE6 hx)),.inr ⟨b,o*ek.length,cap,cs,e,fr,by rw [hlen],hb,?_⟩⟩
  have:=wq (FZ l5) o n
  rwa [ZA6] at this
def aiq (pt:Bool) (d:Nat) (ek:EK) (v u:AV):Q Rs:=
 match v,u with
 |.o (.s v'),.o (.s u')=>match ace ek v' with
  |some m=>match ace ek u' with
   |some n=>.ret (.mZ (m+n≤1048576) [(.s d,.s (.sl ek (m+n)))])
   |none=>G1 pt ek u λp l2=>.ret (.mZ (m+l2.length≤1048576∧p∧SE ek l2) [(.s d,.s (.sl ek (m+l2.length)))])
  |none=>.ret .no
 |_,_=>.ret .no
theorem aft {ek:EK}{jK:Nat}(hf:Fits P t ek jK) {c:Ctx}{T:bb}{β:Nat→Nat}{a:Act}{w:World}(hh:Holds N c T β τ a w) {m:Nat}{v1 v2:Value}(h1:(SV.sl ek m).rel T β v1) {l2:List (EK.Ty ek)}(h2:Rd w v2 ek l2) (cG:∀x∈l2,EK.ok ek x) (hle:m+l2.length≤1048576):
  ∃val T' w',(Builtin.append_ #[t,t] ty #[v1,v2]).run P w= .ok val w'∧Holds N c T' β τ a w'∧(SV.sl ek (m+l2.length)).rel T' β val:=by
 by_cases hn:l2=[]
 ·subst hn
  have h0:(Builtin.append_ #[t,t] ty #[v1,v2]).run P w= .ok v1 w:=by
   have e2:∃p c2,v2= .slice p 0 c2:=by
    rcases h2 with ⟨_,p,c2,e⟩ |⟨b,o,c2,_,_,_,e,_⟩
    ·exact⟨p,c2,e⟩
    ·exact⟨_,c2,e⟩
   obtain⟨p2,c2,rfl⟩:=e2
   rcases h1 with ⟨rfl,p,rfl⟩ |⟨b,o,cap,n,rfl,hmc,_,_⟩
   ·exact r6 hf w (ZB5 _) (λ_=>rfl)
   ·exact r6 hf w hmc (by simp)
  exact⟨v1,T,w,h0,hh,h1⟩
 ·have grow:∀{p:Option Addr} {cap:Nat} {l1:List (EK.Ty ek)},v1= .slice p l1.length cap→l1.length=m→(∀x∈l1,EK.ok ek x)→((l1=[]∧(p=none→cap=0))∨∃b o cs e' fr,p=some ⟨b,o,none⟩∧w.heap[b]?=some (.cells cs e' fr)∧win cs o (flat ek l1))→cap<m+l2.length→
    ∃val T' w',(Builtin.append_ #[t,t] ty #[v1,v2]).run P w= .ok val w'∧Holds N c T' β τ a w'∧(SV.sl ek (m+l2.length)).rel T' β val:=by
   intro p cap l1 e1 hl1 akX hw1 bU
   subst e1;subst hl1
   obtain⟨w',yV,zz,mg,e',fk,hpu,I3,hz,EY⟩:=zm (ty:=ty) hf hw1 h2 hn bU hle
   have h3:=hh.CF (k:=.ty ek yV) hpu ⟨hf.ne,mg,e',(0,0),l1++l2++zz,hpu.new,I6 _,by simp [EY,ZF7],λx hx=>by
    rcases ZB4.1 hx with h |h
    ·rcases ZB4.1 h with h |h
     ·exact akX x h
     ·exact cG x h
    ·exact hz x h,I3⟩
   exact⟨_,_,_,fk,h3,.inr ⟨w.heap.size,0,yV,yV,by rw [ZH0],by omega,by unfold xi;rw [if_pos rfl],by omega⟩⟩
  have h1':=h1
  rcases h1 with ⟨rfl,p,rfl⟩ |⟨b,o,cap,n,rfl,hmc,hT,hon⟩
  ·exact grow (p:=p) (cap:=0) (l1:=[]) rfl rfl (by simp) (.inl ⟨rfl,λ_=>rfl⟩) (by have:=List.length_pos_iff.2 hn;omega)
  ·obtain⟨fA,cs,e,fr,l,hb,ke,l5⟩:=hh.typed b _ hT
   by_cases n0:m+l2.length≤cap
   ·have dj:cs.size=n*ek.length:=by rw [←ZE4,l5.2.2,cA,l5.1]
    have hb1:(o+(m+l2.length))*ek.length≤n*ek.length:=ZG6 _ (by omega)
    obtain⟨w',fk,hw⟩:=QV (ty:=ty) hf (m:=m) (cap:=cap) hb ke h2 hn n0 (by rw [dj,←ZE3];exact hb1)
    have EW:o*ek.length+m*ek.length=(o+m)*ek.length:=by rw [ZE3]
    rw [EW] at hw
    have vE:(spl cs ((o+m)*ek.length) (flat ek l2)).toList=flat ek (l.take (o+m)++l2++l.drop (o+m+l2.length)):=by
     rw [mD _ _ _ (by rw [cA,←ZE3,dj];exact ZG6 _ (by omega)),l5.2.2,cA,←ZE3,mX,ph,gD,gD]
    refine⟨_,T,w',fk,hh.uR hT hw (by rw [nE];exact ke) (l:=l.take (o+m)++l2++l.drop (o+m+l2.length)) ⟨?_,λx hx=>?_,vE⟩,.inr ⟨b,o,cap,n,ζ,n0,hT,hon⟩⟩
    ·have:=l5.1;simp;omega
    ·rcases ZB4.1 hx with h |h
     ·rcases ZB4.1 h with h |h
      ·exact l5.2.1 x (ZE6 h)
      ·exact cG x h
     ·exact l5.2.1 x (ZF2 h)
   ·have hlen:((l.drop o).take m).length=m:=by simp [l5.1];omega
    refine grow (p:=some ⟨b,o*ek.length,none⟩) (cap:=cap) (l1:=(l.drop o).take m) (by rw [hlen]) hlen (λx hx=>l5.2.1 x (ZF2 (ZE6 hx))) (.inr ⟨b,o*ek.length,cs,e,fr,rfl,hb,?_⟩) (by omega)
    have:=wq (FZ l5) o m
    rwa [ZA6] at this
theorem aio {pt:Bool}{ek:EK}{jK:Nat}(hf:Fits P t ek jK) (hd:d<N):fv P N ⟨some d,.call ⟨.builtin .append,#[x,y],#[t,t]⟩,ty,pos,af,g⟩ (bY x λv=>bY y λu=>aiq pt d ek v u):=by
 intro c τ a w hr hp K Q' hK
 obtain⟨T,β,hh⟩:=hr
 rw [c8] at hp hK
 cases hx:ev τ x with
 |none=>rw [hx] at hp;exact hp.elim
 |some v=>
  rw [hx] at hp hK
  simp only [c8] at hp hK
  cases hy:ev τ y with
  |none=>rw [hy] at hp;exact hp.elim
  |some u=>
   rw [hy] at hp hK
   simp only at hp hK
   have hv:=eP hh hx
   have hu:=eP hh hy
   have fin:∀{l2:List (EK.Ty ek)} {m:Nat},(SV.sl ek m).rel T β (a.eval x)→Rd w (a.eval y) ek l2→(∀x∈l2,EK.ok ek x)→m+l2.length≤1048576→(∀a' w',Rel N c (τ.ap [(.s d,.s (.sl ek (m+l2.length)))]) a' w'→K a' w')→Oper.wp P ⟨some d,.call ⟨.builtin .append,#[x,y],#[t,t]⟩,ty,pos,af,g⟩ a w K Q':=by
    intro l2 m h1 h2 cG hle hK
    obtain⟨val,T',w',fk,hh',c6⟩:=aft (ty:=ty) hf hh h1 h2 cG hle
    unfold Oper.wp
    rw [KF (x:=x) (y:=y) rfl rfl fk]
    show K (a.put (some d) val) w'
    exact hK _ _ ⟨_,_,hh'.put hd (av:=.s (.sl ek (m+l2.length))) c6 (by simp [AV.boxes,A0.boxes,SV.boxes])⟩
   unfold aiq at hp hK
   split at hp
   ·rename_i v' u'
    split at hp
    ·rename_i m hm
     simp only [hm] at hK
     split at hp
     ·rename_i n hn
      simp only [hn,Q.run] at hK
      obtain⟨l2,hl2,cG,hRd⟩:=YR hh.typed (we hn hu)
      subst hl2
      exact fin (we hm hv) hRd cG hp (λa' w' h=>hK _ _ _ rfl h)
     ·rename_i hn
      simp only [hn] at hK
      obtain⟨p,l2,fk,hRd⟩:=wB hh hu hp
      rw [fk] at hp hK
      obtain⟨h1,h2,h3⟩:m+l2.length≤1048576∧p∧SE ek l2:=hp
      exact fin (we hm hv) (hRd h2) (CB h3) h1 (λa' w' h=>hK _ _ _ rfl h)
    ·exact hp.elim
   ·exact hp.elim
def fa (l:List Int):ByteArray:=l.foldl (λr n=>r.push (UInt8.ofNat n.toNat)) ByteArray.empty
theorem nC:∀(l:List Int) (r:ByteArray),(l.foldl (λr n=>r.push (UInt8.ofNat n.toNat)) r).size=r.size+l.length
 |[],r=>by simp
 |n::l,r=>by
  rw [List.foldl_cons,nC l]
  simp [ByteArray.size_push];omega
abbrev mf:EK:=[.u8]
theorem Z2:∀l:List Int,flat mf l=l.map (Value.int .u8)
 |[]=>rfl
 |n::l=>by
  have:=Z2 l
  rw [iS,this];rfl
theorem acA {e:TypeId}(hs:P.underlying t=some (.slice e)) (he:P.underlying e=some (.int .u8)) (hd:P.underlying u=some .string) {w:World}{v:Value}{l:List Int}(h:Rd w v mf l):(convert t u v).run P w= .ok (.string (fa l)) w:=by
 rcases h with ⟨rfl,p,cap,rfl⟩ |⟨b,o,cap,cs,e',fr,rfl,hb,hw⟩
 ·rw [run_convert_bytes_string w t u e p 0 cap hs he hd]
  cases p with
  |none=>simp [Conv.bytesToString,fa]
  |some p=>
   rw [run_bytesToString (P:=P) w p 0 cap [] (by simp [loadCells,loadCellsFrom])]
   rfl
 ·rw [run_convert_bytes_string w t u e _ _ cap hs he hd]
  have h1:=run_loadCells_list (P:=P) w ⟨b,o,none⟩ (flat mf l) (Rd.cells (ek:=mf) hb hw)
  rw [cA,Z2] at h1
  simp only [List.length_singleton,Nat.mul_one] at h1
  rw [run_bytesToString (P:=P) w ⟨b,o,none⟩ l.length cap l h1]
  rfl
def acr (pt:Bool) (d:Nat) (v:AV):Q Rs:=
 match v with
 |.o (.s v')=>match ace mf v' with
  |some n=>.ret (.ex True ByteArray (λs=>s.size=n) [(.s d,λs=>.str s)])
  |none=>G1 pt mf v λp (l:List Int)=>.ret (.mZ p [(.s d,.str (fa l))])
 |_=>.ret .no
theorem ah9 {pt:Bool}{e:TypeId}(hs:P.underlying t=some (.slice e)) (he:P.underlying e=some (.int .u8)) (hu:P.underlying u=some .string) (hd:d<N):fv P N ⟨some d,.convert t u x,ty,pos,af,g⟩ (bY x λv=>acr pt d v):=by
 intro c τ a w hr hp K Q' hK
 obtain⟨T,β,hh⟩:=hr
 rw [c8] at hp hK
 cases hx:ev τ x with
 |none=>rw [hx] at hp;exact hp.elim
 |some v=>
  rw [hx] at hp hK
  simp only at hp hK
  have hv:=eP hh hx
  have hex:∀{l:List Int},Rd w (a.eval x) mf l→(execOp a.eval ⟨some d,.convert t u x,ty,pos,af,g⟩).run P w= .ok (.value (.string (fa l))) w:=λh=>by
   simp [execOp,acA hs he hu h]
  unfold acr at hp hK
  split at hp
  ·rename_i v'
   split at hp
   ·rename_i n hn
    simp only [hn] at hK
    obtain⟨l,hl,cG,hRd⟩:=YR hh.typed (we hn hv)
    have dj:(fa l).size=n:=by
     have:=nC l ByteArray.empty
     unfold fa
     rw [this,←hl];simp
    exact fv.value (av:=.str (fa l)) hh rfl hd (hex hRd) rfl (by simp [AV.boxes,A0.boxes,SV.boxes]) (λa' h=>hK _ _ _ ⟨_,dj,rfl⟩ h)
   ·rename_i hn
    simp only [hn] at hK
    obtain⟨p,l,fk,hRd⟩:=wB hh hv hp
    rw [fk] at hp hK
    exact fv.value (av:=.str (fa l)) hh rfl hd (hex (hRd hp)) rfl (by simp [AV.boxes,A0.boxes,SV.boxes]) (λa' h=>hK _ _ _ rfl h)
  ·exact hp.elim
def acy (v:AV):V1:=
 match v with
 |.o (.s (.sl ek n))=>.mZ (0<n) (.s (.sl ek n))
 |_=>.no
theorem aia {e:TypeId}(hs:P.underlying t=some (.slice e)) (he:P.underlying e=some (.int .u8)) (hd:d<N):fv P N ⟨some d,.convert t t x,ty,pos,af,g⟩ (bY x λv=>.ret ((acy v).rs d)):=by
 intro c τ a w hr hp K Q' hK
 obtain⟨T,β,hh⟩:=hr
 rw [c8] at hp hK
 cases hx:ev τ x with
 |none=>rw [hx] at hp;exact hp.elim
 |some v=>
  rw [hx] at hp hK
  simp only at hp hK
  have hv:=eP hh hx
  unfold acy at hp hK
  split at hp
  ·rename_i ek n
   simp only at hK
   rcases hv with ⟨rfl,p,e1⟩ |⟨b,o,cap,m,e1,h2,h3,h4⟩
   ·exact absurd (show 0<0 from hp) (by omega)
   ·obtain⟨fA,cs,e',fr,l,hb,ke,l5⟩:=hh.typed b _ h3
    have ahM:w.shape? b=some (e',cs.size):=by simp [World.shape?,hb]
    have hex:(execOp a.eval ⟨some d,.convert t t x,ty,pos,af,g⟩).run P w= .ok (.value (.slice (some ⟨b,o*ek.length,none⟩) n cap)) (w.freeze ⟨b,cs.size,none⟩ 1):=by
     simp [execOp,e1,convert,run_underlying hs,run_underlying he,markStringish,ahM]
    have hfz:P5 w b (.cells cs e' (if fr.1==fr.2 then (cs.size,cs.size+1) else (min fr.1 cs.size,max fr.2 (cs.size+1)))) (w.freeze ⟨b,cs.size,none⟩ 1):= {
     at_:=by simp [World.freeze,Array.getElem?_modify,hb]
     other:=λk hk=>by simp only [World.freeze];rw [if_neg (by omega)];simp only [Array.getElem?_modify];rw [if_neg (by omega)]
     size:=by simp [World.freeze]
     os:=rfl
     tape:=rfl
     output:=rfl }
    have h5:=hh.uR h3 hfz (by
     split
     ·exact .inr ⟨ZB5 _,by simp⟩
     ·rcases ke with h |h
      ·rename_i fA;exact absurd (by simpa using h) fA
      ·exact .inr ⟨by simp;omega,by simp;omega⟩) l5
    unfold Oper.wp
    rw [hex]
    exact hK _ _ _ rfl ⟨_,_,h5.put hd (av:=.s (.sl ek n)) (.inr ⟨b,o,cap,m,rfl,h2,h3,h4⟩) (by simp [AV.boxes,A0.boxes,SV.boxes])⟩
  ·exact hp.elim
end
end GL
namespace GL
inductive SP where
 |int
 |byte
 |str
 |bool
 |sl (ek:EK)
 |vz (ek:EK)
 |vw (ek:EK)
 |xb (i:Nat) (ek:EK)
abbrev SP.Ty:SP→Type
 |.int=>Int
 |.byte=>Int
 |.str=>ByteArray
 |.bool=>Bool
 |.sl _=>Nat
 |.vz ek=>List (EK.Ty ek)
 |.vw ek=>List (EK.Ty ek)
 |.xb _ _=>Nat
def SP.sv:(p:SP)→p.Ty→SV
 |.int,n=>.v (.int .i64 n)
 |.byte,n=>.v (.int .u8 n)
 |.str,s=>.v (.string s)
 |.bool,b=>.q b
 |.sl ek,n=>.sl ek n
 |.vz ek,l=>.vz ek l
 |.vw ek,l=>.vw ek l
 |.xb i ek,m=>.xs i ek.length 0 m
def SP.parse:(p:SP)→SV→Option p.Ty
 |.int,.v (.int .i64 n)=>some n
 |.byte,.v (.int .u8 n)=>some n
 |.str,.v (.string s)=>some s
 |.bool,.q b=>some b
 |.bool,.v (.bool b)=>some b
 |.sl ek,x=>ace ek x
 |.vz ek,.vz my l=>rF my ek l
 |.vz ek,.vw my l=>rF my ek l
 |.vz _,.v (.slice none 0 0)=>some []
 |.vw ek,.vw my l=>rF my ek l
 |.vw _,.v (.slice none 0 0)=>some []
 |.xb i ek,.xs j sz 0 m=>bif Nat.beq i j&&Nat.beq sz ek.length then some m else none
 |_,_=>none
theorem SP.eN {T:bb}{β:Nat→Nat}{p:SP}{x:SV}{v:p.Ty}(h:p.parse x=some v):(∀{y:Value},x.rel T β y→(p.sv v).rel T β y)∧∀i∈(p.sv v).boxes,i∈x.boxes:=by
 unfold SP.parse at h
 split at h
 ·cases h;exact⟨λhr=>hr,λ_ hi=>hi⟩
 ·cases h;exact⟨λhr=>hr,λ_ hi=>hi⟩
 ·cases h;exact⟨λhr=>hr,λ_ hi=>hi⟩
 ·cases h;exact⟨λhr=>hr,λ_ hi=>hi⟩
 ·cases h;exact⟨λhr=>hr,λ_ hi=>hi⟩
 ·exact⟨λhr=>we h hr,λi hi=>by simp [SP.sv,SV.boxes] at hi⟩
 ·obtain⟨rfl,hm⟩:=ic h
  cases hm;exact⟨λhr=>hr,λ_ hi=>hi⟩
 ·obtain⟨rfl,hm⟩:=ic h
  cases hm
  refine⟨λhr=>?_,λi hi=>by simp [SP.sv,SV.boxes] at hi⟩
  rcases hr with hr |⟨b,o,cap,cs,e,fr,h1,h2,h3,h4⟩
  ·exact .inl hr
  ·exact .inr ⟨b,o,cap,cs,h1,h2,.inl ⟨e,fr,h3⟩,h4⟩
 ·cases h;exact⟨λhr=>.inl ⟨rfl,none,0,hr⟩,λi hi=>by simp [SP.sv,SV.boxes] at hi⟩
 ·obtain⟨rfl,hm⟩:=ic h
  cases hm;exact⟨λhr=>hr,λ_ hi=>hi⟩
 ·cases h;exact⟨λhr=>.inl ⟨rfl,none,0,hr⟩,λi hi=>by simp [SP.sv,SV.boxes] at hi⟩
 ·rename_i i ek j sz m
  cases hc:Nat.beq i j&&Nat.beq sz ek.length with
  |false=>rw [hc] at h;cases h
  |true=>
   rw [hc] at h;cases h
   simp only [ZA9] at hc
   have h1:i=j:=by simpa using hc.1
   have h2:sz=ek.length:=by simpa using hc.2
   subst h1;subst h2
   exact⟨λhr=>hr,λ_ hi=>hi⟩
 ·cases h
abbrev pw.Ty:List SP→Type
 |[]=>Unit
 |[p]=>p.Ty
 |p::q::l=>p.Ty×pw.Ty (q::l)
def pw.AX:(l:List SP)→pw.Ty l→List SV
 |[],_=>[]
 |[p],x=>[p.sv x]
 |p::q::l,x=>p.sv x.1::pw.AX (q::l) x.2
def pw.parse:(l:List SP)→List SV→Option (pw.Ty l)
 |[],[]=>some ()
 |[p],[x]=>p.parse x
 |p::q::l,x::m=>match p.parse x,pw.parse (q::l) m with
  |some v,some r=>some (v,r)
  |_,_=>none
 |_,_=>none
theorem pw.eN {T:bb}{β:Nat→Nat}:∀{l:List SP}{m:List SV}{v:pw.Ty l},pw.parse l m=some v→(∀{ys:List Value},dN T β m ys→dN T β (pw.AX l v) ys)∧∀i∈cc (pw.AX l v),i∈cc m
 |[],[],_,_=>⟨λh=>h,λi hi=>hi⟩
 |[],_::_,_,h=>by simp [pw.parse] at h
 |[p],[],_,h=>by simp [pw.parse] at h
 |[p],[x],v,h=>by
  have:=SP.eN (T:=T) (β:=β) (p:=p) h
  refine⟨λ{ys} h'=>?_,λi hi=>?_⟩
  ·match ys,h' with
   |[y],h'=>exact⟨this.1 h'.1,trivial⟩
  ·simp only [pw.AX,cc,ZE5] at hi ⊢
   exact this.2 i hi
 |[p],_::_::_,v,h=>by simp [pw.parse] at h
 |p::q::l,[],v,h=>by simp [pw.parse] at h
 |p::q::l,x::m,v,h=>by
  simp only [pw.parse] at h
  split at h
  ·rename_i v1 r1 h1 h2
   cases h
   have g1:=SP.eN (T:=T) (β:=β) h1
   have g2:=pw.eN (T:=T) (β:=β) (l:=q::l) h2
   refine⟨λ{ys} h'=>?_,λi hi=>?_⟩
   ·match ys,h' with
    |y::ys,h'=>exact⟨g1.1 h'.1,g2.1 h'.2⟩
   ·simp only [pw.AX,cc,ZB4] at hi ⊢
    rcases hi with hi |hi
    ·exact .inl (g1.2 i hi)
    ·exact .inr (g2.2 i hi)
  ·cases h
inductive AP where
 |s (p:SP)
 |a (l:List SP)
 |b (i:Nat)
 |r (ek:EK)
 |fn (f:Nat) (is:List Nat)
 |vs (l:List SP)
abbrev AP.Ty:AP→Type
 |.s p=>p.Ty
 |.a l=>pw.Ty l
 |.b _=>Unit
 |.r ek=>List (EK.Ty ek)
 |.fn _ _=>Unit
 |.vs l=>pw.Ty l
def SP.cv:(p:SP)→p.Ty→CV
 |.int,n=>.v (.int .i64 n)
 |.byte,n=>.v (.int .u8 n)
 |.str,s=>.v (.string s)
 |.bool,b=>.q b
 |.vz ek,l=>.vz ek l
 |_,_=>.v undef
def SP.K5:SP→Bool
 |.int=>true
 |.byte=>true
 |.str=>true
 |.bool=>true
 |.vz _=>true
 |_=>false
def pw.K5:List SP→Bool
 |[]=>true
 |p::l=>p.K5&&pw.K5 l
def pw.cvl:(l:List SP)→pw.Ty l→List CV
 |[],_=>[]
 |[p],x=>[p.cv x]
 |p::q::l,x=>p.cv x.1::pw.cvl (q::l) x.2
theorem SP.JO {T:bb}{β:Nat→Nat}{p:SP}(h:p.K5=true) {x:p.Ty}{v:Value}(hr:(p.sv x).rel T β v):(p.cv x).rel T v:=by
 cases p<;>first|exact hr|cases h
theorem pw.JO {T:bb}{β:Nat→Nat}:∀{l:List SP},pw.K5 l=true→∀{x:pw.Ty l}{vs:List Value},dN T β (pw.AX l x) vs→xl T (pw.cvl l x) vs
 |[],_,_,vs,hr=>by cases vs<;>first|trivial|exact hr.elim
 |[p],h,x,vs,hr=>by
  simp only [pw.K5,ZA9] at h
  match vs,hr with
  |[v],hr=>exact⟨SP.JO h.1 hr.1,trivial⟩
  |_::_::_,hr=>exact hr.2.elim
 |p::q::l,h,x,vs,hr=>by
  simp only [pw.K5,ZA9] at h
  match vs,hr with
  |v::vs,hr=>exact⟨SP.JO h.1 hr.1,pw.JO (l:=q::l) (by simp [pw.K5,h.2]) hr.2⟩
def zc:List Nat→List (Nat×Nat)
 |[]=>[]
 |i::l=>(i,0)::zc l
def afa:List Nat→List (Nat×Nat)→Bool
 |[],[]=>true
 |i::l,p::m=>(Nat.beq i p.1&&Nat.beq 0 p.2)&&afa l m
 |_,_=>false
theorem aau:∀{l:List Nat}{m:List (Nat×Nat)},afa l m=true→m=zc l
 |[],[],_=>rfl
 |[],_::_,h=>by cases h
 |_::_,[],h=>by cases h
 |i::l,(a,b)::m,h=>by
  simp only [afa,ZA9,Nat.beq_eq] at h
  obtain⟨⟨rfl,rfl⟩,h2⟩:=h
  rw [zc,aau h2]
def AP.av:(p:AP)→p.Ty→AV
 |.s p,x=>.s (p.sv x)
 |.a l,x=>.a (pw.AX l x)
 |.b i,_=>.s (.bp i 0)
 |.r ek,l=>.rs ek l
 |.fn f is,_=>.fn f (zc is)
 |.vs l,x=>.s (.vs (pw.cvl l x) 0)
def AP.parse:(p:AP)→AV→Option p.Ty
 |.s p,.o (.s x)=>p.parse x
 |.a l,.o (.a m)=>pw.parse l m
 |.b i,.o (.s (.bp j 0))=>bif Nat.beq i j then some () else none
 |.r ek,.rs my l=>rF my ek l
 |.fn f is,.fn f' l=>bif Nat.beq f f'&&afa is l then some () else none
 |.vs l,.o (.s (.vs m 0))=>bif pw.K5 l then pw.parse l (cvs m) else none
 |_,_=>none
theorem AP.eN {T:bb}{β:Nat→Nat}{p:AP}{x:AV}{v:p.Ty}(h:p.parse x=some v):(∀{y:Value},x.rel T β y→(p.av v).rel T β y)∧(∀{cs:Array Value},x.rU T β cs→(p.av v).rU T β cs)∧∀i∈(p.av v).boxes,i∈x.boxes:=by
 unfold AP.parse at h
 split at h
 ·rename_i q x'
  exact⟨λhr=>(SP.eN h).1 hr,λhc=>hc.elim,λi hi=>(SP.eN (T:=T) (β:=β) h).2 i hi⟩
 ·rename_i l m
  refine⟨λhr=>?_,λhc=>?_,λi hi=>?_⟩
  ·obtain⟨cs,e,hl⟩:=hr
   exact⟨cs,e,(pw.eN h).1 hl⟩
  ·exact (pw.eN h).1 hc
  ·exact (pw.eN (T:=T) (β:=β) h).2 i hi
 ·rename_i i j
  cases hb:Nat.beq i j with
  |false=>rw [hb] at h;cases h
  |true=>
   have:i=j:=by simpa using hb
   subst this
   exact⟨λhr=>hr,λhc=>hc.elim,λk hk=>hk⟩
 ·rename_i ek my l
  obtain⟨rfl,hm⟩:=ic h
  cases hm
  exact⟨λhr=>hr,λhc=>hc,λk hk=>hk⟩
 ·rename_i f is f' l
  cases hb:Nat.beq f f'&&afa is l with
  |false=>rw [hb] at h;cases h
  |true=>
   simp only [ZA9,Nat.beq_eq] at hb
   obtain⟨rfl,h2⟩:=hb
   rw [aau h2]
   exact⟨λhr=>hr,λhc=>hc.elim,λk hk=>hk⟩
 ·rename_i l m
  cases hb:pw.K5 l with
  |false=>rw [hb] at h;cases h
  |true=>
   rw [hb] at h
   have h':pw.parse l (cvs m)=some v:=h
   refine⟨λhr=>?_,λhc=>hc.elim,λk hk=>by simp [AP.av,AV.boxes,A0.boxes,SV.boxes] at hk⟩
   obtain⟨b,cs,e,h1,h2⟩:=hr
   exact⟨b,cs,e,h1,pw.JO (β:=β) hb ((pw.eN h').1 (zo h2))⟩
 ·cases h
abbrev APs.Ty:List AP→Type
 |[]=>Unit
 |[p]=>p.Ty
 |p::q::l=>p.Ty×APs.Ty (q::l)
def APs.avs:(l:List AP)→APs.Ty l→List AV
 |[],_=>[]
 |[p],x=>[p.av x]
 |p::q::l,x=>p.av x.1::APs.avs (q::l) x.2
def APs.parse:(l:List AP)→List AV→Option (APs.Ty l)
 |[],[]=>some ()
 |[p],[x]=>p.parse x
 |p::q::l,x::m=>match p.parse x,APs.parse (q::l) m with
  |some v,some r=>some (v,r)
  |_,_=>none
 |_,_=>none
theorem APs.fE:∀(l:List AP) (v:APs.Ty l),(APs.avs l v).length=l.length
 |[],_=>rfl
 |[_],_=>rfl
 |p::q::l,v=>by simp [APs.avs,APs.fE (q::l) v.2]
theorem APs.HE:∀{l:List AP}{m:List AV}{v:APs.Ty l},APs.parse l m=some v→m.length=l.length∧∀(i:Nat) (av:AV),(APs.avs l v)[i]?=some av→∃(p:AP) (x:AV) (u:p.Ty),m[i]?=some x∧p.parse x=some u∧av=p.av u
 |[],[],_,_=>⟨rfl,by simp [APs.avs]⟩
 |[],_::_,_,h=>by simp [APs.parse] at h
 |[p],[],_,h=>by simp [APs.parse] at h
 |[p],[x],v,h=>by
  refine⟨ζ,λi av hi=>?_⟩
  cases i with
  |zero=>
   have:p.av v=av:=by simpa [APs.avs] using hi
   exact⟨p,x,v,rfl,h,this.symm⟩
  |succ i=>simp [APs.avs] at hi
 |[p],_::_::_,v,h=>by simp [APs.parse] at h
 |p::q::l,[],v,h=>by simp [APs.parse] at h
 |p::q::l,x::m,v,h=>by
  simp only [APs.parse] at h
  split at h
  ·rename_i v1 r1 h1 h2
   cases h
   obtain⟨g1,g2⟩:=APs.HE (l:=q::l) h2
   refine⟨by simp at g1 ⊢;exact g1,λi av hi=>?_⟩
   cases i with
   |zero=>
    have:p.av v1=av:=by simpa [APs.avs] using hi
    exact⟨p,x,v1,rfl,h1,this.symm⟩
   |succ i=>
    simp only [APs.avs,List.getElem?_cons_succ] at hi
    obtain⟨p',x',u,g3,g4,g5⟩:=g2 i av hi
    exact⟨p',x',u,by simpa using g3,g4,g5⟩
  ·cases h
structure cn where
 A:List AP
 B:List AP
 pre:APs.Ty A→APs.Ty B→Prop
 α:APs.Ty A→APs.Ty B→Type:=λ_ _=>Unit
 φ:∀x y,α x y→Prop:=λ_ _ _=>True
 r:∀x y,α x y→AV
 o:∀x y,α x y→List AV
 nf:Nat:=0
 mv:Bool:=false
 ro:Bool:=false
def wj (P:Program) (f:FuncId) (c:cn):Prop:=
 ∀x y,c.pre x y→TC P f c.mv (APs.avs c.A x) (APs.avs c.B y) (λr os=>∃z,c.φ x y z∧r=c.r x y z∧os=c.o x y z∧os.length=c.B.length+c.nf)
end GL
namespace GL
section
variable {P:Program}{N:Nat}{τ:St}
variable {d:Nat}{x y z:Operand}{t u ty:TypeId}{pos:String}{af:Array Edge}{g:Option (Nat×Bool)}
def Enters (P : Program) (f : FuncId) : Prop := ∃ fn, P.funcs[f]? = some fn ∧ fn.body.isSome = true ∧ fn.name ≠ "runtime.NumGoroutine"
theorem aaK {f:FuncId}(h:Enters P f) {args:Array Operand}{tys:Array TypeId}{ρ:Operand→Value}(hρ:ρ (.func f)= .func (.func f) #[] #[]) {w:World}{dst:Option Nat}:
  (execOp ρ ⟨dst,.call ⟨.value (.func f),args,tys⟩,ty,pos,af,g⟩).run P w= .ok (.enter f (args.map ρ)) w:=by
 obtain⟨fn,h1,h2,h3⟩:=h
 obtain⟨cd,hcd⟩:=Option.isSome_iff_exists.1 h2
 simp [execOp,resolve,hρ,Deferred.ofValue,invoke,callFunc,h1,hcd,h3]
def YA:List Operand→(List AV→Q Rs)→Q Rs
 |[],k=>k []
 |x::l,k=>bY x λv=>YA l λvs=>k (v::vs)
def evA (τ:St):List Operand→Option (List AV)
 |[]=>some []
 |x::l=>match ev τ x with
  |some v=>match evA τ l with
   |some vs=>some (v::vs)
   |none=>none
  |none=>none
theorem AK (τ:St):∀(l:List Operand) (k:List AV→Q Rs),(YA l k).run τ=match evA τ l with
  |some v=>(k v).run τ
  |none=>.no
 |[],k=>rfl
 |x::l,k=>by
  simp only [YA,c8,evA]
  cases ev τ x with
  |none=>rfl
  |some v=>
   simp only [AK τ l]
   cases evA τ l<;>rfl
def adP:SP→Bool
 |.xb _ _=>true
 |_=>false
def agN (p:SP) (v:SV):List Nat:=
 match v with
 |.xs i _ _ _=>bif adP p then [i] else []
 |x=>x.boxes
def agO:List SP→List SV→List Nat
 |p::ps,x::l=>agN p x++agO ps l
 |_,_=>[]
def kept (p:AP) (v:AV):List Nat:=
 match p,v with
 |.s p,.o (.s x)=>agN p x
 |.a l,.o (.a m)=>agO l m
 |.b _,.o (.s x)=>x.boxes
 |.fn _ _,.fn _ l=>jH l
 |_,_=>[]
def ZS:List AP→List AV→List Nat
 |p::ps,x::l=>kept p x++ZS ps l
 |_,_=>[]
def L2 (pt kp:Bool) (ids:List Nat) (v:SV) (k:Prop→SV→Q Rs):Q Rs:=
 match v with
 |.xs i sz o m=>match kp with
  |true=>k True (.xs i sz o m)
  |false=>bif iz ids i then .ret .no else sR i fun
   |.rs ek l=>bif Nat.beq ek.length sz then (match pt with
    |true=>k (o+m≤l.length) (.vz ek ((l.drop o).take m))
    |false=>k (o=0∧m=l.length) (.vz ek l)) else .ret .no
   |_=>.ret .no
 |x=>k True x
def H7 (pt:Bool) (ids:List Nat):List SP→List SV→(Prop→List SV→Q Rs)→Q Rs
 |[],[],k=>k True []
 |p::ps,x::l,k=>L2 pt (adP p) ids x λp y=>H7 pt ids ps l λq m=>k (p∧q) (y::m)
 |_,_,_=>.ret .no
def uw (pt:Bool) (ids:List Nat):List SV→(Prop→List CV→Q Rs)→Q Rs
 |[],k=>k True []
 |.v x::l,k=>uw pt ids l λq m=>k q (.v x::m)
 |.q b::l,k=>uw pt ids l λq m=>k q (.q b::m)
 |.vz ek r::l,k=>uw pt ids l λq m=>k q (.vz ek r::m)
 |.vw ek r::l,k=>uw pt ids l λq m=>k q (.vz ek r::m)
 |.xs j sz o n::l,k=>bif iz ids j then .ret .no else sR j fun
  |.rs ek r=>bif Nat.beq ek.length sz then uw pt ids l λq m=>k ((o=0∧n=r.length)∧q) (.vz ek r::m) else .ret .no
  |_=>.ret .no
 |_::_,_=>.ret .no
def afR (pt:Bool) (ids:List Nat) (ap:AP) (v:AV) (k:Prop→AV→Q Rs):Q Rs:=
 match ap,v with
 |.fn _ _,.fn f l=>k True (.fn f l)
 |.vs _,.o (.s (.vs m 0))=>k True (.s (.vs m 0))
 |.vs _,.o (.s (.bp i 0))=>bif iz ids i then .ret .no else sR i fun
  |.o (.a l)=>uw pt ids l λp m=>k p (.s (.vs m 0))
  |_=>.ret .no
 |.s p,.o (.s x)=>L2 pt (adP p) ids x λp y=>k p (.s y)
 |.a l,.o (.a m)=>H7 pt ids l m λp m=>k p (.a m)
 |.b _,.o (.s x)=>L2 pt true ids x λp y=>k p (.s y)
 |_,_=>.ret .no
def H8 (pt:Bool) (ids:List Nat):List AP→List AV→(Prop→List AV→Q Rs)→Q Rs
 |[],[],k=>k True []
 |p::ps,x::l,k=>afR pt ids p x λp y=>H8 pt ids ps l λq m=>k (p∧q) (y::m)
 |_,_,_=>.ret .no
def gh:List AV→List Nat
 |[]=>[]
 |x::l=>x.boxes++gh l
def KE:List Nat→(List AV→Q Rs)→Q Rs
 |[],k=>k []
 |i::l,k=>sR i λv=>KE l λvs=>k (v::vs)
def AJ (base:Nat):Nat→Q Rs→Q Rs
 |0,k=>k
 |n+1,k=>.ask (.b (base+n)) fun
  |none=>AJ base n k
  |some _=>.ret .no
def BN (g:Nat→Nat):List AV→List AV
 |[]=>[]
 |x::l=>x.ly g::BN g l
def oO (ids:List Nat) (base:Nat) (j:Nat):Nat:=match ids[j]? with
 |some i=>i
 |none=>base+(j-ids.length)
def atA (os:List AV) (j:Nat):AV:=match os[j]? with
 |some x=>x
 |none=>.zz
def F3 {α:Type}(o:α→List AV) (g:Nat→Nat):Nat→List Nat→List (fJ×(α→AV))
 |_,[]=>[]
 |j,i::l=>(.b i,λz=>(atA (o z) j).ly g)::F3 o g (j+1) l
def H3:List AV→Bool
 |[]=>true
 |.o (.a _)::l=>H3 l
 |.rs _ _::l=>H3 l
 |_::_=>false
def il (mv:Bool) (d:Nat):Nat:=bif mv then 1000000000+10000*(d+1) else 10000*(d+1)
def afc (c:cn) (d:Nat) (ids:List Nat) (x:APs.Ty c.A) (y:APs.Ty c.B):List (fJ×(c.α x y→AV)):=
 match c.ro with
 |false=>F3 (c.o x y) (oO ids (il c.mv d)) 0 (ids++cD (il c.mv d) c.nf)
 |true=>F3 (c.o x y) (oO ids (il c.mv d)) ids.length (cD (il c.mv d) c.nf)
def NM (c:cn) (d:Nat) (ids:List Nat) (bs:List AV) (x:APs.Ty c.A) (y:APs.Ty c.B) (p:Prop):Prop:=
 match c.ro with
 |false=>p
 |true=>p∧∀z,c.φ x y z→BN (oO ids (il c.mv d)) ((c.o x y z).take ids.length)=bs
theorem afe {c:cn}{d:Nat}{ids:List Nat}{bs:List AV}{x:APs.Ty c.A}{y:APs.Ty c.B}{p:Prop}(h:NM c d ids bs x y p):p:=by
 unfold NM at h
 split at h
 ·exact h
 ·exact h.1
def ajP (d:Nat) (c:cn) (p:Prop) (ids:List Nat) (bs:List AV) (x:APs.Ty c.A) (y:APs.Ty c.B):Rs:=
 .ex (NM c d ids bs x y (p∧c.pre x y)) (c.α x y) (c.φ x y) ((.s d,λz=>(c.r x y z).ly (oO ids (il c.mv d)))::afc c d ids x y)
def aff (pt:Bool) (d:Nat) (c:cn) (avs:List AV) (ids:List Nat):Q Rs:=
 KE ids λbs=>bif H3 bs then H8 pt ids c.A avs λp as=>
  match APs.parse c.A (BN (idxOf ids) as),APs.parse c.B (BN (idxOf ids) bs) with
  |some x,some y=>bif ((gh as).all (iz ids)&&(gh bs).all (iz ids))&&(nodupB ids&&Nat.ble ids.length 1000) then AJ (il c.mv d) c.nf (.ret (ajP d c p ids bs x y)) else .ret .no
  |_,_=>.ret .no else .ret .no
def dd:List Nat→List Nat→List Nat
 |[],acc=>acc
 |i::l,acc=>bif iz acc i then dd l acc else dd l (i::acc)
def vH:List Nat→List Nat→(List Nat→Q Rs)→Q Rs
 |[],acc,k=>k acc
 |i::l,acc,k=>bif iz acc i then vH l acc k else vH l (i::acc) k
theorem C3:∀(l acc:List Nat) (k:List Nat→Q Rs),vH l acc k=k (dd l acc)
 |[],_,_=>rfl
 |i::l,acc,k=>by
  simp only [vH,dd]
  cases iz acc i with
  |true=>exact C3 l acc k
  |false=>exact C3 l (i::acc) k
def yS:List Nat→List Nat→(List Nat→Q Rs)→Q Rs
 |[],m,k=>k m
 |i::l,m,k=>yS l (i::m) k
theorem MT:∀(l m:List Nat) (k:List Nat→Q Rs),yS l m k=k (l.reverse++m)
 |[],_,_=>rfl
 |i::l,m,k=>by simp only [yS,List.reverse_cons,ZD2,List.singleton_append];exact MT l (i::m) k
def afd (rU:FuncId→Option cn) (pt:Bool) (d:Nat) (f:FuncId) (args:List Operand):Q Rs:=
 match rU f with
 |none=>.ret .no
 |some c=>YA args λavs=>vH (ZS c.A avs) [] λr0=>yS r0 [] λahJ=>KE ahJ λbs0=>vH (gh bs0) r0 λr1=>yS r1 [] λids=>aff pt d c avs ids
def ai7 (τ:St) (i:Nat):Prop:=(∃ek l,τ (.b i)=some (.rs ek l))∨∃l,τ (.b i)=some (.o (.a l))
noncomputable def dU (T:bb) (β:Nat→Nat) (τ:St) (w:World) (ids:List Nat):bb:=λb=>
 match T b with
 |some (.fz _ _ _)=>(match w.heap[b]? with
  |some (.cells cs e fr)=>some (.ln cs e fr)
  |_=>none)
 |some (.bx n)=>open Classical in if∃i,ai7 τ i∧i∉ids∧β i=b then (match w.heap[b]? with
  |some (.cells cs e fr)=>some (.ln cs e fr)
  |_=>none) else some (.bx n)
 |k=>k
section
variable {c:Ctx}{T:bb}{β:Nat→Nat}{a:Act}{w:World}{ids:List Nat}
theorem zE (h:WT T w):WT (dU T β τ w ids) w:=by
 intro b k hb
 unfold dU at hb
 split at hb
 ·split at hb
  ·rename_i cs e fr hc;cases hb;exact hc
  ·cases hb
 ·rename_i n hT
  split at hb
  ·split at hb
   ·rename_i cs e fr hc;cases hb;exact hc
   ·cases hb
  ·cases hb;exact h b _ hT
 ·exact h b k hb
theorem W1 (hg:YF T):UQ (dU T β τ w ids):=by
 refine⟨?_,λg hm=>by obtain⟨cs,e,fr,h1,h2⟩:=hg g hm;exact⟨cs,e,fr,by unfold dU;rw [h1],h2⟩⟩
 intro b ek n cs hb
 unfold dU at hb
 split at hb
 ·split at hb<;>cases hb
 ·split at hb
  ·split at hb<;>cases hb
  ·cases hb
 ·rename_i h1 h2;exact h1 _ _ _ hb
theorem nX (h:WT T w) {b:Nat}{cs:Array Value}(hr:rdT T b cs):rdT (dU T β τ w ids) b cs:=by
 rcases hr with ⟨e,fr,h1⟩ |⟨e,fr,h1⟩ |⟨ek,n,h1⟩
 ·exact .inl ⟨e,fr,by unfold dU;rw [h1]⟩
 ·exact .inr (.inl ⟨e,fr,by unfold dU;rw [h1]⟩)
 ·obtain⟨_,e,fr,l,h2,_⟩:=h b _ h1
  exact .inr (.inl ⟨e,fr,by unfold dU;rw [h1];simp only;rw [h2]⟩)
theorem H6 (hh:Holds N c T β τ a w) {i:Nat}(hi:i∉ids) {ek:EK}{l:List (EK.Ty ek)}(hb:τ (.b i)=some (.rs ek l)) {cs:Array Value}{e:TypeId}{fr:Nat×Nat}(hc:w.heap[β i]?=some (.cells cs e fr)):rdT (dU T β τ w ids) (β i) cs:=by
 obtain⟨⟨n,hn⟩,_⟩:=hh.apart i (eD hb (by intro e;cases e))
 refine .inr (.inl ⟨e,fr,?_⟩)
 unfold dU
 rw [hn]
 simp only
 rw [if_pos ⟨i,.inl ⟨ek,l,hb⟩,hi,rfl⟩,hc]
theorem afQ (hh:Holds N c T β τ a w) {i:Nat}(hi:i∉ids) {l:List SV}(hb:τ (.b i)=some (.o (.a l))) {cs:Array Value}{e:TypeId}{fr:Nat×Nat}(hc:w.heap[β i]?=some (.cells cs e fr)):rdT (dU T β τ w ids) (β i) cs:=by
 obtain⟨⟨n,hn⟩,_⟩:=hh.apart i (eD hb (by intro e;cases e))
 refine .inr (.inl ⟨e,fr,?_⟩)
 unfold dU
 rw [hn]
 simp only
 rw [if_pos ⟨i,.inr ⟨l,hb⟩,hi,rfl⟩,hc]
theorem S1 (hh:Holds N c T β τ a w) {i n:Nat}(hi:i∈ids) (hl:live τ i) (hn:T (β i)=some (.bx n)):dU T β τ w ids (β i)=some (.bx n):=by
 unfold dU
 rw [hn]
 simp only
 rw [if_neg]
 rintro⟨j,CW,hji,e⟩
 have hlj:live τ j:=by
  rcases CW with ⟨ek,m,hj⟩ |⟨m,hj⟩
  ·exact eD hj (by intro e;cases e)
  ·exact eD hj (by intro e;cases e)
 have:=hh.inj j i hlj hl e
 subst this
 exact hji hi
theorem Q9 (h:WT T w) {x:SV}(hx:∀i sz o m,x≠.xs i sz o m) {v:Value}(hr:x.rel T β v):x.rel (dU T β τ w ids) β v:=by
 cases x with
 |v x=>exact hr
 |q b=>exact hr
 |bp i o=>exact hr
 |xp i sz k j=>exact hr
 |xs i sz o m=>exact absurd rfl (hx i sz o m)
 |ep ek j=>obtain⟨b,o,n,h1,h2,h3⟩:=hr;exact⟨b,o,n,h1,by unfold dU;rw [h2],h3⟩
 |sl ek len=>
  rcases hr with hr |⟨b,o,cap,n,h1,h2,h3,h4⟩
  ·exact .inl hr
  ·exact .inr ⟨b,o,cap,n,h1,h2,by unfold dU;rw [h3],h4⟩
 |vw ek l=>
  rcases hr with hr |⟨b,o,cap,cs,e,fr,h1,h2,h3,h4⟩
  ·exact .inl hr
  ·exact .inr ⟨b,o,cap,cs,e,fr,h1,h2,by unfold dU;rw [h3],h4⟩
 |vz ek l=>
  rcases hr with hr |⟨b,o,cap,cs,h1,h2,h3,h4⟩
  ·exact .inl hr
  ·exact .inr ⟨b,o,cap,cs,h1,h2,nX h h3,h4⟩
 |vp ek x j=>obtain⟨b,o,cs,h1,h2,h3,h4⟩:=hr;exact⟨b,o,cs,h1,h2,nX h h3,h4⟩
 |vs l j=>obtain⟨b,cs,h1,h2,h3⟩:=hr;exact⟨b,cs,h1,nX h h2,E9 (λ_ _=>nX h) h3⟩
 |er b=>exact hr
 |e0=>exact hr
theorem RA (hh:Holds N c T β τ a w) (uG:∀i∈ids,live τ i) {x:SV}(hx:∀i∈x.boxes,i∈ids) {v:Value}(hr:x.rel T β v):x.rel (dU T β τ w ids) β v:=by
 by_cases hxs:∃i sz o m,x= .xs i sz o m
 ·obtain⟨i,sz,o,m,rfl⟩:=hxs
  have hi:i∈ids:=hx i (by simp [SV.boxes])
  rcases hr with hr |⟨cap,n,h1,h2,h3,h4⟩
  ·exact .inl hr
  ·exact .inr ⟨cap,n,h1,h2,S1 hh hi (uG i hi) h3,h4⟩
 ·exact Q9 hh.typed (λi sz o m e=>hxs ⟨i,sz,o,m,e⟩) hr
theorem LM (hh:Holds N c T β τ a w) (uG:∀i∈ids,live τ i):∀{x:List SV}{v:List Value},(∀i∈cc x,i∈ids)→dN T β x v→dN (dU T β τ w ids) β x v
 |[],[],_,_=>trivial
 |[],_::_,_,h=>h.elim
 |_::_,[],_,h=>h.elim
 |x::l,v::vs,hx,h=>by
  simp only [cc,ZB4] at hx
  exact⟨RA hh uG (λi hi=>hx i (.inl hi)) h.1,LM hh uG (λi hi=>hx i (.inr hi)) h.2⟩
theorem ae3 (hh:Holds N c T β τ a w) (uG:∀i∈ids,live τ i) {x:AV}{cs:Array Value}(hx:∀i∈x.boxes,i∈ids) (hr:x.rU T β cs):x.rU (dU T β τ w ids) β cs:=by
 cases x with
 |o x=>
  cases x with
  |s x=>exact hr
  |a l=>exact LM hh uG hx hr
 |_=>exact hr
theorem CJ {pt:Bool}(hh:Holds N c T β τ a w) (uG:∀i∈ids,live τ i) {kp:Bool}{v:SV}{y:Value}(hr:v.rel T β y) {k:Prop→SV→Q Rs}(hp:((L2 pt kp ids v k).run τ).pre):
  ∃p v',(L2 pt kp ids v k).run τ=(k p v').run τ∧(p→(∀i∈v'.boxes,i∈ids)→v'.rel (dU T β τ w ids) β y):=by
 unfold L2 at hp ⊢
 split at hp
 ·rename_i i sz o m
  cases kp with
  |true=>exact⟨True,_,rfl,λ_ hb=>RA hh uG hb hr⟩
  |false=>
   simp only at hp ⊢
   cases hmi:iz ids i with
   |true=>rw [hmi] at hp;exact hp.elim
   |false=>
    have hni:i∉ids:=λh=>by rw [fy.2 h] at hmi;cases hmi
    rw [hmi] at hp
    simp only [cond_false] at hp ⊢
    simp only [sR,Q.run] at hp ⊢
    cases hb:τ (.b i) with
    |none=>rw [hb] at hp;exact hp.elim
    |some av=>
     rw [hb] at hp
     simp only at hp ⊢
     split at hp
     ·rename_i ek l
      cases hc:Nat.beq ek.length sz with
      |false=>rw [hc] at hp;exact hp.elim
      |true=>
       have dj:ek.length=sz:=by simpa using hc
       subst dj
       obtain⟨cs,te,mq,_,z,I3,_⟩:=hh.boxes i _ hb (by intro e;cases e)
       cases pt with
       |true=>
        refine⟨o+m≤l.length,.vz ek ((l.drop o).take m),ζ,λhle _=>?_⟩
        have hlen:((l.drop o).take m).length=m:=by simp;omega
        rcases hr with ⟨rfl,p,rfl⟩ |⟨cap,n,rfl,hmc,_⟩
        ·exact .inl ⟨by simp,p,0,rfl⟩
        ·exact .inr ⟨β i,o*ek.length,cap,cs,by rw [hlen],by rw [hlen];exact hmc,H6 hh hni hb mq,A2 I3 o m⟩
       |false=>
        refine⟨o=0∧m=l.length,.vz ek l,ζ,λhle _=>?_⟩
        obtain⟨rfl,rfl⟩:=hle
        rcases hr with ⟨za,p,rfl⟩ |⟨cap,n,rfl,hmc,_⟩
        ·exact .inl ⟨ZD4.1 za,p,0,rfl⟩
        ·exact .inr ⟨β i,0*ek.length,cap,cs,rfl,hmc,H6 hh hni hb mq,by have:=A2 I3 0 l.length;simpa using this⟩
     ·exact hp.elim
 ·rename_i fA
  exact⟨True,_,rfl,λ_ _=>Q9 hh.typed fA hr⟩
theorem L3 {pt:Bool}(hh:Holds N c T β τ a w) (uG:∀i∈ids,live τ i):∀{ps:List SP}{v:List SV}{y:List Value},dN T β v y→∀{k:Prop→List SV→Q Rs},((H7 pt ids ps v k).run τ).pre→
  ∃p v',(H7 pt ids ps v k).run τ=(k p v').run τ∧(p→(∀i∈cc v',i∈ids)→dN (dU T β τ w ids) β v' y)
 |[],[],[],_,k,hp=>⟨True,[],rfl,λ_ _=>trivial⟩
 |[],[],_::_,h,_,_=>h.elim
 |_::_,[],_,_,_,hp=>by simp only [H7] at hp;exact hp.elim
 |[],_::_,_,_,_,hp=>by simp only [H7] at hp;exact hp.elim
 |_::_,_::_,[],h,_,_=>h.elim
 |p0::ps,x::l,y::ys,h,k,hp=>by
  simp only [H7] at hp ⊢
  obtain⟨p,x',h1,h2⟩:=CJ hh uG h.1 hp
  rw [h1] at hp ⊢
  obtain⟨q,l',g1,g2⟩:=L3 hh uG h.2 hp
  refine⟨p∧q,x'::l',g1,λhpq hb=>?_⟩
  simp only [cc,ZB4] at hb
  exact⟨h2 hpq.1 λi hi=>hb i (.inl hi),g2 hpq.2 λi hi=>hb i (.inr hi)⟩
theorem CK {pt:Bool}(hh:Holds N c T β τ a w):∀{v:List SV}{y:List Value},dN T β v y→∀{k:Prop→List CV→Q Rs},((uw pt ids v k).run τ).pre→
  ∃p v',(uw pt ids v k).run τ=(k p v').run τ∧(p→xl (dU T β τ w ids) v' y)
 |[],[],_,k,hp=>⟨True,[],rfl,λ_=>trivial⟩
 |[],_::_,h,_,_=>h.elim
 |_::_,[],h,_,_=>h.elim
 |x::l,y::ys,h,k,hp=>by
  have simple:∀(cv:CV),(∀k,uw pt ids (x::l) k=uw pt ids l λq m=>k q (cv::m))→cv.rel (dU T β τ w ids) y→∃p v',(uw pt ids (x::l) k).run τ=(k p v').run τ∧(p→xl (dU T β τ w ids) v' (y::ys)):=λcv e hr=>by
   rw [e] at hp ⊢
   obtain⟨p,v',h1,h2⟩:=CK hh h.2 hp
   exact⟨p,cv::v',h1,λhpp=>⟨hr,h2 hpp⟩⟩
  cases x with
  |v x=>exact simple (.v x) (λ_=>rfl) h.1
  |q b=>exact simple (.q b) (λ_=>rfl) h.1
  |vz ek r=>exact simple (.vz ek r) (λ_=>rfl) (CV.acN (x:=.vz ek r) (λ_ _=>nX hh.typed) h.1)
  |vw ek r=>
   refine simple (.vz ek r) (λ_=>rfl) ?_
   rcases h.1 with hr |⟨b,o,cap,cs,e,fr,h1,h2,h3,h4⟩
   ·exact .inl hr
   ·exact .inr ⟨b,o,cap,cs,h1,h2,nX hh.typed (.inl ⟨e,fr,h3⟩),h4⟩
  |xs j sz o n=>
   simp only [uw] at hp ⊢
   cases hmi:iz ids j with
   |true=>rw [hmi] at hp;exact hp.elim
   |false=>
    have hni:j∉ids:=λh=>by rw [fy.2 h] at hmi;cases hmi
    rw [hmi] at hp
    simp only [cond_false] at hp ⊢
    simp only [sR,Q.run] at hp ⊢
    cases hb:τ (.b j) with
    |none=>rw [hb] at hp;exact hp.elim
    |some av=>
     rw [hb] at hp
     simp only at hp ⊢
     split at hp
     ·rename_i ek r
      cases hc:Nat.beq ek.length sz with
      |false=>rw [hc] at hp;exact hp.elim
      |true=>
       rw [hc] at hp
       have dj:ek.length=sz:=by simpa using hc
       subst dj
       obtain⟨cs,te,mq,_,z,I3,_⟩:=hh.boxes j _ hb (by intro e;cases e)
       obtain⟨p,v',h1,h2⟩:=CK hh h.2 hp
       refine⟨(o=0∧n=r.length)∧p,.vz ek r::v',h1,λhle=>⟨?_,h2 hle.2⟩⟩
       obtain⟨rfl,rfl⟩:=hle.1
       rcases h.1 with ⟨za,p,rfl⟩ |⟨cap,n,rfl,hmc,_⟩
       ·exact .inl ⟨ZD4.1 za,p,0,rfl⟩
       ·exact .inr ⟨β j,0*ek.length,cap,cs,rfl,hmc,H6 hh hni hb mq,by have:=A2 I3 0 r.length;simpa using this⟩
     ·exact hp.elim
  |_=>exact hp.elim
theorem adH {pt:Bool}(hh:Holds N c T β τ a w) (uG:∀i∈ids,live τ i) {ap:AP}{v:AV}{y:Value}(hr:v.rel T β y) {k:Prop→AV→Q Rs}(hp:((afR pt ids ap v k).run τ).pre):
  ∃p v',(afR pt ids ap v k).run τ=(k p v').run τ∧(p→(∀i∈v'.boxes,i∈ids)→v'.rel (dU T β τ w ids) β y):=by
 unfold afR at hp ⊢
 split at hp
 ·exact⟨True,_,rfl,λ_ _=>hr⟩
 ·rename_i m
  obtain⟨b,cs,h1,h2,h3⟩:=hr
  exact⟨True,_,rfl,λ_ _=>⟨b,cs,h1,nX hh.typed h2,E9 (λ_ _=>nX hh.typed) h3⟩⟩
 ·rename_i i
  cases hmi:iz ids i with
  |true=>rw [hmi] at hp;exact hp.elim
  |false=>
   have hni:i∉ids:=λh=>by rw [fy.2 h] at hmi;cases hmi
   rw [hmi] at hp
   simp only [cond_false] at hp ⊢
   simp only [sR,Q.run] at hp ⊢
   cases hb:τ (.b i) with
   |none=>rw [hb] at hp;exact hp.elim
   |some av=>
    rw [hb] at hp
    simp only at hp ⊢
    split at hp
    ·rename_i l
     obtain⟨cs,te,mq,c6⟩:=hh.boxes i _ hb (by intro e;cases e)
     obtain⟨p,v',h1,h2⟩:=CK hh (pt:=pt) (v:=l) (y:=cs.toList) c6 hp
     exact⟨p,_,h1,λhpp _=>⟨β i,cs,hr,afQ hh hni hb mq,h2 hpp⟩⟩
    ·exact hp.elim
 ·obtain⟨p,x',h1,h2⟩:=CJ hh uG hr hp
  exact⟨p,.s x',h1,h2⟩
 ·obtain⟨cs,e,hl⟩:=hr
  obtain⟨p,l',h1,h2⟩:=L3 hh uG hl hp
  exact⟨p,.a l',h1,λhpp hb=>⟨cs,e,h2 hpp hb⟩⟩
 ·obtain⟨p,x',h1,h2⟩:=CJ hh uG hr hp
  exact⟨p,.s x',h1,h2⟩
 ·exact hp.elim
theorem L4 {pt:Bool}(hh:Holds N c T β τ a w) (uG:∀i∈ids,live τ i):∀{ps:List AP}{v:List AV}{y:List Value},r9 T β v y→∀{k:Prop→List AV→Q Rs},((H8 pt ids ps v k).run τ).pre→
  ∃p v',(H8 pt ids ps v k).run τ=(k p v').run τ∧(p→(∀i∈gh v',i∈ids)→r9 (dU T β τ w ids) β v' y)
 |[],[],[],_,k,hp=>⟨True,[],rfl,λ_ _=>trivial⟩
 |[],[],_::_,h,_,_=>h.elim
 |_::_,[],_,_,_,hp=>by simp only [H8] at hp;exact hp.elim
 |[],_::_,_,_,_,hp=>by simp only [H8] at hp;exact hp.elim
 |_::_,_::_,[],h,_,_=>h.elim
 |p0::ps,x::l,y::ys,h,k,hp=>by
  simp only [H8] at hp ⊢
  obtain⟨p,x',h1,h2⟩:=adH hh uG h.1 hp
  rw [h1] at hp ⊢
  obtain⟨q,l',g1,g2⟩:=L4 hh uG h.2 hp
  refine⟨p∧q,x'::l',g1,λhpq hb=>?_⟩
  simp only [gh,ZB4] at hb
  exact⟨h2 hpq.1 λi hi=>hb i (.inl hi),g2 hpq.2 λi hi=>hb i (.inr hi)⟩
theorem FN (hh:Holds N c T β τ a w):∀{l:List Operand}{vs:List AV},evA τ l=some vs→r9 T β vs (l.map a.eval)∧∀i∈gh vs,τ (.b i)≠none
 |[],vs,h=>by cases h;exact⟨trivial,by simp [gh]⟩
 |x::l,vs,h=>by
  simp only [evA] at h
  split at h
  ·rename_i v hv
   split at h
   ·rename_i vs' IY
    cases h
    obtain⟨g1,g2⟩:=FN hh IY
    refine⟨⟨eP hh hv,g1⟩,λi hi=>?_⟩
    simp only [gh,ZB4] at hi
    rcases hi with hi |hi
    ·exact gY hh hv i hi
    ·exact g2 i hi
   ·cases h
  ·cases h
theorem DJ:∀{l:List Nat}{k:List AV→Q Rs},((KE l k).run τ).pre→∃bs,(KE l k).run τ=(k bs).run τ∧bs.length=l.length∧∀(j i:Nat) (av:AV),l[j]?=some i→bs[j]?=some av→τ (.b i)=some av
 |[],k,_=>⟨[],rfl,rfl,by simp⟩
 |i::l,k,hp=>by
  simp only [KE,sR,Q.run] at hp ⊢
  cases hb:τ (.b i) with
  |none=>rw [hb] at hp;exact hp.elim
  |some av=>
   rw [hb] at hp
   obtain⟨bs,h1,h2,h3⟩:=DJ (l:=l) hp
   refine⟨av::bs,h1,by simp [h2],λj i' av' hj hv=>?_⟩
   cases j with
   |zero=>simp at hj hv;subst hj;subst hv;exact hb
   |succ j=>exact h3 j i' av' (by simpa using hj) (by simpa using hv)
theorem EM {base:Nat}{q:Q Rs}:∀{n:Nat},((AJ base n q).run τ).pre→(AJ base n q).run τ=q.run τ∧∀j,j<n→τ (.b (base+j))=none
 |0,_=>⟨rfl,λj hj=>by omega⟩
 |n+1,hp=>by
  simp only [AJ,Q.run] at hp ⊢
  cases hb:τ (.b (base+n)) with
  |some _=>rw [hb] at hp;exact hp.elim
  |none=>
   rw [hb] at hp
   obtain⟨h1,h2⟩:=EM (n:=n) hp
   refine⟨h1,λj hj=>?_⟩
   by_cases e:j=n
   ·subst e;exact hb
   ·exact h2 j (by omega)
theorem H2:∀{l:List AV},H3 l=true→∀x∈l,x≠.zz∧((∃m,x= .o (.a m))∨∃ek m,x= .rs ek m)
 |[],_,x,h=>by cases h
 |y::l,h,x,hx=>by
  unfold H3 at h
  split at h
  ·rename_i heq;cases heq
  ·rename_i m l' heq
   cases heq
   rcases ZB8.1 hx with rfl |hx
   ·exact⟨(by intro e;cases e),.inl ⟨m,rfl⟩⟩
   ·exact H2 h x hx
  ·rename_i ek m l' heq
   cases heq
   rcases ZB8.1 hx with rfl |hx
   ·exact⟨(by intro e;cases e),.inr ⟨ek,m,rfl⟩⟩
   ·exact H2 h x hx
  ·cases h
theorem E8 {g:Nat→Nat}:∀{l:List AV}{i:Nat},(BN g l)[i]?=(l[i]?).map (AV.ly g)
 |[],i=>by simp [BN]
 |x::l,0=>by simp [BN]
 |x::l,i+1=>by simpa [BN] using E8 (l:=l) (i:=i)
theorem DH:∀{l:List AV}{i k:Nat}{x:AV},l[i]?=some x→k∈x.boxes→k∈gh l
 |[],_,_,_,h,_=>by simp at h
 |y::l,0,k,x,h,hk=>by simp at h;subst h;simp [gh,hk]
 |y::l,i+1,k,x,h,hk=>by
  have:=DH (l:=l) (i:=i) (by simpa using h) hk
  simp [gh,this]
end
end
end GL
namespace GL
def plain:BK→Prop
 |.ty _ _=>True
 |.ro _ _ _=>True
 |.bx _=>True
 |_=>False
section
variable {T T':bb}{β:Nat→Nat}
theorem SV.pQ (h:∀b k,T b=some k→plain k→T' b=some k) {x:SV}(hf:x.od=true) {v:Value}(hr:x.rel T β v):x.rel T' β v:=by
 cases x with
 |v x=>exact hr
 |q b=>exact hr
 |bp i o=>exact hr
 |xp i sz k j=>exact hr
 |xs i sz o m=>
  rcases hr with hr |⟨cap,n,h1,h2,h3,h4⟩
  ·exact .inl hr
  ·exact .inr ⟨cap,n,h1,h2,h _ _ h3 trivial,h4⟩
 |ep ek j=>obtain⟨b,o,n,h1,h2,h3⟩:=hr;exact⟨b,o,n,h1,h _ _ h2 trivial,h3⟩
 |sl ek len=>
  rcases hr with hr |⟨b,o,cap,n,h1,h2,h3,h4⟩
  ·exact .inl hr
  ·exact .inr ⟨b,o,cap,n,h1,h2,h _ _ h3 trivial,h4⟩
 |vw ek l=>
  rcases hr with hr |⟨b,o,cap,cs,e,fr,h1,h2,h3,h4⟩
  ·exact .inl hr
  ·exact .inr ⟨b,o,cap,cs,e,fr,h1,h2,h _ _ h3 trivial,h4⟩
 |vz ek l=>cases hf
 |vp ek x j=>cases hf
 |vs l j=>cases hf
 |er b=>exact hr
 |e0=>exact hr
theorem BP (h:∀b k,T b=some k→plain k→T' b=some k):∀{l:List SV}{cs:List Value},zW l=true→dN T β l cs→dN T' β l cs
 |[],[],_,_=>trivial
 |_::_,[],_,h'=>h'.elim
 |[],_::_,_,h'=>h'.elim
 |_::_,_::_,hf,h'=>by
  simp only [zW,ZA9] at hf
  exact⟨SV.pQ h hf.1 h'.1,BP h hf.2 h'.2⟩
theorem A0.pQ (h:∀b k,T b=some k→plain k→T' b=some k) {x:A0}(hf:x.od=true) {v:Value}(hr:x.rel T β v):x.rel T' β v:=by
 cases x with
 |s x=>exact SV.pQ h hf hr
 |a l=>obtain⟨cs,e,hl⟩:=hr;exact⟨cs,e,BP h hf hl⟩
theorem LJ (h:∀b k,T b=some k→plain k→T' b=some k):∀{l:List A0}{cs:List Value},uB l=true→uD T β l cs→uD T' β l cs
 |[],[],_,_=>trivial
 |_::_,[],_,h'=>h'.elim
 |[],_::_,_,h'=>h'.elim
 |_::_,_::_,hf,h'=>by
  simp only [uB,ZA9] at hf
  exact⟨A0.pQ h hf.1 h'.1,LJ h hf.2 h'.2⟩
theorem AV.pQ (h:∀b k,T b=some k→plain k→T' b=some k) {x:AV}(hf:x.od=true) {v:Value}(hr:x.rel T β v):x.rel T' β v:=by
 cases x with
 |o x=>exact A0.pQ h hf hr
 |t l=>obtain⟨cs,e,hl⟩:=hr;exact⟨cs,e,LJ h hf hl⟩
 |rs ek l=>exact hr
 |zz=>exact hr
 |fn f l=>exact hr
theorem AV.ae4 (h:∀b k,T b=some k→plain k→T' b=some k) {x:AV}(hf:x.od=true) {cs:Array Value}(hr:x.rU T β cs):x.rU T' β cs:=by
 cases x with
 |o x=>
  cases x with
  |s x=>exact hr
  |a l=>exact BP h hf hr
 |_=>exact hr
end
section
variable {N:Nat}{c:Ctx}{T:bb}{β:Nat→Nat}{τ:St}{a:Act}{w w':World}{ids:List Nat}
theorem vu (h:WT T w) {b:Nat}{k:BK}(hk:T b=some k):dU T β τ w ids b=some k∨∃cs e fr,dU T β τ w ids b=some (.ln cs e fr):=by
 unfold dU
 rw [hk]
 cases k with
 |fz ek n cs=>
  obtain⟨_,e,fr,l,h2,_⟩:=h b _ hk
  exact .inr ⟨cs,e,fr,by simp only [h2]⟩
 |bx n=>
  obtain⟨cs,e,h2,_⟩:=h b _ hk
  simp only
  by_cases hx:∃i,ai7 τ i∧i∉ids∧β i=b
  ·rw [if_pos hx,h2];exact .inr ⟨cs,e,(0,0),rfl⟩
  ·rw [if_neg hx];exact .inl rfl
 |_=>exact .inl rfl
theorem W2 {b:Nat}{k:BK}(hk:dU T β τ w ids b=some k) (hp:plain k):T b=some k:=by
 unfold dU at hk
 split at hk
 ·split at hk
  ·cases hk;exact hp.elim
  ·cases hk
 ·rename_i n hT
  split at hk
  ·split at hk
   ·cases hk;exact hp.elim
   ·cases hk
  ·rw [hT];exact hk
 ·exact hk
theorem W0 {b:Nat}(hk:T b=none):dU T β τ w ids b=none:=by
 unfold dU
 rw [hk]
def AH (T T':bb) (n:Nat):bb:=λb=>if b<n then T b else T' b
def backβ (β β':Nat→Nat) (base nf k:Nat):Nat→Nat:=λi=>if base≤i∧i<base+nf then β' (k+(i-base)) else β i
structure YG (τ τ':St) (ids:List Nat) (base nf:Nat) (os:List AV):Prop where
 set:∀j i,(ids++cD base nf)[j]?=some i→τ' (.b i)=some ((atA os j).ly (oO ids base))
 old:∀r,(∀i∈ids++cD base nf,r≠.b i)→τ' r=τ r
theorem Holds.call (hh:Holds N c T β τ a w) {base nf:Nat}{mv:Bool}{os:List AV}{T':bb}{β2 β':Nat→Nat}{τ':St}(agV:1000≤base) (hmv:mv=true→1000000000≤base)
  (sD:∀i∈ids,live τ i) (h2:∀j i,ids[j]?=some i→β2 j=β i) (uA:∀j,j<nf→τ (.b (base+j))=none) (hos:os.length=ids.length+nf)
  (hA:aaB w (dU T β τ w ids) β2 ids.length T' w') (hB:KO w ids.length mv β2 T' β' w' os) (hτ:YG τ τ' ids base nf os):
  Holds N c (AH T T' w.heap.size) (backβ β β' base nf ids.length) τ' a w'∧(∀b k,T' b=some k→plain k→AH T T' w.heap.size b=some k)∧∀n,n<os.length→backβ β β' base nf ids.length (oO ids base n)=β' n∧τ' (.b (oO ids base n))≠none:=by
 have I2:∀b k,T' b=some k→plain k→AH T T' w.heap.size b=some k:=by
  intro b k hb hp
  unfold AH
  by_cases bU:b<w.heap.size
  ·rw [if_pos bU]
   rw [hA.new b bU] at hb
   exact W2 hb hp
  ·rw [if_neg bU];exact hb
 have zS:uS T (AH T T' w.heap.size):=λb k hb=>by
  unfold AH
  rw [if_pos (BK.lt (hh.typed b k hb))];exact hb
 have ke:∀i,τ (.b i)≠none→¬(base≤i∧i<base+nf):=λi hi h=>by
  have:=uA (i-base) (by omega)
  rw [show base+(i-base)=i by omega] at this
  exact hi this
 have hβo:∀i,τ (.b i)≠none→backβ β β' base nf ids.length i=β i:=λi hi=>by unfold backβ;rw [if_neg (ke i hi)]
 have hβj:∀j i,(ids++cD base nf)[j]?=some i→backβ β β' base nf ids.length i=β' j:=by
  intro j i hj
  by_cases bU:j<ids.length
  ·rw [ZC2 bU] at hj
   have hi:=ZB6 hj
   rw [hβo i (kD (sD i hi)),hB.same j bU,h2 j i hj]
  ·rw [ZC6 (by omega)] at hj
   have hr:j-ids.length<nf:=by
    have:=(ZC0.1 hj).1
    rwa [kI] at this
   rw [jO _ _ _ hr] at hj
   cases hj
   unfold backβ
   rw [if_pos (by omega)]
   congr 1;omega
 have agW:∀n,n<os.length→(ids++cD base nf)[n]?=some (oO ids base n):=by
  intro n hn
  unfold oO
  by_cases bU:n<ids.length
  ·rw [ZC2 bU,ZB1 bU]
  ·rw [ZC6 (by omega),jO _ _ _ (by omega),ZD8 (by omega)]
 have MO:∀n,n<os.length→backβ β β' base nf ids.length (oO ids base n)=β' n∧τ' (.b (oO ids base n))≠none:=λn hn=>by
  refine⟨hβj n _ (agW n hn),?_⟩
  rw [hτ.set n _ (agW n hn)]
  simp
 have af7:∀i,τ (.b i)≠none→τ' (.b i)≠none:=by
  intro i hi
  by_cases hm:i∈ids++cD base nf
  ·obtain⟨j,hj⟩:=ZF3 hm
   rw [hτ.set j i hj];simp
  ·rw [hτ.old (.b i) (λk hk e=>hm (by cases e;exact hk))];exact hi
 have ajd:∀i,live τ i→i∉ids→w'.heap[β i]?=w.heap[β i]?:=by
  intro i hi hni
  obtain⟨⟨n,hn⟩,_⟩:=hh.apart i hi
  have bU:=hh.lt hi
  rcases vu (β:=β) (τ:=τ) (ids:=ids) hh.typed hn with h |⟨cs,e,fr,h⟩
  ·refine hA.frame _ bU (λj hj he=>?_) (by rw [h];trivial)
   have hjl:ids[j]?=some ids[j]:=ZB1 hj
   rw [h2 j _ hjl] at he
   exact hni (hh.inj i _ hi (sD _ (ZB6 hjl)) he ▸ ZB6 hjl)
  ·have g1:w.heap[β i]?=some (.cells cs e fr):=zE hh.typed _ _ h
   have g2:w'.heap[β i]?=some (.cells cs e fr):=hA.typed (β i) (.ln cs e fr) (by rw [hA.new _ bU];exact h)
   rw [g1,g2]
 have TM:∀i,live τ' i→(i∉ids∧¬(base≤i∧i<base+nf)∧live τ i)∨∃(j:Nat) (av:AV),(ids++cD base nf)[j]?=some i∧os[j]?=some av∧av≠.zz:=by
  intro i hi
  by_cases hm:i∈ids++cD base nf
  ·right
   obtain⟨j,hj⟩:=ZF3 hm
   have hs:=hτ.set j i hj
   unfold atA at hs
   cases ho:os[j]? with
   |none=>
    rw [ho] at hs
    unfold live at hi
    rw [hs] at hi
    exact hi.elim
   |some av=>
    rw [ho] at hs
    refine⟨j,av,hj,ho,λe=>?_⟩
    subst e
    unfold live at hi
    rw [hs] at hi
    exact hi.elim
  ·left
   have ho:=hτ.old (.b i) (λk hk e=>hm (by cases e;exact hk))
   refine⟨λh=>hm (List.mem_append_left _ h),λh=>hm (List.mem_append_right _ (fY.2 h)),?_⟩
   unfold live at hi ⊢
   rwa [ho] at hi
 have hβlive:∀i,live τ i→backβ β β' base nf ids.length i=β i:=λi hi=>hβo i (kD hi)
 refine⟨{
  defs:=hh.defs
  size:=hh.size
  EB:=hh.EB
  iJ:=λi av hi=>by
   rw [hτ.old (.s i) (λk _ e=>by cases e)] at hi
   obtain⟨v,hv,hr⟩:=hh.iJ i av hi
   exact⟨v,hv,AV.nJ zS (AV.acO (λk hk=>hβo k (hh.named (.s i) av hi k hk)) hr)⟩
  boxes:=λi av hi hz=>by
   by_cases hm:i∈ids++cD base nf
   ·obtain⟨j,hj⟩:=ZF3 hm
    rw [hτ.set j i hj] at hi
    cases hi
    unfold atA at hz ⊢
    cases ho:os[j]? with
    |none=>rw [ho] at hz;exact absurd rfl hz
    |some x=>
     rw [ho] at hz
     simp only at hz ⊢
     obtain⟨_,_,⟨cs,e,g1,g2⟩,g3,g4⟩:=hB.at_ j x ho (E7 hz)
     refine⟨cs,e,by rw [hβj j i hj];exact g1,?_⟩
     exact AV.FT (λn hn=>(MO n (g3 n hn)).1) (AV.ae4 I2 g4 g2)
   ·have ho:=hτ.old (.b i) (λk hk e=>hm (by cases e;exact hk))
    rw [ho] at hi
    have hl:=eD hi hz
    obtain⟨cs,e,g1,g2⟩:=hh.boxes i av hi hz
    refine⟨cs,e,?_,AV.JS zS (AV.X2 (λk hk=>hβo k (hh.named (.b i) av hi k hk)) g2)⟩
    rw [hβlive i hl,ajd i hl (λh=>hm (List.mem_append_left _ h))]
    exact g1
  apart:=λi hi=>by
   rcases TM i hi with ⟨_,_,hl⟩ |⟨j,av,hj,ho,hz⟩
   ·rw [hβlive i hl]
    obtain⟨⟨n,hn⟩,g⟩:=hh.apart i hl
    exact⟨⟨n,zS _ _ hn⟩,g⟩
   ·rw [hβj j i hj]
    obtain⟨⟨n,hn⟩,vE,_⟩:=hB.at_ j av ho hz
    refine⟨⟨n,I2 _ _ hn aa⟩,?_⟩
    by_cases bU:j<ids.length
    ·rw [ZC2 bU] at hj
     have hl:=sD i (ZB6 hj)
     have e:β' j=β i:=by rw [hB.same j bU,h2 j i hj]
     rw [e]
     exact (hh.apart i hl).2
    ·rw [ZC6 (by omega)] at hj
     have hr:=fY.1 (ZB6 hj)
     refine⟨λh=>by omega,λ_ h3=>?_,?_⟩
     ·rcases vE (by omega) with h4 |⟨h4,_⟩
      ·exact ZB0 hh.gd h4
      ·have:=hmv h4;omega
     ·rcases vE (by omega) with h4 |⟨_,j',h4,h5⟩
      ·exact .inl (ZB0 hh.gd h4)
      ·rw [h5,h2 j' _ (ZB1 h4)]
       exact (hh.apart _ (sD _ (List.getElem_mem h4))).2.2.2
  handed:=λi b hb hi=>by
   have bU:i<c.H.length:=(ZC0.1 hb).1
   have ald:=hh.EB
   have hl:live τ i:=by
    rcases TM i hi with ⟨_,_,hl⟩ |⟨j,av,hj,_,_⟩
    ·exact hl
    ·rcases ZB4.1 (ZB6 hj) with h |h
     ·exact sD i h
     ·have:=fY.1 h;omega
   rw [hβlive i hl]
   exact hh.handed i b hb hl
  inj:=λi i' hi CX e=>by
   have adg:∀k,live τ k→β k<w.heap.size:=λk hk=>hh.lt hk
   rcases TM i hi with ⟨n1,_,hl⟩ |⟨j,av,hj,ho,hz⟩
   ·rcases TM i' CX with ⟨_,_,hl'⟩ |⟨j',av',CW,ho',hz'⟩
    ·rw [hβlive i hl,hβlive i' hl'] at e
     exact hh.inj i i' hl hl' e
    ·rw [hβlive i hl,hβj j' i' CW] at e
     by_cases bU:j'<ids.length
     ·rw [ZC2 bU] at CW
      rw [hB.same j' bU,h2 j' i' CW] at e
      exact hh.inj i i' hl (sD i' (ZB6 CW)) e
     ·rcases (hB.at_ j' av' ho' hz').2.1 (by omega) with h4 |⟨_,j2,h4,h5⟩
      ·have:=adg i hl
       omega
      ·rw [h5,h2 j2 _ (ZB1 h4)] at e
       exact absurd (hh.inj i _ hl (sD _ (List.getElem_mem h4)) e ▸ List.getElem_mem h4) n1
   ·rcases TM i' CX with ⟨n1,_,hl'⟩ |⟨j',av',CW,ho',hz'⟩
    ·rw [hβj j i hj,hβlive i' hl'] at e
     by_cases bU:j<ids.length
     ·rw [ZC2 bU] at hj
      rw [hB.same j bU,h2 j i hj] at e
      exact hh.inj i i' (sD i (ZB6 hj)) hl' e
     ·rcases (hB.at_ j av ho hz).2.1 (by omega) with h4 |⟨_,j2,h4,h5⟩
      ·have:=adg i' hl'
       omega
      ·rw [h5,h2 j2 _ (ZB1 h4)] at e
       exact absurd (hh.inj i' _ hl' (sD _ (List.getElem_mem h4)) e.symm ▸ List.getElem_mem h4) n1
    ·rw [hβj j i hj,hβj j' i' CW] at e
     have:=hB.inj j j' av av' ho hz ho' hz' e
     subst this
     rw [hj] at CW
     cases CW
     rfl
  named:=λr av hr i hi=>by
   cases r with
   |s n=>
    rw [hτ.old (.s n) (λk _ e=>by cases e)] at hr
    exact af7 i (hh.named (.s n) av hr i hi)
   |b n=>
    by_cases hm:n∈ids++cD base nf
    ·obtain⟨j,hj⟩:=ZF3 hm
     rw [hτ.set j n hj] at hr
     cases hr
     obtain⟨m,hm',rfl⟩:=AV.gl hi
     unfold atA at hm'
     cases ho:os[j]? with
     |none=>rw [ho] at hm';simp [AV.boxes] at hm'
     |some x=>
      rw [ho] at hm'
      have hz:x≠.zz:=λe=>by subst e;simp [AV.boxes] at hm'
      exact (MO m ((hB.at_ j x ho hz).2.2.2.1 m hm')).2
    ·rw [hτ.old (.b n) (λk hk e=>hm (by cases e;exact hk))] at hr
     exact af7 i (hh.named (.b n) av hr i hi)
  typed:=λb k hb=>by
   unfold AH at hb
   by_cases bU:b<w.heap.size
   ·rw [if_pos bU] at hb
    rcases vu (β:=β) (τ:=τ) (ids:=ids) hh.typed hb with h |⟨cs,e,fr,h⟩
    ·exact hA.typed b k (by rw [hA.new b bU];exact h)
    ·have g1:w.heap[b]?=some (.cells cs e fr):=zE hh.typed _ _ h
     have g2:w'.heap[b]?=some (.cells cs e fr):=hA.typed b (.ln cs e fr) (by rw [hA.new _ bU];exact h)
     exact BK.qn (hh.typed b k hb) (by rw [g1,g2])
   ·rw [if_neg bU] at hb
    exact hA.typed b k hb
  old:=λb hb=>by
   unfold AH
   rw [if_pos (ZG3 hb hh.gd)]
   exact hh.old b hb
  frame:=λb hb hH hq=>by
   have bU:b<w.heap.size:=ZG3 hb hh.gd
   rw [←hh.frame b hb hH hq]
   have ho:=hh.old b hb
   cases hT:T b with
   |none=>
    refine hA.frame b bU (λj hj e=>?_) (by rw [W0 hT];trivial)
    have hjl:ids[j]?=some ids[j]:=ZB1 hj
    rw [h2 j _ hjl] at e
    obtain⟨n,hn⟩:=(hh.apart _ (sD _ (ZB6 hjl))).1
    rw [←e,hT] at hn
    cases hn
   |some k=>
    rw [hT] at ho
    rcases vu (β:=β) (τ:=τ) (ids:=ids) hh.typed hT with h |⟨cs,e,fr,h⟩
    ·refine hA.frame b bU (λj hj e=>?_) ?_
     ·have hjl:ids[j]?=some ids[j]:=ZB1 hj
      rw [h2 j _ hjl] at e
      have hl:=sD _ (ZB6 hjl)
      rcases (hh.apart _ hl).2.2.2 with g1 |g1
      ·omega
      ·exact hH (e ▸ g1)
     ·rw [h]
      rw [←ho] at hq
      cases k<;>first|trivial|exact hq
    ·have g1:w.heap[b]?=some (.cells cs e fr):=zE hh.typed _ _ h
     have g2:w'.heap[b]?=some (.cells cs e fr):=hA.typed b (.ln cs e fr) (by rw [hA.new _ bU];exact h)
     rw [g1,g2]
  gd:=ZB0 hh.gd hA.gd
  os:=hA.os.trans hh.os
  tape:=hA.tape.trans hh.tape
  output:=hA.output.trans hh.output
  oV:=hh.oV.mono zS },I2,MO⟩
