/- Part 7 of the proof of a drawn law. -/
import Derived.Test.YtnkbdhldiinfdaaGreatDoorPaf
set_option maxHeartbeats 20000000
set_option maxRecDepth 100000
set_option linter.all false
namespace Go.Proofs.YtnkbdhldiinfdaaGreatDoor
namespace GL
section
variable {P:Program}{N:Nat}{τ:St}
variable {d:Nat}{x y z:Operand}{t u ty:TypeId}{pos:String}{af:Array Edge}{g:Option (Nat×Bool)}
theorem rY {α:Type}{o:α→List AV}{g:Nat→Nat}{z:α}:∀{l:List Nat}{j:Nat}{p:fJ×AV},p∈inst z (F3 o g j l)→∃m i,l[m]?=some i∧p=(.b i,(atA (o z) (j+m)).ly g)
 |[],_,p,h=>by cases h
 |i::l,j,p,h=>by
  simp only [F3,inst,ZB8] at h
  rcases h with rfl |h
  ·exact⟨0,i,rfl,rfl⟩
  ·obtain⟨m,i',h1,h2⟩:=rY h
   exact⟨m+1,i',by simpa using h1,by rw [h2];congr 3;omega⟩
theorem F2 {α:Type}{o:α→List AV}{g:Nat→Nat}{z:α}:∀{l:List Nat}{j m i:Nat},l[m]?=some i→(.b i,(atA (o z) (j+m)).ly g)∈inst z (F3 o g j l)
 |[],_,_,_,h=>by simp at h
 |i::l,j,0,i',h=>by simp at h;subst h;simp [F3,inst]
 |i::l,j,m+1,i',h=>by
  have:=F2 (o:=o) (g:=g) (z:=z) (l:=l) (j:=j+1) (m:=m) (by simpa using h)
  simp only [F3,inst,ZB8]
  right
  rwa [show j+1+m=j+(m+1) by omega] at this
theorem UM {α:Type}{o:α→List AV}{z:α}{ids:List Nat}{base nf:Nat}(hnd:∀(i j:Nat) (x:Nat),(ids++cD base nf)[i]?=some x→(ids++cD base nf)[j]?=some x→i=j):
  YG τ (τ.ap (inst z (F3 o (oO ids base) 0 (ids++cD base nf)))) ids base nf (o z) where
 set:=λj i hj=>by
  rcases St.AN (τ:=τ) (u:=inst z (F3 o (oO ids base) 0 (ids++cD base nf))) (r:=.b i) with ⟨v,hv,hm⟩ |⟨_,uy⟩
  ·obtain⟨m,i',h1,h2⟩:=rY hm
   cases h2
   have:=hnd _ _ _ h1 hj
   subst this
   rw [hv,ZA6]
  ·exact absurd rfl (uy _ (F2 hj))
 old:=λr hr=>St.wh λp hp e=>by
  obtain⟨m,i,h1,h2⟩:=rY hp
  subst h2
  exact hr i (ZB6 h1) e.symm
theorem P1 {C:cn}{d:Nat}{ids:List Nat}{bs:List AV}{x:APs.Ty C.A}{y:APs.Ty C.B}{p:Prop}{z:C.α x y}(hp:NM C d ids bs x y p) (hφ:C.φ x y z) (hnd:∀(i j:Nat) (x:Nat),(ids++cD (il C.mv d) C.nf)[i]?=some x→(ids++cD (il C.mv d) C.nf)[j]?=some x→i=j)
  (hlen:(C.o x y z).length=ids.length+C.nf) (hbl:bs.length=ids.length) (hbs:∀(j i:Nat) (av:AV),ids[j]?=some i→bs[j]?=some av→τ (.b i)=some av):
  YG τ (τ.ap (inst z (afc C d ids x y))) ids (il C.mv d) C.nf (C.o x y z):=by
 unfold afc
 unfold NM at hp
 split
 ·exact UM hnd
 ·rename_i hro
  rw [hro] at hp
  have hro:=hp.2 z hφ
  exact {
   set:=λj i hj=>by
    by_cases bU:j<ids.length
    ·have hi:ids[j]?=some i:=by rwa [ZC2 bU] at hj
     rw [St.wh λpr hpr e=>?_]
     ·have hjb:bs[j]?=some bs[j]:=ZB1 (by omega)
      rw [hbs j i _ hi hjb]
      have h1:(BN (oO ids (il C.mv d)) ((C.o x y z).take ids.length))[j]?=some bs[j]:=by rw [hro];exact hjb
      rw [E8,List.getElem?_take_of_lt bU,ZB1 (by omega)] at h1
      have h2:=ZG8 h1
      rw [←h2]
      unfold atA
      rw [ZB1 (by omega)]
     ·obtain⟨m,i',h1,h2⟩:=rY hpr
      subst h2
      cases e
      have:=hnd j (ids.length+m) i hj (by rw [ZC6 (by omega)];rwa [ZG4])
      omega
    ·have hi:(cD (il C.mv d) C.nf)[j-ids.length]?=some i:=by rwa [ZC6 (by omega)] at hj
     rcases St.AN (τ:=τ) (u:=inst z (F3 (C.o x y) (oO ids (il C.mv d)) ids.length (cD (il C.mv d) C.nf))) (r:=.b i) with ⟨v,hv,hm⟩ |⟨_,uy⟩
     ·obtain⟨m,i',h1,h2⟩:=rY hm
      cases h2
      have:=hnd j (ids.length+m) i hj (by rw [ZC6 (by omega)];rwa [ZG4])
      rw [hv,this]
     ·exact absurd rfl (uy _ (F2 hi))
   old:=λr hr=>St.wh λpr hpr e=>by
    obtain⟨m,i,h1,h2⟩:=rY hpr
    subst h2
    exact hr i (List.mem_append_right _ (ZB6 h1)) e.symm }
theorem RI {T:bb}{β:Nat→Nat}:∀{l m:List AV}{vs:List Value},r9 T β l vs→m.length=l.length→(∀(i:Nat) (x y:AV),l[i]?=some x→m[i]?=some y→∀v,x.rel T β v→y.rel T β v)→r9 T β m vs
 |[],[],[],_,_,_=>trivial
 |[],_::_,_,_,h,_=>by simp at h
 |_::_,[],_,_,h,_=>by simp at h
 |[],[],_::_,h,_,_=>h.elim
 |_::_,_::_,[],h,_,_=>h.elim
 |x::l,y::m,v::vs,h,hl,hk=>⟨hk 0 x y rfl rfl v h.1,RI h.2 (by simpa using hl) λi x' y' hx hy=>hk (i+1) x' y' (by simpa using hx) (by simpa using hy)⟩
theorem RH {T:bb}{β β':Nat→Nat}{g:Nat→Nat}:∀{l:List AV}{vs:List Value},(∀i∈gh l,β' (g i)=β i)→r9 T β l vs→r9 T β' (BN g l) vs
 |[],[],_,_=>trivial
 |_::_,[],_,h=>h.elim
 |[],_::_,_,h=>h.elim
 |x::l,v::vs,hg,h=>by
  simp only [gh,ZB4] at hg
  exact⟨AV.np (λi hi=>hg i (.inl hi)) h.1,RH (λi hi=>hg i (.inr hi)) h.2⟩
theorem Q8 {g:Nat→Nat}:∀{l:List AV},(BN g l).length=l.length
 |[]=>rfl
 |x::l=>by simp [BN,Q8 (l:=l)]
theorem ae9 (mv:Bool) (d:Nat):1000≤il mv d∧(mv=true→1000000000≤il mv d):=by
 unfold il
 cases mv<;>simp<;>omega
def aav (C:cn) (pt:Bool) (d:Nat) (avs:List AV):Q Rs:=
 vH (ZS C.A avs) [] λr0=>yS r0 [] λahJ=>KE ahJ λbs0=>vH (gh bs0) r0 λr1=>yS r1 [] λids=>aff pt d C avs ids
theorem NL {c:Ctx}{T:bb}{β:Nat→Nat}{a:Act}{w:World}(hh:Holds N c T β τ a w) {pt:Bool}{C:cn}{f:FuncId}(hC:wj P f C) (hd:d<N) {o:Oper}(alf:o.dst=some d) {avs:List AV}{ys:List Value}(I0:r9 T β avs ys)
  (hen:(execOp a.eval o).run P w= .ok (.enter f ys.toArray) w) (hp:((aav C pt d avs).run τ).pre) {K:Act→World→Prop} {Q':Exit→Act→World→Prop}
  (hK:∀u a' w',((aav C pt d avs).run τ).out u→Rel N c (τ.ap u) a' w'→K a' w'):o.wp P a w K Q':=by
 unfold aav at hp hK
 simp only [C3,MT] at hp hK
 obtain⟨bs0,e0,_,_⟩:=DJ hp
 rw [e0] at hp hK
 generalize (dd (gh bs0) (dd (ZS C.A avs) [])).reverse++[]=ids at hp hK
 unfold aff at hp hK
 obtain⟨bs,e2,hbl,hbs⟩:=DJ hp
 rw [e2] at hp hK
 obtain⟨agV,ak0⟩:=ae9 C.mv d
 have FK:H3 bs=true:=by
  cases hl:H3 bs with
  |true=>rfl
  |false=>rw [hl] at hp;exact hp.elim
 rw [FK] at hp hK
 simp only [cond_true] at hp hK
 have qo:∀(j i:Nat),ids[j]?=some i→∃av,bs[j]?=some av∧τ (.b i)=some av∧av≠.zz:=by
  intro j i hj
  have hjl:j<bs.length:=by rw [hbl];exact (ZC0.1 hj).1
  exact⟨bs[j],ZB1 hjl,hbs j i _ hj (ZB1 hjl),(H2 FK _ (List.getElem_mem hjl)).1⟩
 have sD:∀i∈ids,live τ i:=λi hi=>by
  obtain⟨j,hj⟩:=ZF3 hi
  obtain⟨av,_,h1,h2⟩:=qo j i hj
  exact eD h1 h2
 obtain⟨p,as,e1,ajo⟩:=L4 hh sD I0 hp
 rw [e1] at hp hK
 split at hp
 ·rename_i X Y hX hY
  simp only [hX,hY] at hK
  cases uH:((gh as).all (iz ids)&&(gh bs).all (iz ids))&&(nodupB ids&&Nat.ble ids.length 1000) with
  |false=>rw [uH] at hp;exact hp.elim
  |true=>
   rw [uH] at hp hK
   simp only [cond_true] at hp hK
   simp only [ZA9] at uH
   obtain⟨⟨hma,hmb⟩,hnd,aec⟩:=uH
   obtain⟨e3,uA⟩:=EM hp
   rw [e3] at hp hK
   have hcp:NM C d ids bs X Y (p∧C.pre X Y):=hp
   obtain⟨hpp,ahN⟩:p∧C.pre X Y:=afe hcp
   have yJ:∀i∈gh as,i∈ids:=λi hi=>fy.1 (ZC9.1 hma i hi)
   have ajm:∀i∈gh bs,i∈ids:=λi hi=>fy.1 (ZC9.1 hmb i hi)
   have ajj:=ajo hpp yJ
   let β2:Nat→Nat:=λj=>match ids[j]? with
    |some i=>β i
    |none=>0
   have h2:∀(j i:Nat),ids[j]?=some i→β2 j=β i:=λj i hj=>by simp only [β2,hj]
   obtain⟨hlA,ajB⟩:=APs.HE hX
   obtain⟨hlB,alj⟩:=APs.HE hY
   rw [Q8] at hlB
   have MN:(APs.avs C.B Y).length=ids.length:=by rw [APs.fE,←hlB,hbl]
   have ajC:r9 (dU T β τ w ids) β2 (APs.avs C.A X) ys:=by
    have h3:r9 (dU T β τ w ids) β2 (BN (idxOf ids) as) ys:=RH (λi hi=>h2 _ _ (sC (yJ i hi)).1) ajj
    refine RI h3 (by rw [APs.fE,hlA]) λi x y hx hy v hv=>?_
    obtain⟨q,x',u,g1,g2,rfl⟩:=ajB i y hy
    rw [hx] at g1;cases g1
    exact (AP.eN g2).1 hv
   have ajD:∀av∈APs.avs C.A X,∀i∈av.boxes,i<(APs.avs C.B Y).length:=by
    intro av hav i hi
    obtain⟨k,hk⟩:=ZF3 hav
    obtain⟨q,x',u,g1,g2,rfl⟩:=ajB k av hk
    have CX:=(AP.eN (T:=T) (β:=β) g2).2.2 i hi
    rw [E8] at g1
    obtain⟨x0,hx0,rfl⟩:=Option.map_eq_some_iff.1 g1
    obtain⟨n,hn,rfl⟩:=AV.gl CX
    rw [MN]
    exact (sC (yJ n (DH hx0 hn))).2
   have cm:aaA w (dU T β τ w ids) β2 (APs.avs C.B Y):= {
    EB:=by rw [MN];exact zqNlb aec
    at_:=λj av hj=>by
     have hjl:j<ids.length:=by rw [←MN];exact (ZC0.1 hj).1
     have hji:ids[j]?=some ids[j]:=ZB1 hjl
     obtain⟨x0,hbj,hτj,hz0⟩:=qo j _ hji
     obtain⟨q,x',u,g1,g2,rfl⟩:=alj j av hj
     rw [E8,hbj] at g1
     simp only [Option.map_some,Option.some.injEq] at g1
     subst g1
     obtain⟨cs,e,g3,g4⟩:=hh.boxes _ _ hτj hz0
     obtain⟨⟨n,hn⟩,_⟩:=hh.apart _ (sD _ (ZB6 hji))
     have hxi:∀i∈x0.boxes,i∈ids:=λi hi=>ajm i (DH hbj hi)
     have g5:(x0.ly (idxOf ids)).rU (dU T β τ w ids) β2 cs:=AV.FT (λi hi=>h2 _ _ (sC (hxi i hi)).1) (ae3 hh sD hxi g4)
     refine⟨λe=>?_,⟨n,by rw [h2 j _ hji];exact S1 hh (ZB6 hji) (sD _ (ZB6 hji)) hn⟩,⟨cs,e,by rw [h2 j _ hji];exact g3,(AP.eN g2).2.1 g5⟩,λi hi=>?_⟩
     ·cases q<;>cases e
     ·have CX:=(AP.eN (T:=T) (β:=β) g2).2.2 i hi
      obtain⟨n',hn',rfl⟩:=AV.gl CX
      rw [MN]
      exact (sC (hxi n' hn')).2
    inj:=λi j hi hj e=>by
     rw [MN] at hi hj
     have hii:ids[i]?=some ids[i]:=ZB1 hi
     have hjj:ids[j]?=some ids[j]:=ZB1 hj
     rw [h2 i _ hii,h2 j _ hjj] at e
     have:=hh.inj _ _ (sD _ (ZB6 hii)) (sD _ (ZB6 hjj)) e
     exact tA hnd i j _ hii (by rw [hjj,this]) }
   have ajx:=hC X Y ahN w (dU T β τ w ids) β2 ys (zE hh.typed) (W1 hh.oV) ajC ajD cm
   unfold Oper.wp
   rw [hen,Oper.upon_enter]
   refine ajx.mono ?_
   rintro e w' ⟨v,r,os,T',β',rfl,⟨Z,hφ,rfl,rfl,hlen⟩,hrv,⟨hrb,hrf⟩,hA,hB⟩
   rw [MN] at hA hB
   have hCB:C.B.length=ids.length:=by rw [←hlB,hbl]
   rw [hCB] at hlen
   have akZ:∀(i j:Nat) (x:Nat),(ids++cD (il C.mv d) C.nf)[i]?=some x→(ids++cD (il C.mv d) C.nf)[j]?=some x→i=j:=by
    have ajg:∀x,x∈ids→x∈cD (il C.mv d) C.nf→False:=λx h1 h3=>by
     have h4:=fY.1 h3
     have h5:=uA (x-il C.mv d) (by omega)
     rw [show il C.mv d+(x-il C.mv d)=x by omega] at h5
     exact kD (sD x h1) h5
    intro i j x hi hj
    by_cases h1:i<ids.length
    ·rw [ZC2 h1] at hi
     by_cases h3:j<ids.length
     ·rw [ZC2 h3] at hj
      exact tA hnd i j x hi hj
     ·rw [ZC6 (by omega)] at hj
      exact (ajg x (ZB6 hi) (ZB6 hj)).elim
    ·rw [ZC6 (by omega)] at hi
     by_cases h3:j<ids.length
     ·rw [ZC2 h3] at hj
      exact (ajg x (ZB6 hj) (ZB6 hi)).elim
     ·rw [ZC6 (by omega)] at hj
      have hi2:i-ids.length<C.nf:=by have:=(ZC0.1 hi).1;rwa [kI] at this
      have yK:j-ids.length<C.nf:=by have:=(ZC0.1 hj).1;rwa [kI] at this
      rw [jO _ _ _ hi2] at hi
      rw [jO _ _ _ yK] at hj
      cases hi
      have:=ZG8 hj
      omega
   obtain⟨hh',I2,MO⟩:=hh.call (base:=il C.mv d) (nf:=C.nf) (os:=C.o X Y Z) agV ak0 sD h2 uA hlen hA hB (P1 (τ:=τ) (z:=Z) hcp hφ akZ hlen hbl hbs)
   rw [alf]
   refine hK _ _ _ ⟨Z,hφ,rfl⟩ ⟨AH T T' w.heap.size,backβ β β' (il C.mv d) C.nf ids.length,?_⟩
   exact hh'.put hd (av:=(C.r X Y Z).ly (oO ids (il C.mv d))) (AV.np (λn hn=>(MO n (hrb n hn)).1) (AV.pQ I2 hrf hrv)) λi hi=>by
    obtain⟨n,hn,rfl⟩:=AV.gl hi
    exact (MO n (hrb n hn)).2
 ·exact hp.elim
theorem aik {pt:Bool}{rU:FuncId→Option cn}(ahV:∀f c,rU f=some c→wj P f c∧Enters P f) (hd:d<N) {f:FuncId}{args:Array Operand}{tys:Array TypeId}:
  fv P N ⟨some d,.call ⟨.value (.func f),args,tys⟩,ty,pos,af,g⟩ (afd rU pt d f args.toList):=by
 intro c τ a w hr hp K Q' hK
 obtain⟨T,β,hh⟩:=hr
 unfold afd at hp hK
 cases hc:rU f with
 |none=>rw [hc] at hp;exact hp.elim
 |some C=>
  rw [hc] at hp hK
  simp only [AK] at hp hK
  obtain⟨hC,hE⟩:=ahV f C hc
  cases hx:evA τ args.toList with
  |none=>rw [hx] at hp;exact hp.elim
  |some avs=>
   rw [hx] at hp hK
   simp only at hp hK
   obtain⟨I0,hnm⟩:=FN hh hx
   have hen:=aaK (P:=P) (ty:=ty) (pos:=pos) (af:=af) (g:=g) hE (args:=args) (tys:=tys) (ρ:=a.eval) rfl (w:=w) (dst:=some d)
   have IY:(args.toList.map a.eval).toArray=args.map a.eval:=by rw [←Array.toList_map,Array.toArray_toList]
   rw [←IY] at hen
   exact NL hh hC hd rfl I0 hen hp hK
def JU:List AV→Option (List (Nat×Nat))
 |[]=>some []
 |.o (.s (.bp i o))::l=>match JU l with
  |some m=>some ((i,o)::m)
  |none=>none
 |_::_=>none
theorem JT {T:bb}{β:Nat→Nat}:∀{vs:List AV}{l:List (Nat×Nat)}{ys:List Value},JU vs=some l→r9 T β vs ys→ys=E1 β l∧∀i∈jH l,i∈gh vs
 |[],l,ys,h,hr=>by
  cases h
  cases ys with
  |nil=>exact⟨rfl,by simp [jH]⟩
  |cons _ _=>exact hr.elim
 |x::vs,l,ys,h,hr=>by
  unfold JU at h
  split at h
  ·rename_i heq;cases heq
  ·rename_i i o vs' heq
   cases heq
   split at h
   ·rename_i m hm
    cases h
    cases ys with
    |nil=>exact hr.elim
    |cons y ys=>
     obtain⟨g1,g2⟩:=JT hm hr.2
     have:y= .pointer (some ⟨β i,o,none⟩):=hr.1
     subst this
     refine⟨by rw [E1,g1],λk hk=>?_⟩
     simp only [jH,ZB8] at hk
     simp only [gh,ZB4]
     rcases hk with rfl |hk
     ·exact .inl (by simp [AV.boxes,A0.boxes,SV.boxes])
     ·exact .inr (g2 k hk)
   ·cases h
  ·cases h
def fnR (d f:Nat) (avs:List AV):Rs:=match JU avs with
 |some l=>.go [(.s d,.fn f l)]
 |none=>.no
theorem ajY {f:Nat}{DA:Array Operand}(hd:d<N):fv P N ⟨some d,.makeFunc (.func f) #[] DA,ty,pos,af,g⟩ (YA DA.toList λavs=>.ret (fnR d f avs)):=by
 intro c τ a w hr hp K Q' hK
 obtain⟨T,β,hh⟩:=hr
 rw [AK] at hp hK
 cases hx:evA τ DA.toList with
 |none=>rw [hx] at hp;exact hp.elim
 |some avs=>
  rw [hx] at hp hK
  simp only [Q.run] at hp hK
  obtain⟨I0,hnm⟩:=FN hh hx
  unfold fnR at hp hK
  cases hc:JU avs with
  |none=>rw [hc] at hp;exact hp.elim
  |some l=>
   rw [hc] at hp hK
   obtain⟨g1,g2⟩:=JT hc I0
   have hex:(execOp a.eval ⟨some d,.makeFunc (.func f) #[] DA,ty,pos,af,g⟩).run P w= .ok (.value (.func (.func f) #[] (DA.map a.eval))) w:=by
    simp [execOp,Instr.makeFunc]
   exact fv.value (av:=.fn f l) hh rfl hd hex ⟨_,rfl,by rw [Array.toList_map];exact g1⟩ (λi hi=>hnm i (g2 i hi)) (λa' h=>hK _ _ _ rfl h)
def ah3:List (Nat×Nat)→List AV
 |[]=>[]
 |p::l=>.s (.bp p.1 p.2)::ah3 l
theorem RJ {T:bb}{β:Nat→Nat}:∀{l m:List AV}{xs ys:List Value},r9 T β l xs→r9 T β m ys→r9 T β (l++m) (xs++ys)
 |[],_,[],_,_,h=>h
 |_::_,_,[],_,h,_=>h.elim
 |[],_,_::_,_,h,_=>h.elim
 |_::_,_,_::_,_,h,h'=>⟨h.1,RJ h.2 h'⟩
theorem UI {T:bb}{β:Nat→Nat}:∀{l:List (Nat×Nat)},r9 T β (ah3 l) (E1 β l)
 |[]=>trivial
 |_::_=>⟨rfl,UI⟩
def afb (rU:FuncId→Option cn) (pt:Bool) (d:Nat) (args:List Operand) (v:AV):Q Rs:=
 match v with
 |.fn f DA=>match rU f with
  |none=>.ret .no
  |some C=>YA args λavs=>aav C pt d (avs++ah3 DA)
 |_=>.ret .no
theorem U7 {f:FuncId}(h:Enters P f) {args:Array Operand}{tys:Array TypeId}{ρ:Operand→Value}{k:Nat}{cs:Array Value}(hρ:ρ (.tmp k)= .func (.func f) #[] cs) {w:World}{dst:Option Nat}:
  (execOp ρ ⟨dst,.call ⟨.value (.tmp k),args,tys⟩,ty,pos,af,g⟩).run P w= .ok (.enter f (args.map ρ++cs)) w:=by
 obtain⟨fn,h1,h2,h3⟩:=h
 obtain⟨cd,hcd⟩:=Option.isSome_iff_exists.1 h2
 simp [execOp,resolve,hρ,Deferred.ofValue,invoke,callFunc,h1,hcd,h3]
theorem agq {pt:Bool}{rU:FuncId→Option cn}(ahV:∀f c,rU f=some c→wj P f c∧Enters P f) (hd:d<N) {k:Nat}{args:Array Operand}{tys:Array TypeId}:
  fv P N ⟨some d,.call ⟨.value (.tmp k),args,tys⟩,ty,pos,af,g⟩ (bY (.tmp k) λv=>afb rU pt d args.toList v):=by
 intro c τ a w hr hp K Q' hK
 obtain⟨T,β,hh⟩:=hr
 rw [c8] at hp hK
 cases hx0:ev τ (.tmp k) with
 |none=>rw [hx0] at hp;exact hp.elim
 |some v=>
  rw [hx0] at hp hK
  have hv:=eP hh hx0
  simp only at hp hK
  unfold afb at hp hK
  split at hp
  ·rename_i f DA
   obtain⟨cs,e1,e2⟩:=hv
   simp only at hK
   cases hc:rU f with
   |none=>rw [hc] at hp;exact hp.elim
   |some C=>
    rw [hc] at hp hK
    simp only [AK] at hp hK
    obtain⟨hC,hE⟩:=ahV f C hc
    cases hx:evA τ args.toList with
    |none=>rw [hx] at hp;exact hp.elim
    |some avs=>
     rw [hx] at hp hK
     simp only at hp hK
     obtain⟨I0,hnm⟩:=FN hh hx
     have hen:=U7 (P:=P) (ty:=ty) (pos:=pos) (af:=af) (g:=g) hE (args:=args) (tys:=tys) (ρ:=a.eval) e1 (w:=w) (dst:=some d)
     have IY:(args.toList.map a.eval++E1 β DA).toArray=args.map a.eval++cs:=by
      apply Array.ext'
      simp [e2]
     rw [←IY] at hen
     exact NL hh hC hd rfl (RJ I0 UI) hen hp hK
  ·exact hp.elim
end
end GL
namespace GL
section
variable {P:Program}{N:Nat}{τ:St}
variable {d:Nat}{x y z:Operand}{t u ty:TypeId}{pos:String}{af:Array Edge}{g:Option (Nat×Bool)}
def ae1 (sz:Nat) (x:AV) (l h m:Option Int):V1:=
 match h,m with
 |some h,some m=>match x with
  |.o (.s (.vw ek v))=>bif Nat.beq ek.length sz then .mZ (0≤l.getD 0∧l.getD 0≤h∧h≤m∧m≤v.length) (.s (.vw ek ((v.drop (l.getD 0).toNat).take (h.toNat-(l.getD 0).toNat)))) else .no
  |.o (.s (.vz ek v))=>bif Nat.beq ek.length sz then .mZ (0≤l.getD 0∧l.getD 0≤h∧h≤m∧m≤v.length) (.s (.vz ek ((v.drop (l.getD 0).toNat).take (h.toNat-(l.getD 0).toNat)))) else .no
  |.o (.s (.xs i sz' o n))=>bif Nat.beq sz' sz then .mZ (0≤l.getD 0∧l.getD 0≤h∧h≤m∧m≤n) (.s (.xs i sz' (o+(l.getD 0).toNat) (h.toNat-(l.getD 0).toNat))) else .no
  |_=>.no
 |_,_=>.no
theorem QU (len cap:Nat) (l:Option Int) (h m:Int) (za:0≤l.getD 0) (hlh:l.getD 0≤h) (hhm:h≤m) (hm:m≤cap) (w:World):
  (Instr.sliceBounds true len cap (l.map (Value.int .i64)) (some (.int .i64 h)) (some (.int .i64 m))).run P w= .ok ((l.getD 0).toNat,h.toNat,m.toNat) w:=by
 have hb:∀(i:Int) (y:Nat) (code:BoundsCode),0≤i→i≤y→(Instr.sliceBound (.int .i64 i) y code).run P w= .ok i.toNat w:=λi y code h0 h1=>run_sliceBound (P:=P) (w:=w) .i64 i y code h0 h1
 cases l with
 |none=>
  simp only [ZA3] at za hlh
  simp [Instr.sliceBounds,hb m cap .slice3Acap (by omega) hm,hb h m.toNat .slice3B (by omega) (by omega)]
 |some l=>
  simp only [ZA2] at za hlh
  simp [Instr.sliceBounds,hb m cap .slice3Acap (by omega) hm,hb h m.toNat .slice3B (by omega) (by omega),hb l h.toNat .slice3C (by omega) (by omega)]
theorem fv.alu {o:Oper}{l h m:Option Operand}{f:AV→Option Int→Option Int→Option Int→V1}(ho:o.dst=some d) (hd:d<N)
  (hs:∀c T β τ a w,Holds N c T β τ a w→∀v l' h' m',v.rel T β (a.eval x)→l.map a.eval=l'.map (Value.int .i64)→h.map a.eval=h'.map (Value.int .i64)→m.map a.eval=m'.map (Value.int .i64)→∀r,(f v l' h' m').vF r→(∀i∈r.boxes,i∈v.boxes)∧∃val,(execOp a.eval o).run P w= .ok (.value val) w∧r.rel T β val):
  fv P N o (bY x λv=>qG l λl'=>qG h λh'=>qG m λm'=>.ret ((f v l' h' m').rs d)):=by
 intro c τ a w hr hp K Q' hK
 obtain⟨T,β,hh⟩:=hr
 rw [c8] at hp hK
 cases hx:ev τ x with
 |none=>rw [hx] at hp;exact hp.elim
 |some v=>
  rw [hx] at hp hK
  simp only [wc] at hp hK
  cases hl:evI τ l with
  |none=>rw [hl] at hp;exact hp.elim
  |some l'=>
   rw [hl] at hp hK
   simp only [wc] at hp hK
   cases hh':evI τ h with
   |none=>rw [hh'] at hp;exact hp.elim
   |some h'=>
    rw [hh'] at hp hK
    simp only [wc] at hp hK
    cases hm:evI τ m with
    |none=>rw [hm] at hp;exact hp.elim
    |some m'=>
     rw [hm] at hp hK
     refine V1.put hh hd hp ho (λr hr=>?_) hK
     obtain⟨h1,h2⟩:=hs c T β τ a w hh v l' h' m' (eP hh hx) (z6 hh hl) (z6 hh hh') (z6 hh hm) r hr
     exact⟨λi hi=>gY hh hx i (h1 i hi),h2⟩
theorem r5 {e:TypeId}{sz:Nat}(he:P.underlying t=some (.slice e)) (dj:∀w,(sizeOf e).run P w= .ok sz w) {p:Option Addr}{len cap:Nat}{l:Option Int}{h m:Int}(h0:0≤l.getD 0) (h1:l.getD 0≤h) (h2:h≤m) (h3:m≤cap) (w:World):
  (Instr.slice t (.slice p len cap) (l.map (Value.int .i64)) (some (.int .i64 h)) (some (.int .i64 m))).run P w=
   .ok (.slice (if m.toNat=(l.getD 0).toNat then p else p.map (·.add ((l.getD 0).toNat*sz))) (h.toNat-(l.getD 0).toNat) (m.toNat-(l.getD 0).toNat)) w:=by
 have hbd:=QU (P:=P) len cap l h m h0 h1 h2 h3 w
 simp [Instr.slice,run_underlying he,hbd,dj]
theorem aii {sz:Nat}{l h m:Option Operand}(ht:rL P t=some sz) (hd:d<N):fv P N ⟨some d,.slice t x l h m,ty,pos,af,g⟩ (bY x λv=>qG l λl'=>qG h λh'=>qG m λm'=>.ret ((ae1 sz v l' h' m').rs d)):=
 fv.alu rfl hd λc T β τ a w hh v l' h' m' hv e2 e3 e4 r hr=>by
  obtain⟨e,he,dj⟩:=tU ht
  have fin:∀{v1 v2:Value},a.eval x=v1→(Instr.slice t v1 (l'.map (Value.int .i64)) (h'.map (Value.int .i64)) (m'.map (Value.int .i64))).run P w= .ok v2 w→(v1 matches .slice _ _ _)=true→(execOp a.eval ⟨some d,.slice t x l h m,ty,pos,af,g⟩).run P w= .ok (.value v2) w:=by
   intro v1 v2 e1 fk hm
   cases v1<;>first|cases hm|skip
   simp [execOp,e1,e2,e3,e4,Instr.sliceAt,run_underlying he,fk]
  unfold ae1 at hr
  split at hr
  ·rename_i hi mi
   split at hr
   ·rename_i ek vs
    cases hb:Nat.beq ek.length sz with
    |false=>rw [hb] at hr;exact hr.elim
    |true=>
     rw [hb] at hr
     obtain⟨⟨h0,h1,h2,h3⟩,rfl⟩:=hr
     have hs:ek.length=sz:=by simpa using hb
     refine⟨λk hk=>by simp [AV.boxes,A0.boxes,SV.boxes] at hk,?_⟩
     have hlen:((vs.drop (l'.getD 0).toNat).take (hi.toNat-(l'.getD 0).toNat)).length=hi.toNat-(l'.getD 0).toNat:=by
      rw [ZB9,ZC8];omega
     rcases hv with ⟨hl,p,cap,e1⟩ |⟨b,o,cap,cs,te,fr,e1,hlc,hT,hw⟩
     ·subst hl
      simp only [ZA4] at h3
      have hz:hi=0∧mi=0∧l'.getD 0=0:=by omega
      obtain⟨rfl,rfl,za⟩:=hz
      exact⟨_,fin e1 (r5 he dj (p:=p) (len:=0) (cap:=cap) h0 h1 h2 (by omega) w) rfl,.inl ⟨by simp,_,0,by simp [za];rfl⟩⟩
     ·refine⟨_,fin e1 (r5 he dj (len:=vs.length) (cap:=cap) h0 h1 h2 (by omega) w) rfl,?_⟩
      by_cases hc:mi.toNat=(l'.getD 0).toNat
      ·refine .inl ⟨?_,some ⟨b,o,none⟩,mi.toNat-(l'.getD 0).toNat,?_⟩
       ·rw [←ZD4,hlen];omega
       ·rw [if_pos hc];congr 1;omega
      ·refine .inr ⟨b,o+(l'.getD 0).toNat*ek.length,mi.toNat-(l'.getD 0).toNat,cs,te,fr,?_,by omega,hT,wq hw _ _⟩
       rw [if_neg hc,hlen,hs,Option.map_some,ga]
   ·rename_i ek vs
    cases hb:Nat.beq ek.length sz with
    |false=>rw [hb] at hr;exact hr.elim
    |true=>
     rw [hb] at hr
     obtain⟨⟨h0,h1,h2,h3⟩,rfl⟩:=hr
     have hs:ek.length=sz:=by simpa using hb
     refine⟨λk hk=>by simp [AV.boxes,A0.boxes,SV.boxes] at hk,?_⟩
     have hlen:((vs.drop (l'.getD 0).toNat).take (hi.toNat-(l'.getD 0).toNat)).length=hi.toNat-(l'.getD 0).toNat:=by
      rw [ZB9,ZC8];omega
     rcases hv with ⟨hl,p,cap,e1⟩ |⟨b,o,cap,cs,e1,hlc,hT,hw⟩
     ·subst hl
      simp only [ZA4] at h3
      have hz:hi=0∧mi=0∧l'.getD 0=0:=by omega
      obtain⟨rfl,rfl,za⟩:=hz
      exact⟨_,fin e1 (r5 he dj (p:=p) (len:=0) (cap:=cap) h0 h1 h2 (by omega) w) rfl,.inl ⟨by simp,_,0,by simp [za];rfl⟩⟩
     ·refine⟨_,fin e1 (r5 he dj (len:=vs.length) (cap:=cap) h0 h1 h2 (by omega) w) rfl,?_⟩
      by_cases hc:mi.toNat=(l'.getD 0).toNat
      ·refine .inl ⟨?_,some ⟨b,o,none⟩,mi.toNat-(l'.getD 0).toNat,?_⟩
       ·rw [←ZD4,hlen];omega
       ·rw [if_pos hc];congr 1;omega
      ·refine .inr ⟨b,o+(l'.getD 0).toNat*ek.length,mi.toNat-(l'.getD 0).toNat,cs,?_,by omega,hT,wq hw _ _⟩
       rw [if_neg hc,hlen,hs,Option.map_some,ga]
   ·rename_i i sz' o n
    cases hb:Nat.beq sz' sz with
    |false=>rw [hb] at hr;exact hr.elim
    |true=>
     rw [hb] at hr
     obtain⟨⟨h0,h1,h2,h3⟩,rfl⟩:=hr
     have hs:sz'=sz:=by simpa using hb
     refine⟨λk hk=>hk,?_⟩
     rcases hv with ⟨hl,p,e1⟩ |⟨cap,k,e1,hlc,hT,hle⟩
     ·subst hl
      have hz:hi=0∧mi=0∧l'.getD 0=0:=by omega
      obtain⟨rfl,rfl,za⟩:=hz
      exact⟨_,fin e1 (r5 he dj (p:=p) (len:=0) (cap:=0) h0 h1 h2 (by omega) w) rfl,.inl ⟨by simp,_,by simp [za];rfl⟩⟩
     ·refine⟨_,fin e1 (r5 he dj (len:=n) (cap:=cap) h0 h1 h2 (by omega) w) rfl,?_⟩
      by_cases hc:mi.toNat=(l'.getD 0).toNat
      ·refine .inl ⟨by omega,some ⟨β i,o*sz',none⟩,?_⟩
       rw [if_pos hc]
       congr 1<;>omega
      ·refine .inr ⟨mi.toNat-(l'.getD 0).toNat,k,?_,by omega,hT,?_⟩
       ·rw [if_neg hc,ZE3,hs,Option.map_some,ga]
       ·exact ZB0 (ZG6 _ (by omega)) hle
   ·exact hr.elim
  ·exact hr.elim
def amm (op:BinOp) (b:Bool):Option Bool:=match op with
 |.eql=>some b
 |.neq=>some (!b)
 |_=>none
def ahC:AV→Option (Bool→Prop)
 |.o (.s (.v (.slice none 0 0)))=>some λb=>b=true
 |.o (.s (.vw _ l))=>some λb=>b=true→l=[]
 |.o (.s (.vz _ l))=>some λb=>b=true→l=[]
 |.o (.s (.xs _ _ _ m))=>some λb=>b=true→m=0
 |_=>none
def ahB (op:BinOp) (d:Nat) (v:AV):Q Rs:=
 match op,ahC v with
 |.eql,some φ=>.ret (.ex (∃b,φ b) Bool φ [(.s d,λb=>.q b)])
 |.neq,some φ=>.ret (.ex (∃b,φ b) Bool φ [(.s d,λb=>.q (!b))])
 |_,_=>.ret .no
theorem U6 {e:TypeId}(he:P.underlying t=some (.slice e)) (p:Option Addr) (n cap:Nat) (w:World) (dd:Nat):(Op.equalIn (dd+1) t (.slice p n cap) (.slice none 0 0)).run P w= .ok p.isNone w:=by
 cases p<;>simp [Op.equalIn,run_underlying he]
theorem LH {e:TypeId}(he:P.underlying t=some (.slice e)) (p:Option Addr) (n cap:Nat) (w:World):(Op.equal t (.slice p n cap) (.slice none 0 0)).run P w= .ok p.isNone w:=U6 he p n cap w 9999
theorem afB {ms:Array (String×TypeId)}(ht:P.underlying t=some (.interface ms)) {y:Value}(w:World) (dd:Nat):(y= .nilIface→(Op.equalIn (dd+1) t y .nilIface).run P w= .ok true w)∧((∃a b,y= .iface a b)→(Op.equalIn (dd+1) t y .nilIface).run P w= .ok false w):=by
 refine⟨?_,?_⟩
 ·rintro rfl;simp [Op.equalIn,run_underlying ht]
 ·rintro⟨a,b,rfl⟩;simp [Op.equalIn,run_underlying ht]
theorem acB {ms:Array (String×TypeId)}(ht:P.underlying t=some (.interface ms)) {y:Value}(w:World):(y= .nilIface→(Op.equal t y .nilIface).run P w= .ok true w)∧((∃a b,y= .iface a b)→(Op.equal t y .nilIface).run P w= .ok false w):=afB ht w 9999
theorem afn {e:TypeId}{op:BinOp}(he:P.underlying t=some (.slice e)) (hd:d<N):fv P N ⟨some d,.binOp op t x (.const (.slice none 0 0)) u,ty,pos,af,g⟩ (bY x λv=>ahB op d v):=by
 intro c τ a w hr hp K Q' hK
 obtain⟨T,β,hh⟩:=hr
 rw [c8] at hp hK
 cases hx:ev τ x with
 |none=>rw [hx] at hp;exact hp.elim
 |some v=>
  rw [hx] at hp hK
  have hv:=eP hh hx
  simp only at hp hK
  have key:∀φ,ahC v=some φ→∃p n cap,a.eval x= .slice p n cap∧φ p.isNone:=by
   intro φ hφ
   unfold ahC at hφ
   split at hφ
   ·cases hφ
    exact⟨none,0,0,hv,rfl⟩
   ·cases hφ
    rcases hv with ⟨rfl,p,cap,e1⟩ |⟨b,o,cap,cs,te,fr,e1,_⟩
    ·exact⟨p,0,cap,e1,λ_=>rfl⟩
    ·exact⟨_,_,_,e1,λh=>by cases h⟩
   ·cases hφ
    rcases hv with ⟨rfl,p,cap,e1⟩ |⟨b,o,cap,cs,e1,_⟩
    ·exact⟨p,0,cap,e1,λ_=>rfl⟩
    ·exact⟨_,_,_,e1,λh=>by cases h⟩
   ·cases hφ
    rcases hv with ⟨rfl,p,e1⟩ |⟨cap,n,e1,_⟩
    ·exact⟨p,0,0,e1,λ_=>rfl⟩
    ·exact⟨_,_,_,e1,λh=>by cases h⟩
   ·cases hφ
  unfold ahB at hp hK
  split at hp
  ·rename_i φ hφ
   simp only [hφ] at hK
   obtain⟨p,n,cap,e1,h1⟩:=key φ hφ
   have hex:(execOp a.eval ⟨some d,.binOp .eql t x (.const (.slice none 0 0)) u,ty,pos,af,g⟩).run P w= .ok (.value (.bool p.isNone)) w:=by
    have h2:=LH (P:=P) he p n cap w
    simp [execOp,e1,show a.eval (.const (.slice none 0 0))= .slice none 0 0 from rfl,eqGuard,binOp,h2]
   exact fv.value (av:=.q p.isNone) hh rfl hd hex rfl (by simp [AV.boxes,A0.boxes,SV.boxes]) (λa' h=>hK _ _ _ ⟨p.isNone,h1,rfl⟩ h)
  ·rename_i φ hφ
   simp only [hφ] at hK
   obtain⟨p,n,cap,e1,h1⟩:=key φ hφ
   have hex:(execOp a.eval ⟨some d,.binOp .neq t x (.const (.slice none 0 0)) u,ty,pos,af,g⟩).run P w= .ok (.value (.bool (!p.isNone))) w:=by
    have h2:=LH (P:=P) he p n cap w
    simp [execOp,e1,show a.eval (.const (.slice none 0 0))= .slice none 0 0 from rfl,eqGuard,binOp,h2]
   exact fv.value (av:=.q (!p.isNone)) hh rfl hd hex rfl (by simp [AV.boxes,A0.boxes,SV.boxes]) (λa' h=>hK _ _ _ ⟨p.isNone,h1,rfl⟩ h)
  ·exact hp.elim
def ah1 (op:BinOp) (v:AV):V1:=
 match v with
 |.o (.s (.er b))=>match op with
  |.eql=>.go (.q b)
  |.neq=>.go (.q (!b))
  |_=>.no
 |_=>.no
theorem aj1 {ms:Array (String×TypeId)}{op:BinOp}(ht:P.underlying t=some (.interface ms)) (hd:d<N):fv P N ⟨some d,.binOp op t x (.const .nilIface) u,ty,pos,af,g⟩ (bY x λv=>.ret ((ah1 op v).rs d)):=
 fv.uu rfl hd λc T β τ a w hh v hv r hr=>by
  unfold ah1 at hr
  split at hr
  ·rename_i b
   cases b with
   |true=>
    have e1:a.eval x= .nilIface:=hv
    have h3:=(acB (P:=P) ht (y:=.nilIface) w).1 rfl
    split at hr
    ·cases hr
     exact⟨adu _ _,.bool true,by simp [execOp,e1,show a.eval (.const .nilIface)= .nilIface from rfl,eqGuard,binOp,h3],rfl⟩
    ·cases hr
     exact⟨adu _ _,.bool false,by simp [execOp,e1,show a.eval (.const .nilIface)= .nilIface from rfl,eqGuard,binOp,h3],rfl⟩
    ·exact hr.elim
   |false=>
    obtain⟨tt,vv,e1⟩:∃t v,a.eval x= .iface t v:=hv
    have h3:=(acB (P:=P) ht (y:=.iface tt vv) w).2 ⟨tt,vv,rfl⟩
    split at hr
    ·cases hr
     exact⟨adu _ _,.bool false,by simp [execOp,e1,show a.eval (.const .nilIface)= .nilIface from rfl,eqGuard,binOp,h3],rfl⟩
    ·cases hr
     exact⟨adu _ _,.bool true,by simp [execOp,e1,show a.eval (.const .nilIface)= .nilIface from rfl,eqGuard,binOp,h3],rfl⟩
    ·exact hr.elim
  ·exact hr.elim
structure Arr (P:Program) (t:TypeId) (jK:Nat):Prop where
 info:∃z,vO P t=some (1,jK,[z])
 small:jK≤1048576
theorem Arr.sh (h:Arr P t u):rL P t=some 1:=by
 obtain⟨z,hz⟩:=h.info
 obtain⟨e,i,z',ht,hi,_,dj,_⟩:=jY hz
 unfold rL
 rw [ht]
 simp [hi,dj]
def cellsOf:Nat→List (Nat×AV)→Option (List SV)
 |_,[]=>some []
 |j,p::l=>match p.2 with
  |.o (.s x)=>bif Nat.beq p.1 j&&x.one then (match cellsOf (j+1) l with
   |some m=>some (x::m)
   |none=>none) else none
  |_=>none
theorem EH {c:Ctx}{T:bb}{β:Nat→Nat}{a:Act}{w:World}(hh:Holds N c T β τ a w):∀(parts:List (Nat×Operand)) (vs:List (Nat×AV)) (j:Nat) (l:List SV) (cs:Array Value),evL τ parts=some vs→cellsOf j vs=some l→j+parts.length≤cs.size→
  l.length=parts.length∧(∀i∈cc l,τ (.b i)≠none)∧∃mg ys,Instr.fill (λi=>some (i*1,1)) cs (parts.map λp=>(p.1,a.eval p.2))=some mg∧dN T β l ys∧mg.toList=cs.toList.take j++ys++cs.toList.drop (j+parts.length)
 |[],vs,j,l,cs,h1,h2,h3=>by
  cases h1;cases h2
  exact⟨rfl,by simp [cc],cs,[],rfl,trivial,by simp⟩
 |p::parts,vs,j,l,cs,h1,h2,h3=>by
  simp only [evL] at h1
  split at h1
  ·rename_i v hv
   split at h1
   ·rename_i vs' IY
    cases h1
    simp only [cellsOf] at h2
    split at h2
    ·rename_i x
     cases hc:Nat.beq p.1 j&&x.one with
     |false=>rw [hc] at h2;cases h2
     |true=>
      rw [hc] at h2
      simp only [cond_true] at h2
      split at h2
      ·rename_i m hm
       cases h2
       simp only [ZA9] at hc
       have hj:p.1=j:=by simpa using hc.1
       have hr:x.rel T β (a.eval p.2):=eP hh hv
       have agU:=AA (SV.OU hc.2 hr)
       simp only [ZA1] at h3
       obtain⟨g1,g2,mg,ys,g3,g4,g5⟩:=EH hh parts vs' (j+1) m (spl cs j [a.eval p.2]) IY hm (by rw [nE];omega)
       refine⟨by simp [g1],λi hi=>?_,mg,a.eval p.2::ys,?_,⟨hr,g4⟩,?_⟩
       ·simp only [cc,ZB4] at hi
        rcases hi with hi |hi
        ·exact gY hh hv i hi
        ·exact g2 i hi
       ·rw [ZE7,hj,C4 (place:=λi=>some (i*1,1)) (off:=j*1) (size:=1) rfl (by rw [agU];rfl) (by omega),Nat.mul_one,agU]
        exact g3
       ·rw [g5,mD _ _ _ (by simp;omega)]
        have hl1:(cs.toList.take j++[a.eval p.2]).length=j+1:=by simp;omega
        have e1:(cs.toList.take j++[a.eval p.2]++cs.toList.drop (j+[a.eval p.2].length)).take (j+1)=cs.toList.take j++[a.eval p.2]:=by rw [←hl1];exact List.take_left' rfl
        have e2:(cs.toList.take j++[a.eval p.2]++cs.toList.drop (j+[a.eval p.2].length)).drop (j+1+parts.length)=cs.toList.drop (j+(parts.length+1)):=by
         rw [←hl1,ZF5,ZF9]
         congr 1;show j+1+parts.length=j+(parts.length+1);omega
        rw [e1,e2]
        simp
      ·cases h2
    ·cases h2
   ·cases h1
  ·cases h1
def afm (d k:Nat) (vs:List (Nat×AV)):Q Rs:=
 match cellsOf 0 vs with
 |some l=>bif Nat.beq l.length k&&(Nat.blt 0 k&&Nat.ble k 16777216) then .ask (.b (1000+d)) fun
  |none=>.ret (.go [(.s d,.s (.xs (1000+d) 1 0 k)),(.b (1000+d),.a l)])
  |some _=>.ret .no else .ret .no
 |none=>.ret .no
theorem aim {jK k:Nat}{parts:Array (Nat×Operand)}(hf:Arr P t jK) (hd:d<N):fv P N ⟨some d,.buildSlice t k parts,ty,pos,af,g⟩ (P2 parts.toList λvs=>afm d k vs):=by
 intro c τ a w hr hp K Q' hK
 obtain⟨T,β,hh⟩:=hr
 rw [AI] at hp hK
 cases hx:evL τ parts.toList with
 |none=>rw [hx] at hp;exact hp.elim
 |some vs=>
  rw [hx] at hp hK
  simp only at hp hK
  unfold afm at hp hK
  split at hp
  ·rename_i l hl
   simp only [hl] at hK
   cases hc:Nat.beq l.length k&&(Nat.blt 0 k&&Nat.ble k 16777216) with
   |false=>rw [hc] at hp;exact hp.elim
   |true=>
    rw [hc] at hp hK
    simp only [cond_true,Q.run] at hp hK
    simp only [ZA9] at hc
    have hk:l.length=k:=by simpa using hc.1
    have hk0:0<k:=mc.1 hc.2.1
    have hle:=zqNlb hc.2.2
    cases hn:τ (.b (1000+d)) with
    |some v=>rw [hn] at hp;exact hp.elim
    |none=>
     rw [hn] at hp hK
     obtain⟨z0,hz0⟩:=hf.info
     obtain⟨e,i,z,ht,hi,hz,dj,hby,hzs⟩:=jY hz0
     let cs0:Array Value:=(Array.range (k*i.size)).map (λk=>z.cells[k % z.cells.size]!)
     have TQ:cs0.size=k:=by simp [cs0,dj]
     have rT:parts.toList.length=k:=by
      rw [←hk]
      have:∀(ps:List (Nat×Operand)) (vs:List (Nat×AV)) (j:Nat) (l:List SV),evL τ ps=some vs→cellsOf j vs=some l→l.length=ps.length:=by
       intro ps
       induction ps with
       |nil=>intro vs j l h h2;cases h;cases h2;rfl
       |cons p ps ih=>
        intro vs j l h h2
        simp only [evL] at h
        split at h
        ·split at h
         ·rename_i vs' h'
          cases h
          simp only [cellsOf] at h2
          split at h2
          ·rename_i x _
           cases hq:Nat.beq p.1 j&&x.one with
           |false=>rw [hq] at h2;cases h2
           |true=>
            rw [hq] at h2
            simp only [cond_true] at h2
            split at h2
            ·rename_i m hm;cases h2;simp [ih _ _ _ h' hm]
            ·cases h2
          ·cases h2
         ·cases h
        ·cases h
      exact (this _ _ _ _ hx hl).symm
     obtain⟨_,hnm,mg,ys,aej,c6,ahU⟩:=EH hh parts.toList vs 0 l cs0 hx hl (by omega)
     have mq:mg.toList=ys:=by
      rw [ahU,rT,ZA6,List.take_zero,ZD0,List.drop_of_length_le (by simp [TQ]),ZE5]
     have alA:mg.size=k:=by rw [←ZE4,mq,←jj c6,hk]
     have h24:¬(16777216<k*i.size):=by rw [dj];omega
     have tO:Instr.fill (λx=>some (x*i.size,i.size)) cs0 (parts.toList.map λp=>(p.1,a.eval p.2))=some mg:=by rw [dj];exact aej
     have ak9:¬k*i.size=0:=by rw [dj];omega
     have hex:(execOp a.eval ⟨some d,.buildSlice t k parts,ty,pos,af,g⟩).run P w= .ok (.value (.slice (some ⟨w.heap.size,0,none⟩) k k)) { w with heap:=w.heap.push (.cells mg e (0,0)) }:=by
      simp only [cs0] at tO
      simp [execOp,Instr.buildSlice,run_underlying ht,sizeOf,typeInfo,hi,h24,ak9,newRow,zeroValue,hz]
      simp [tO]
     have hpu:oK w (.cells mg e (0,0)) { w with heap:=w.heap.push (.cells mg e (0,0)) }:=⟨rfl,rfl,rfl,rfl⟩
     have h1:=hh.tD (d:=1000+d) (by omega) hn (av:=.a l) (cs:=mg) (e:=e) hpu (show dN T β l mg.toList by rw [mq];exact c6) hnm
     unfold Oper.wp
     rw [hex]
     show K (a.put (some d) _) _
     refine hK _ _ _ rfl ⟨_,_,h1.put hd (av:=.s (.xs (1000+d) 1 0 k)) (.inr ⟨k,mg.size,?_,ZB5 _,?_,by omega⟩) (by simp [AV.boxes,A0.boxes,SV.boxes,uj])⟩
     ·show _=Value.slice (some ⟨oo β (1000+d) w.heap.size (1000+d),0*1,none⟩) _ _
      unfold oo;rw [if_pos rfl]
     ·unfold oo xi;rw [if_pos rfl,if_pos rfl]
  ·exact hp.elim
end
end GL
namespace GL
inductive Kd where
 |str
 |bool
 |int (k:IntKind)
 |slice (ek:EK) (jK:Nat)
 |bytes (jK:Nat)
 |ints (n:Nat)
 |other
 |iface
 |arr (jK:Nat)
structure TI where
 agg:Bool
 size:Nat
 kd:Kd
 zero:List Value
 abZ:List (Nat×Bool×Nat)
 places:List (Nat×Nat)
def isIface (P:Program) (t:TypeId):Bool:=match P.underlying t with
 |some (.interface _)=>true
 |_=>false
theorem XD {P:Program}{t:TypeId}(h:isIface P t=true):∃ms,P.underlying t=some (.interface ms):=by
 unfold isIface at h
 split at h
 ·rename_i ms e;exact⟨ms,e⟩
 ·cases h
def aj5 (P:Program) (t:TypeId):Kd→Prop
 |.str=>P.underlying t=some .string
 |.bool=>P.underlying t=some .bool
 |.int k=>P.underlying t=some (.int k)
 |.slice ek jK=>Fits P t ek jK
 |.bytes jK=>Fits P t mf jK∧∃e,P.underlying t=some (.slice e)∧P.underlying e=some (.int .u8)
 |.ints n=>aj7 P t n
 |.other=>True
 |.iface=>isIface P t=true
 |.arr jK=>Arr P t jK
structure ib (P:Program) (t:TypeId) (i:TI):Prop where
 sh:Sh P t=some (i.agg,i.size)
 zero:zeroOf P t=some i.zero
 abZ:∀(f:Nat) (x:Nat×Bool×Nat),i.abZ[f]?=some x→kn P t f=some x
 places:i.places=[]∨afk P t=some (i.places,i.zero)
 kd:aj5 P t i.kd
structure Env where
 N:Nat
 tab:TypeId→Option TI
 rU:FuncId→Option cn
 exact:Nat→Bool:=λ_=>true
 wr:Nat→Bool:=λ_=>false
 part:Nat→Bool:=λ_=>false
structure AW (P:Program) (E:Env):Prop where
 tab:∀t i,E.tab t=some i→ib P t i
 rU:∀f c,E.rU f=some c→wj P f c∧Enters P f
def mR:Q Rs:=.ret .no
def iH (N:Nat) (o:Option Nat) (k:Nat→Q Rs):Q Rs:=
 match o with
 |some d=>bif Nat.blt d N then k d else mR
 |none=>mR
def mr (E:Env) (t:TypeId) (k:TI→Q Rs):Q Rs:=
 match E.tab t with
 |some i=>k i
 |none=>mR
def agj:Kd→Option EK
 |.slice ek _=>some ek
 |.bytes _=>some mf
 |_=>none
def YH (E:Env) (t:TypeId) (k:EK→Q Rs):Q Rs:=mr E t λi=>match agj i.kd with
 |some ek=>k ek
 |none=>mR
def YQ (E:Env) (d:Nat) (c:Call):Q Rs:=
 match c with
 |⟨.value (.func f),args,_⟩=>afd E.rU (E.part d) d f args.toList
 |⟨.value (.tmp k),args,_⟩=>bY (.tmp k) λv=>afb E.rU (E.part d) d args.toList v
 |⟨.builtin .len,⟨[x]⟩,⟨[t]⟩⟩=>mr E t λi=>match i.kd with
  |.str=>bY x λv=>.ret ((S3 true v).rs d)
  |.slice _ _=>bY x λv=>.ret ((S3 false v).rs d)
  |.bytes _=>bY x λv=>.ret ((S3 false v).rs d)
  |.arr _=>bY x λv=>.ret ((S3 false v).rs d)
  |_=>mR
 |⟨.builtin .append,⟨[x,y]⟩,⟨[t,t']⟩⟩=>bif Nat.beq t t' then YH E t λek=>bif E.exact d then bY x λv=>bY y λu=>aip (E.part d) d ek v u else bY x λv=>bY y λu=>aiq (E.part d) d ek v u else mR
 |⟨.builtin .max,⟨[x,y]⟩,_⟩=>bY x λv=>bY y λu=>.ret ((mmV true v u).rs d)
 |⟨.builtin .min,⟨[x,y]⟩,_⟩=>bY x λv=>bY y λu=>.ret ((mmV false v u).rs d)
 |_=>mR
def stp (E:Env) (o:Oper):Q Rs:=
 match o.op with
 |.move x=>iH E.N o.dst λd=>bY x λv=>.ret ((V1.go v).rs d)
 |.assign x=>iH E.N o.dst λd=>bY x λv=>.ret ((V1.go v).rs d)
 |.pick z x y=>iH E.N o.dst λd=>bY z λv=>bY x λu=>bY y λs=>.ret ((acQ v u s).rs d)
 |.alloc t=>iH E.N o.dst λd=>mr E t λi=>YD d (uF i.zero)
 |.box _ x=>iH E.N o.dst λd=>bY x λv=>ah6 d v
 |.build t parts=>iH E.N o.dst λd=>mr E t λi=>match i.places with
  |[]=>mR
  |p::l=>P2 parts.toList λvs=>.ret ((X7 (p::l) i.zero vs).rs d)
 |.buildSlice t k parts=>iH E.N o.dst λd=>mr E t λi=>match i.kd with
  |.arr _=>P2 parts.toList λvs=>afm d k vs
  |kd=>match agj kd with
   |some ek=>P2 parts.toList λvs=>P0 (E.exact d) d k ek vs
   |none=>mR
 |.load t x=>iH E.N o.dst λd=>mr E t λi=>bY x λv=>adD i.agg i.size d v
 |.store t x y=>match o.dst with
  |none=>mr E t λi=>bY x λv=>bY y λu=>UZ i.size v u
  |some _=>mR
 |.nilCheck x=>iH E.N o.dst λd=>bY x λv=>.ret ((ahA v).rs d)
 |.binOp op t x y _=>iH E.N o.dst λd=>mr E t λi=>match i.kd with
  |.bool=>bY x λv=>bY y λu=>.ret ((ah8 op v u).rs d)
  |.ints n=>bY x λv=>bY y λu=>.ret ((ahh n op v u).rs d)
  |.slice _ _=>match y with
   |.const (.slice none 0 0)=>bY x λv=>ahB op d v
   |_=>mR
  |.iface=>match y with
   |.const .nilIface=>bY x λv=>.ret ((ah1 op v).rs d)
   |_=>mR
  |_=>bY x λv=>bY y λu=>.ret ((ah7 (E.wr d) op v u).rs d)
 |.unOp .not _ x=>iH E.N o.dst λd=>bY x λv=>.ret ((ahy v).rs d)
 |.unOp .neg _ x=>iH E.N o.dst λd=>bY x λv=>.ret ((ahD v).rs d)
 |.convert t u x=>iH E.N o.dst λd=>mr E t λi=>mr E u λj=>match i.kd,j.kd with
  |.bytes _,.str=>bY x λv=>acr (E.part d) d v
  |.bytes _,.bytes _=>bif Nat.beq t u then bY x λv=>.ret ((acy v).rs d) else mR
  |_,.int k=>bY x λv=>.ret ((ae2 k v).rs d)
  |_,_=>mR
 |.makeSlice t x y=>iH E.N o.dst λd=>YH E t λek=>bY x λv=>bY y λu=>adC (E.exact d) d ek v u
 |.slice t x l h none=>iH E.N o.dst λd=>mr E t λi=>match i.kd with
  |.str=>bY x λv=>qG l λl'=>qG h λh'=>.ret ((X1 true 0 v l' h').rs d)
  |.slice ek _=>bY x λv=>qG l λl'=>qG h λh'=>.ret ((X1 false ek.length v l' h').rs d)
  |.bytes _=>bY x λv=>qG l λl'=>qG h λh'=>.ret ((X1 false 1 v l' h').rs d)
  |_=>mR
 |.slice t x l h (some m)=>iH E.N o.dst λd=>mr E t λi=>match i.kd with
  |.slice ek _=>bY x λv=>qG l λl'=>qG h λh'=>qG (some m) λm'=>.ret ((ae1 ek.length v l' h' m').rs d)
  |_=>mR
 |.makeFunc (.func f) ⟨[]⟩ DA=>iH E.N o.dst λd=>YA DA.toList λavs=>.ret (fnR d f avs)
 |.fieldAddr t x f=>iH E.N o.dst λd=>mr E t λi=>match i.abZ[f]? with
  |some (off,_,_)=>bY x λv=>.ret ((XT off v).rs d)
  |none=>mR
 |.field t x f=>iH E.N o.dst λd=>mr E t λi=>match i.abZ[f]? with
  |some (off,b,n)=>bY x λv=>.ret ((XK off b n v).rs d)
  |none=>mR
 |.indexAddr t x y=>iH E.N o.dst λd=>mr E t λi=>match i.kd with
  |.arr _=>bY x λv=>bY y λu=>.ret ((PL 1 v u).rs d)
  |kd=>match agj kd with
   |some ek=>bY x λv=>bY y λu=>.ret ((PL ek.length v u).rs d)
   |none=>mR
 |.index t x y=>iH E.N o.dst λd=>mr E t λi=>match i.kd with
  |.str=>bY x λv=>bY y λu=>.ret ((XE v u).rs d)
  |_=>mR
 |.extract x i=>iH E.N o.dst λd=>bY x λv=>.ret ((JK i v).rs d)
 |.call c=>iH E.N o.dst λd=>YQ E d c
 |_=>mR
section
variable {P:Program}
theorem eg {N:Nat}{o:Oper}:fv P N o mR:=λ_ _ _ _ _ hp=>hp.elim
theorem dk {N:Nat}{o:Oper}{k:Nat→Q Rs}(h:∀d,o.dst=some d→d<N→fv P N o (k d)):fv P N o (iH N o.dst k):=by
 unfold iH
 split
 ·rename_i d hd
  cases hb:Nat.blt d N with
  |false=>exact eg
  |true=>exact h d hd (mc.1 hb)
 ·exact eg
theorem fw {E:Env}(hE:AW P E) {o:Oper}{t:TypeId}{k:TI→Q Rs}(h:∀i,ib P t i→fv P E.N o (k i)):fv P E.N o (mr E t k):=by
 unfold mr
 split
 ·rename_i i hi;exact h i (hE.tab t i hi)
 ·exact eg
theorem QA {E:Env}(hE:AW P E) {o:Oper}{t:TypeId}{k:EK→Q Rs}(h:∀ek jK,Fits P t ek jK→fv P E.N o (k ek)):fv P E.N o (YH E t k):=by
 unfold YH
 refine fw hE λi hi=>?_
 have hk:=hi.kd
 cases hkd:i.kd with
 |slice ek jK=>rw [hkd] at hk;exact h ek jK hk
 |bytes jK=>rw [hkd] at hk;exact h mf jK hk.1
 |_=>exact eg
theorem aaj {t:TypeId}{kd:Kd}(hk:aj5 P t kd) {ek:EK}(h:agj kd=some ek):∃jK,Fits P t ek jK:=by
 cases kd with
 |slice my jK=>cases h;exact⟨jK,hk⟩
 |bytes jK=>cases h;exact⟨jK,hk.1⟩
 |_=>cases h
theorem ahd {E:Env}(hE:AW P E) (o:Oper):fv P E.N o (stp E o):=by
 obtain⟨dst,op,ty,pos,af,g⟩:=o
 unfold stp
 cases op
 case move x=>exact dk λd hd hN=>by cases hd;exact aic hN
 case assign x=>exact dk λd hd hN=>by cases hd;exact afq hN
 case pick z x y=>exact dk λd hd hN=>by cases hd;exact aib hN
 case alloc t=>exact dk λd hd hN=>fw hE λi hi=>by cases hd;exact ags hi.zero hN
 case box t x=>exact dk λd hd hN=>by cases hd;exact aj2 hN
 case build t parts=>
  refine dk λd hd hN=>fw hE λi hi=>?_
  cases hd
  split
  ·exact eg
  ·rename_i p l rT
   rcases hi.places with h |h
   ·rw [rT] at h;cases h
   ·rw [rT] at h;exact agr h hN
 case buildSlice t k parts=>
  refine dk λd hd hN=>fw hE λi hi=>?_
  cases hd
  have hk:=hi.kd
  split
  ·rename_i jK h;rw [h] at hk;exact aim hk hN
  ·split
   ·rename_i ek h
    obtain⟨jK,hf⟩:=aaj hk h
    exact afp hf hN
   ·exact eg
 case load t x=>exact dk λd hd hN=>fw hE λi hi=>by cases hd;exact aie hi.sh hN
 case store t x y=>
  cases dst with
  |none=>exact fw hE λi hi=>agm hi.sh
  |some _=>exact eg
 case nilCheck x=>exact dk λd hd hN=>by cases hd;exact ajW hN
 case binOp op t x y t'=>
  refine dk λd hd hN=>fw hE λi hi=>?_
  cases hd
  have hk:=hi.kd
  split
  ·rename_i h;rw [h] at hk;exact aj4 hk hN
  ·rename_i n h;rw [h] at hk;exact ajU hk hN
  ·rename_i ek jK h
   rw [h] at hk
   obtain⟨e,i',z',ht,_⟩:=jY hk.info
   split
   ·exact afn ht hN
   ·exact eg
  ·rename_i h
   rw [h] at hk
   obtain⟨ms,hm⟩:=XD hk
   split
   ·exact aj1 hm hN
   ·exact eg
  ·exact ail hN
 case unOp u t x=>
  cases u
  case not=>exact dk λd hd hN=>by cases hd;exact ajV hN
  case neg=>exact dk λd hd hN=>by cases hd;exact ajX hN
  all_goals exact eg
 case convert t u x=>
  refine dk λd hd hN=>fw hE λi hi=>fw hE λj hj=>?_
  cases hd
  have hk:=hi.kd
  have hl:=hj.kd
  split
  ·rename_i h1 h2
   rw [h1] at hk;rw [h2] at hl
   obtain⟨_,e,g1,g2⟩:=hk
   exact ah9 g1 g2 hl hN
  ·rename_i h1 h2
   rw [h1] at hk
   obtain⟨_,e,g1,g2⟩:=hk
   cases hb:Nat.beq t u with
   |false=>exact eg
   |true=>
    have:t=u:=by simpa using hb
    subst this
    exact aia g1 g2 hN
  ·rename_i k h2
   rw [h2] at hl
   have aje:(P.underlying t).isSome=true:=by
    have:=hi.sh
    unfold Sh at this
    cases hu:P.underlying t with
    |none=>rw [hu] at this;simp at this
    |some _=>rfl
   exact aij k aje hl hN
  ·exact eg
 case makeSlice t x y=>exact dk λd hd hN=>QA hE λek jK hf=>by cases hd;exact aid hf hN
 case slice t x l h m=>
  cases m with
  |some m=>
    refine dk λd hd hN=>fw hE λi hi=>?_
    cases hd
    have hk:=hi.kd
    split
    ·rename_i ek jK h1;rw [h1] at hk;exact aii hk.sh hN
    ·exact eg
  |none=>
    refine dk λd hd hN=>fw hE λi hi=>?_
    cases hd
    have hk:=hi.kd
    split
    ·rename_i h1;rw [h1] at hk;exact aih hk hN
    ·rename_i ek jK h1;rw [h1] at hk;exact afo hk.sh hN
    ·rename_i jK h1;rw [h1] at hk;exact afo hk.1.sh hN
    ·exact eg
 case fieldAddr t x f=>
  refine dk λd hd hN=>fw hE λi hi=>?_
  cases hd
  split
  ·rename_i off b n hf;exact agp (hi.abZ f _ hf) hN
  ·exact eg
 case field t x f=>
  refine dk λd hd hN=>fw hE λi hi=>?_
  cases hd
  split
  ·rename_i off b n hf;exact ago (hi.abZ f _ hf) hN
  ·exact eg
 case makeFunc fn first DA=>
  obtain⟨l⟩:=first
  cases fn with
  |func f=>
   cases l with
   |nil=>exact dk λd hd hN=>by cases hd;exact ajY hN
   |cons _ _=>exact eg
  |_=>exact eg
 case indexAddr t x y=>
  refine dk λd hd hN=>fw hE λi hi=>?_
  cases hd
  have hk:=hi.kd
  split
  ·rename_i jK h;rw [h] at hk;exact aaw hk.sh hN
  ·split
   ·rename_i ek h
    obtain⟨jK,hf⟩:=aaj hk h
    exact aaw hf.sh hN
   ·exact eg
 case index t x y=>
  refine dk λd hd hN=>fw hE λi hi=>?_
  cases hd
  have hk:=hi.kd
  split
  ·rename_i h;rw [h] at hk;exact agn hk hN
  ·exact eg
 case extract x i=>exact dk λd hd hN=>by cases hd;exact acd hN
 case call c=>
  refine dk λd hd hN=>?_
  cases hd
  unfold YQ
  split
  ·exact aik hE.rU hN
  ·exact agq hE.rU hN
  ·rename_i x t
   refine fw hE λi hi=>?_
   ·have hk:=hi.kd
    split
    ·rename_i h;rw [h] at hk;exact aif hk hN
    ·rename_i ek jK h;rw [h] at hk;exact X9 hk.sh hN
    ·rename_i jK h;rw [h] at hk;exact X9 hk.1.sh hN
    ·rename_i jK h;rw [h] at hk;exact X9 hk.sh hN
    ·exact eg
  ·rename_i x y t t'
   cases hb:Nat.beq t t' with
   |false=>exact eg
   |true=>
    have:t=t':=by simpa using hb
    subst this
    refine QA hE λek jK hf=>?_
    cases E.exact d with
    |true=>exact ain hf hN
    |false=>exact aio hf hN
  ·exact aj0 hN
  ·exact ajZ hN
  ·exact eg
 all_goals exact eg
end
end GL
namespace GL
def Q.map {α β:Type 1}(f:α→β):Q α→Q β
 |.ret a=>.ret (f a)
 |.ask r k=>.ask r λv=>(k v).map f
theorem Q.ZH {α β:Type 1}(f:α→β) (τ:St):∀q:Q α,(q.map f).run τ=f (q.run τ)
 |.ret _=>rfl
 |.ask r k=>Q.ZH f τ (k (τ r))
def brk (gs:List Nat):Rs→Rs
 |.go [(.s d,.o (.s (.q b)))]=>bif iz gs d then .br True b d else .go [(.s d,.o (.s (.q b)))]
 |.mZ p [(.s d,.o (.s (.q b)))]=>bif iz gs d then .br p b d else .mZ p [(.s d,.o (.s (.q b)))]
 |r=>r
def CY (ops:Array Oper):List Oper→List Nat
 |[]=>[]
 |o::l=>match o.guard with
  |some (j,_)=>match ops[j]? with
   |some og=>match og.dst with
    |some g=>g::CY ops l
    |none=>CY ops l
   |none=>CY ops l
  |none=>CY ops l
def XJ (N:Nat) (ops:Array Oper) (o:Oper) (q:Q Rs):Q Rs:=
 match o.guard with
 |none=>q
 |some (j,want)=>match ops[j]?,o.dst with
  |some og,some d=>match og.dst with
   |some g=>.ask (.s g) fun
    |some (.o (.s (.v (.bool b))))=>bif (bif want then b else !b) then q else (bif Nat.blt d N then .ret (.go [(.s d,.s (.v undef))]) else mR)
    |some (.o (.s (.v (.tuple _))))=>bif Nat.blt d N then .ret (.go [(.s d,.s (.v undef))]) else mR
    |_=>mR
   |none=>mR
  |_,_=>mR
def sem (E:Env):Sm:=λops o=>XJ E.N ops o ((stp E o).map (brk (CY ops ops.toList)))
section
variable {P:Program}{N:Nat}
theorem Rel.swap {c:Ctx}{τ:St}{a:Act}{w:World}{d:Nat}{b:Bool}(h:Rel N c (τ.ap [(.s d,.s (.q b))]) a w):Rel N c (τ.ap [(.s d,.s (.v (.bool b)))]) a w:=by
 obtain⟨T,β,hh⟩:=h
 have hb:∀i,(τ.ap [(.s d,.s (.v (.bool b)))]) (.b i)=(τ.ap [(.s d,.s (.q b))]) (.b i):=λi=>by rw [uj,uj,if_neg (by simp),if_neg (by simp)]
 have hl:∀i,live (τ.ap [(.s d,.s (.v (.bool b)))]) i→live (τ.ap [(.s d,.s (.q b))]) i:=λi hi=>by
  unfold live at hi ⊢
  rwa [hb] at hi
 refine⟨T,β,{ hh with
  iJ:=λi av hi=>by
   rw [uj] at hi
   by_cases e:fJ.s i= .s d
   ·rw [if_pos e] at hi
    cases hi
    exact hh.iJ i (.s (.q b)) (by rw [uj,if_pos e])
   ·rw [if_neg e] at hi
    exact hh.iJ i av (by rw [uj,if_neg e];exact hi)
  boxes:=λi av hi hz=>hh.boxes i av (by rwa [hb] at hi) hz
  apart:=λi hi=>hh.apart i (hl i hi)
  handed:=λi b' hb' hi=>hh.handed i b' hb' (hl i hi)
  inj:=λi j hi hj e=>hh.inj i j (hl i hi) (hl j hj) e
  named:=λr av hr i hi=>by
   rw [hb]
   rw [uj] at hr
   by_cases e:r= .s d
   ·rw [if_pos e] at hr;cases hr;simp [AV.boxes,A0.boxes,SV.boxes] at hi
   ·rw [if_neg e] at hr
    exact hh.named r av (by rw [uj,if_neg e];exact hr) i hi }⟩
theorem ah5 {o:Oper}{q:Q Rs}(gs:List Nat) (h:fv P N o q):fv P N o (q.map (brk gs)):=by
 intro c τ a w hr hp K Q' hK
 rw [Q.ZH] at hp hK
 refine h c τ a w hr ?_ K Q' ?_
 ·unfold brk at hp
  split at hp
  ·rename_i heq;rw [heq];trivial
  ·rename_i p d b heq
   rw [heq]
   cases hm:iz gs d with
   |true=>rw [hm] at hp;exact hp
   |false=>rw [hm] at hp;exact hp
  ·exact hp
 ·intro u a' w' hu uK
  unfold brk at hK
  split at hK
  ·rename_i d b heq
   rw [heq] at hu
   cases hu
   cases hm:iz gs d with
   |true=>rw [hm] at hK;exact hK _ _ _ rfl uK.swap
   |false=>rw [hm] at hK;exact hK _ _ _ rfl uK
  ·rename_i p d b heq
   rw [heq] at hu
   cases hu
   cases hm:iz gs d with
   |true=>rw [hm] at hK;exact hK _ _ _ rfl uK.swap
   |false=>rw [hm] at hK;exact hK _ _ _ rfl uK
  ·exact hK _ _ _ hu uK
theorem aep {ops:Array Oper}{o:Oper}{q:Q Rs}(h:fv P N o q):OpS P N ops o (XJ N ops o q):=by
 intro c τ a w hr hp K Q' hK
 unfold XJ at hp hK
 cases hg:o.guard with
 |none=>
  rw [hg] at hp hK
  have:Region.wanted o (yielded ops a.tmps)=true:=by simp [Region.wanted,hg]
  rw [if_pos this]
  exact h c τ a w hr hp K Q' hK
 |some jw=>
  obtain⟨j,want⟩:=jw
  rw [hg] at hp hK
  simp only at hp hK
  split at hp
  ·rename_i og d hj hd
   simp only [hj,hd] at hK
   split at hp
   ·rename_i g hgd
    simp only [hgd,Q.run] at hK
    simp only [Q.run] at hp
    split at hp
    ·rename_i b hb
     simp only [hb] at hK
     obtain⟨T,β,hh⟩:=hr
     obtain⟨v,hv,c6⟩:=hh.iJ g _ hb
     have hv':v= .bool b:=c6
     subst hv'
     have hy:yielded ops a.tmps j=some b:=by simp [yielded,hj,hgd,hv]
     cases hw:(bif want then b else !b) with
     |true=>
      rw [hw] at hp hK
      have hbw:b=want:=by cases b<;>cases want<;>simp at hw ⊢
      have:Region.wanted o (yielded ops a.tmps)=true:=by simp [Region.wanted,hg,hy,hbw]
      rw [if_pos this]
      exact h c τ a w ⟨T,β,hh⟩ hp K Q' hK
     |false=>
      rw [hw] at hp hK
      have hbw:b≠want:=by cases b<;>cases want<;>simp at hw ⊢
      have:¬Region.wanted o (yielded ops a.tmps)=true:=by simp [Region.wanted,hg,hy,hbw]
      rw [if_neg this]
      simp only [cond_false] at hp hK
      cases hN:Nat.blt d N with
      |false=>rw [hN] at hp;exact hp.elim
      |true=>
       rw [hN] at hK
       rw [hd]
       exact hK _ _ _ rfl ⟨T,β,hh.put (mc.1 hN) (av:=.s (.v undef)) rfl (by simp [AV.boxes,A0.boxes,SV.boxes])⟩
    ·rename_i x hb
     simp only [hb] at hK
     obtain⟨T,β,hh⟩:=hr
     obtain⟨v,hv,c6⟩:=hh.iJ g _ hb
     have hv':v= .tuple x:=c6
     subst hv'
     have hy:yielded ops a.tmps j=none:=by simp [yielded,hj,hgd,hv]
     have:¬Region.wanted o (yielded ops a.tmps)=true:=by simp [Region.wanted,hg,hy]
     rw [if_neg this]
     cases hN:Nat.blt d N with
     |false=>rw [hN] at hp;exact hp.elim
     |true=>
      rw [hN] at hK
      rw [hd]
      exact hK _ _ _ rfl ⟨T,β,hh.put (mc.1 hN) (av:=.s (.v undef)) rfl (by simp [AV.boxes,A0.boxes,SV.boxes])⟩
    ·exact hp.elim
   ·exact hp.elim
  ·exact hp.elim
theorem oz {E:Env}(hE:AW P E):UP P E.N (sem E):=λops _ o _=>aep (ah5 (CY ops ops.toList) (ahd hE o))
def Env.sh (E:Env) (t:TypeId):Option (Bool×Nat):=match E.tab t with
 |some i=>some (i.agg,i.size)
 |none=>none
theorem Env.DO {E:Env}(hE:AW P E):∀t x,E.sh t=some x→Sh P t=some x:=λt x h=>by
 unfold Env.sh at h
 split at h
 ·rename_i i hi;cases h;exact (hE.tab t i hi).sh
 ·cases h
theorem wj.of {E:Env}(hE:AW P E) (hm:P.follows .mixedOrders=true) {f:FuncId}{fn:Func}{cd:Code}{C:cn}(hf:P.funcs[f]?=some fn) (hb:fn.body=some cd) (hN:fn.ntmps=E.N) (hlen:C.A.length≤E.N)
  (h:∀x y,C.pre x y→vc P E.N (sem E) cd (entry (APs.avs C.A x) (APs.avs C.B y)) (endQ E.sh fn.results.toList C.B.length C.mv (λr os=>∃z,C.φ x y z∧r=C.r x y z∧os=C.o x y z∧os.length=C.B.length+C.nf))):wj P f C:=by
 intro x y hp
 refine TC.tv hm (oz hE) (Env.DO hE) hf hb hN (by rw [APs.fE];exact hlen) ?_
 rw [APs.fE]
 exact h x y hp
theorem agK {E:Env}(hE:AW P E) (hm:P.follows .mixedOrders=true) {τ:St}{Q':o6}{cd:Code}{ι:Type}(bZ:List fJ) (J:ι→AO) (φ:ι→Prop) (μ:ι→Nat) (x0:ι) (sg0:List (Nat×Nat)) (h0:φ x0) (hs:EO sg0 τ τ bZ (J x0))
  (tL:∀x,φ x→vc P E.N (sem E) cd ((oM τ bZ).ap (J x)) (zd (λτ'=>∃y sg,φ y∧μ y < μ x∧EO sg τ τ' bZ (J y)) Q')):TW P E.N (.loop cd) τ Q':=
 TW.ai2 hm (oz hE) bZ J φ μ x0 sg0 h0 hs tL
