/- FnTreeOk returns true for every code (its row lists package variables, tied by the card): part 9 of 39. -/
import Derived.Test.YtbfgjadbfjkcdaaGreatDoorPah
set_option maxHeartbeats 20000000
set_option linter.all false
namespace Go.Proofs.YtbfgjadbfjkcdaaGreatDoor
namespace GL
section
variable {P:Program} {N:Nat} {τ:St}
variable {d:Nat} {x y z:Operand} {t u ty:TypeId} {pos:String} {af:Array Edge} {g:Option (Nat×Bool)}
theorem rR {α:Type} {o:α→List AV} {g:Nat→Nat} {z:α}:∀ {l:List Nat} {j:Nat} {p:fC×AV},p∈inst z (F1 o g j l)→∃m i,l[m]?=some i∧p=(.b i,(atA (o z) (j+m)).lx g)
 |[],_,p,h=>by cases h
 |i::l,j,p,h=>by
  simp only [F1,inst,List.mem_cons] at h
  rcases h with rfl |h
  ·exact ⟨0,i,rfl,rfl⟩
  ·obtain ⟨m,i',h1,h2⟩:=rR h
   exact ⟨m+1,i',by simpa using h1,by rw [h2];congr 3;omega⟩
theorem F0 {α:Type} {o:α→List AV} {g:Nat→Nat} {z:α}:∀ {l:List Nat} {j m i:Nat},l[m]?=some i→(.b i,(atA (o z) (j+m)).lx g)∈inst z (F1 o g j l)
 |[],_,_,_,h=>by simp at h
 |i::l,j,0,i',h=>by simp at h;subst h;simp [F1,inst]
 |i::l,j,m+1,i',h=>by
  have:=F0 (o:=o) (g:=g) (z:=z) (l:=l) (j:=j+1) (m:=m) (by simpa using h)
  simp only [F1,inst,List.mem_cons]
  right
  rwa [show j+1+m=j+(m+1) by omega] at this
theorem UU {α:Type} {o:α→List AV} {z:α} {ids:List Nat} {base nf:Nat} (hnd:∀(i j:Nat) (x:Nat),(ids++cy base nf)[i]?=some x→(ids++cy base nf)[j]?=some x→i=j):
  YT τ (τ.ap (inst z (F1 o (oJ ids base) 0 (ids++cy base nf)))) ids base nf (o z) where
 set:=fun j i hj=>by
  rcases St.AL (τ:=τ) (u:=inst z (F1 o (oJ ids base) 0 (ids++cy base nf))) (r:=.b i) with ⟨v,hv,hm⟩ |⟨_,uy⟩
  ·obtain ⟨m,i',h1,h2⟩:=rR hm
   cases h2
   have:=hnd _ _ _ h1 hj
   subst this
   rw [hv,Nat.zero_add]
  ·exact absurd rfl (uy _ (F0 hj))
 old:=fun r hr=>St.wi fun p hp e=>by
  obtain ⟨m,i,h1,h2⟩:=rR hp
  subst h2
  exact hr i (List.mem_of_getElem? h1) e.symm
theorem P6 {C:Con} {d:Nat} {ids:List Nat} {bs:List AV} {x:APs.Ty C.A} {y:APs.Ty C.B} {p:Prop} {z:C.α x y} (hp:NN C d ids bs x y p) (hφ:C.φ x y z) (hnd:∀(i j:Nat) (x:Nat),(ids++cy (gZ C.mv d) C.nf)[i]?=some x→(ids++cy (gZ C.mv d) C.nf)[j]?=some x→i=j)
  (hlen:(C.o x y z).length=ids.length+C.nf) (hbl:bs.length=ids.length) (hbs:∀(j i:Nat) (av:AV),ids[j]?=some i→bs[j]?=some av→τ (.b i)=some av):
  YT τ (τ.ap (inst z (afo C d ids x y))) ids (gZ C.mv d) C.nf (C.o x y z):=by
 unfold afo
 unfold NN at hp
 split
 ·exact UU hnd
 ·rename_i hro
  rw [hro] at hp
  have hro:=hp.2 z hφ
  exact {
   set:=fun j i hj=>by
    by_cases bM:j < ids.length
    ·have hi:ids[j]?=some i:=by rwa [List.getElem?_append_left bM] at hj
     rw [St.wi fun pr hpr e=>?_]
     ·have hjb:bs[j]?=some bs[j]:=List.getElem?_eq_getElem (by omega)
      rw [hbs j i _ hi hjb]
      have h1:(BH (oJ ids (gZ C.mv d)) ((C.o x y z).take ids.length))[j]?=some bs[j]:=by rw [hro];exact hjb
      rw [E4,List.getElem?_take_of_lt bM,List.getElem?_eq_getElem (by omega)] at h1
      have h2:=Option.some.inj h1
      rw [←h2]
      unfold atA
      rw [List.getElem?_eq_getElem (by omega)]
     ·obtain ⟨m,i',h1,h2⟩:=rR hpr
      subst h2
      cases e
      have:=hnd j (ids.length+m) i hj (by rw [List.getElem?_append_right (by omega)];rwa [Nat.add_sub_cancel_left])
      omega
    ·have hi:(cy (gZ C.mv d) C.nf)[j - ids.length]?=some i:=by rwa [List.getElem?_append_right (by omega)] at hj
     rcases St.AL (τ:=τ) (u:=inst z (F1 (C.o x y) (oJ ids (gZ C.mv d)) ids.length (cy (gZ C.mv d) C.nf))) (r:=.b i) with ⟨v,hv,hm⟩ |⟨_,uy⟩
     ·obtain ⟨m,i',h1,h2⟩:=rR hm
      cases h2
      have:=hnd j (ids.length+m) i hj (by rw [List.getElem?_append_right (by omega)];rwa [Nat.add_sub_cancel_left])
      rw [hv,this]
     ·exact absurd rfl (uy _ (F0 hi))
   old:=fun r hr=>St.wi fun pr hpr e=>by
    obtain ⟨m,i,h1,h2⟩:=rR hpr
    subst h2
    exact hr i (List.mem_append_right _ (List.mem_of_getElem? h1)) e.symm }
theorem RQ {T:a7} {β:Nat→Nat}:∀ {l m:List AV} {vs:List Value},rZ T β l vs→m.length=l.length→(∀(i:Nat) (x y:AV),l[i]?=some x→m[i]?=some y→∀v,x.rel T β v→y.rel T β v)→rZ T β m vs
 |[],[],[],_,_,_=>trivial
 |[],_::_,_,_,h,_=>by simp at h
 |_::_,[],_,_,h,_=>by simp at h
 |[],[],_::_,h,_,_=>h.elim
 |_::_,_::_,[],h,_,_=>h.elim
 |x::l,y::m,v::vs,h,hl,hk=>⟨hk 0 x y rfl rfl v h.1,RQ h.2 (by simpa using hl) fun i x' y' hx hy=>hk (i+1) x' y' (by simpa using hx) (by simpa using hy)⟩
theorem RP {T:a7} {β β':Nat→Nat} {g:Nat→Nat}:∀ {l:List AV} {vs:List Value},(∀i∈fV l,β' (g i)=β i)→rZ T β l vs→rZ T β' (BH g l) vs
 |[],[],_,_=>trivial
 |_::_,[],_,h=>h.elim
 |[],_::_,_,h=>h.elim
 |x::l,v::vs,hg,h=>by
  simp only [fV,List.mem_append] at hg
  exact ⟨AV.np (fun i hi=>hg i (.inl hi)) h.1,RP (fun i hi=>hg i (.inr hi)) h.2⟩
theorem RG {g:Nat→Nat}:∀ {l:List AV},(BH g l).length=l.length
 |[]=>rfl
 |x::l=>by simp [BH,RG (l:=l)]
theorem afl (mv:Bool) (d:Nat):1000≤gZ mv d∧(mv=true→1000000000≤gZ mv d):=by
 unfold gZ
 cases mv<;>simp<;>omega
def aaE (C:Con) (pt:Bool) (d:Nat) (iS:List AV):Q Rs:=
 vI (Z2 C.A iS) [] fun r0=>yZ r0 [] fun ahO=>KE ahO fun bs0=>vI (fV bs0) r0 fun r1=>yZ r1 [] fun ids=>afr pt d C iS ids
theorem NM {c:Ctx} {T:a7} {β:Nat→Nat} {a:Act} {w:World} (hh:Holds N c T β τ a w) {pt:Bool} {C:Con} {f:FuncId} (hC:xK P f C) (hd:d < N) {o:Oper} (ak9:o.dst=some d) {iS:List AV} {ys:List Value} (IZ:rZ T β iS ys)
  (hen:(execOp a.eval o).run P w= .ok (.enter f ys.toArray) w) (hp:((aaE C pt d iS).run τ).pre) {K:Act→World→Prop} {Q':Exit→Act→World→Prop}
  (hK:∀u a' w',((aaE C pt d iS).run τ).out u→Rel N c (τ.ap u) a' w'→K a' w'):o.wp P a w K Q':=by
 unfold aaE at hp hK
 simp only [CZ,MU] at hp hK
 obtain ⟨bs0,e0,_,_⟩:=DH hp
 rw [e0] at hp hK
 generalize (dd (fV bs0) (dd (Z2 C.A iS) [])).reverse++[]=ids at hp hK
 unfold afr at hp hK
 obtain ⟨bs,e2,hbl,hbs⟩:=DH hp
 rw [e2] at hp hK
 obtain ⟨ag4,akT⟩:=afl C.mv d
 have FH:H2 bs=true:=by
  cases hl:H2 bs with
  |true=>rfl
  |false=>rw [hl] at hp;exact hp.elim
 rw [FH] at hp hK
 simp only [cond_true] at hp hK
 have qd:∀(j i:Nat),ids[j]?=some i→∃av,bs[j]?=some av∧τ (.b i)=some av∧av≠.zz:=by
  intro j i hj
  have hjl:j < bs.length:=by rw [hbl];exact (List.getElem?_eq_some_iff.1 hj).1
  exact ⟨bs[j],List.getElem?_eq_getElem hjl,hbs j i _ hj (List.getElem?_eq_getElem hjl),(H0 FH _ (List.getElem_mem hjl)).1⟩
 have sx:∀i∈ids,live τ i:=fun i hi=>by
  obtain ⟨j,hj⟩:=List.getElem?_of_mem hi
  obtain ⟨av,_,h1,h2⟩:=qd j i hj
  exact ey h1 h2
 obtain ⟨p,as,e1,ajn⟩:=L5 hh sx IZ hp
 rw [e1] at hp hK
 split at hp
 ·rename_i X Y hX hY
  simp only [hX,hY] at hK
  cases qE:((fV as).all (il ids)&&(fV bs).all (il ids))&&(nodupB ids&&Nat.ble ids.length 1000) with
  |false=>rw [qE] at hp;exact hp.elim
  |true=>
   rw [qE] at hp hK
   simp only [cond_true] at hp hK
   simp only [Bool.and_eq_true] at qE
   obtain ⟨⟨hma,hmb⟩,hnd,aen⟩:=qE
   obtain ⟨e3,uA⟩:=EI hp
   rw [e3] at hp hK
   have hcp:NN C d ids bs X Y (p∧C.pre X Y):=hp
   obtain ⟨hpp,aej⟩:p∧C.pre X Y:=afq hcp
   have yQ:∀i∈fV as,i∈ids:=fun i hi=>fp.1 (List.all_eq_true.1 hma i hi)
   have ajl:∀i∈fV bs,i∈ids:=fun i hi=>fp.1 (List.all_eq_true.1 hmb i hi)
   have aji:=ajn hpp yQ
   let β2:Nat→Nat:=fun j=>match ids[j]? with
    |some i=>β i
    |none=>0
   have h2:∀(j i:Nat),ids[j]?=some i→β2 j=β i:=fun j i hj=>by simp only [β2,hj]
   obtain ⟨hlA,ajA⟩:=APs.HE hX
   obtain ⟨hlB,alc⟩:=APs.HE hY
   rw [RG] at hlB
   have MO:(APs.iS C.B Y).length=ids.length:=by rw [APs.jY,←hlB,hbl]
   have ajB:rZ (dN T β τ w ids) β2 (APs.iS C.A X) ys:=by
    have h3:rZ (dN T β τ w ids) β2 (BH (idxOf ids) as) ys:=RP (fun i hi=>h2 _ _ (su (yQ i hi)).1) aji
    refine RQ h3 (by rw [APs.jY,hlA]) fun i x y hx hy v hv=>?_
    obtain ⟨q,x',u,g1,g2,rfl⟩:=ajA i y hy
    rw [hx] at g1;cases g1
    exact (AP.eI g2).1 hv
   have ajC:∀av∈APs.iS C.A X,∀i∈av.boxes,i < (APs.iS C.B Y).length:=by
    intro av hav i hi
    obtain ⟨k,hk⟩:=List.getElem?_of_mem hav
    obtain ⟨q,x',u,g1,g2,rfl⟩:=ajA k av hk
    have CS:=(AP.eI (T:=T) (β:=β) g2).2.2 i hi
    rw [E4] at g1
    obtain ⟨x0,hx0,rfl⟩:=Option.map_eq_some_iff.1 g1
    obtain ⟨n,hn,rfl⟩:=AV.fY CS
    rw [MO]
    exact (su (yQ n (DF hx0 hn))).2
   have cg:aaJ w (dN T β τ w ids) β2 (APs.iS C.B Y):= {
    D8:=by rw [MO];exact cH aen
    at_:=fun j av hj=>by
     have hjl:j < ids.length:=by rw [←MO];exact (List.getElem?_eq_some_iff.1 hj).1
     have hji:ids[j]?=some ids[j]:=List.getElem?_eq_getElem hjl
     obtain ⟨x0,hbj,hτj,hz0⟩:=qd j _ hji
     obtain ⟨q,x',u,g1,g2,rfl⟩:=alc j av hj
     rw [E4,hbj] at g1
     simp only [Option.map_some,Option.some.injEq] at g1
     subst g1
     obtain ⟨cs,e,g3,g4⟩:=hh.boxes _ _ hτj hz0
     obtain ⟨⟨n,hn⟩,_⟩:=hh.apart _ (sx _ (List.mem_of_getElem? hji))
     have hxi:∀i∈x0.boxes,i∈ids:=fun i hi=>ajl i (DF hbj hi)
     have g5:(x0.lx (idxOf ids)).rN (dN T β τ w ids) β2 cs:=AV.FQ (fun i hi=>h2 _ _ (su (hxi i hi)).1) (aff hh sx hxi g4)
     refine ⟨fun e=>?_,⟨n,by rw [h2 j _ hji];exact TB hh (List.mem_of_getElem? hji) (sx _ (List.mem_of_getElem? hji)) hn⟩,⟨cs,e,by rw [h2 j _ hji];exact g3,(AP.eI g2).2.1 g5⟩,fun i hi=>?_⟩
     ·cases q<;>cases e
     ·have CS:=(AP.eI (T:=T) (β:=β) g2).2.2 i hi
      obtain ⟨n',hn',rfl⟩:=AV.fY CS
      rw [MO]
      exact (su (hxi n' hn')).2
    inj:=fun i j hi hj e=>by
     rw [MO] at hi hj
     have hii:ids[i]?=some ids[i]:=List.getElem?_eq_getElem hi
     have hjj:ids[j]?=some ids[j]:=List.getElem?_eq_getElem hj
     rw [h2 i _ hii,h2 j _ hjj] at e
     have:=hh.inj _ _ (sx _ (List.mem_of_getElem? hii)) (sx _ (List.mem_of_getElem? hjj)) e
     exact tu hnd i j _ hii (by rw [hjj,this]) }
   have ajw:=hC X Y aej w (dN T β τ w ids) β2 ys (zG hh.typed) (W9 hh.qF) ajB ajC cg
   unfold Oper.wp
   rw [hen,Oper.upon_enter]
   refine ajw.mono ?_
   rintro e w' ⟨v,r,os,T',β',rfl,⟨Z,hφ,rfl,rfl,hlen⟩,hrv,⟨hrb,hrf⟩,hA,hB⟩
   rw [MO] at hA hB
   have hCB:C.B.length=ids.length:=by rw [←hlB,hbl]
   rw [hCB] at hlen
   have akS:∀(i j:Nat) (x:Nat),(ids++cy (gZ C.mv d) C.nf)[i]?=some x→(ids++cy (gZ C.mv d) C.nf)[j]?=some x→i=j:=by
    have ajf:∀x,x∈ids→x∈cy (gZ C.mv d) C.nf→False:=fun x h1 h3=>by
     have h4:=fQ.1 h3
     have h5:=uA (x - gZ C.mv d) (by omega)
     rw [show gZ C.mv d+(x - gZ C.mv d)=x by omega] at h5
     exact kB (sx x h1) h5
    intro i j x hi hj
    by_cases h1:i < ids.length
    ·rw [List.getElem?_append_left h1] at hi
     by_cases h3:j < ids.length
     ·rw [List.getElem?_append_left h3] at hj
      exact tu hnd i j x hi hj
     ·rw [List.getElem?_append_right (by omega)] at hj
      exact (ajf x (List.mem_of_getElem? hi) (List.mem_of_getElem? hj)).elim
    ·rw [List.getElem?_append_right (by omega)] at hi
     by_cases h3:j < ids.length
     ·rw [List.getElem?_append_left h3] at hj
      exact (ajf x (List.mem_of_getElem? hj) (List.mem_of_getElem? hi)).elim
     ·rw [List.getElem?_append_right (by omega)] at hj
      have hi2:i - ids.length < C.nf:=by have:=(List.getElem?_eq_some_iff.1 hi).1;rwa [kH] at this
      have yR:j - ids.length < C.nf:=by have:=(List.getElem?_eq_some_iff.1 hj).1;rwa [kH] at this
      rw [jF _ _ _ hi2] at hi
      rw [jF _ _ _ yR] at hj
      cases hi
      have:=Option.some.inj hj
      omega
   obtain ⟨hh',I1,MP⟩:=hh.call (base:=gZ C.mv d) (nf:=C.nf) (os:=C.o X Y Z) ag4 akT sx h2 uA hlen hA hB (P6 (τ:=τ) (z:=Z) hcp hφ akS hlen hbl hbs)
   rw [ak9]
   refine hK _ _ _ ⟨Z,hφ,rfl⟩ ⟨AF T T' w.heap.size,backβ β β' (gZ C.mv d) C.nf ids.length,?_⟩
   exact hh'.put hd (av:=(C.r X Y Z).lx (oJ ids (gZ C.mv d))) (AV.np (fun n hn=>(MP n (hrb n hn)).1) (AV.pG I1 hrf hrv)) fun i hi=>by
    obtain ⟨n,hn,rfl⟩:=AV.fY hi
    exact (MP n (hrb n hn)).2
 ·exact hp.elim
theorem aiq {pt:Bool} {rN:FuncId→Option Con} (ahZ:∀f c,rN f=some c→xK P f c∧Enters P f) (hd:d < N) {f:FuncId} {args:Array Operand} {tys:Array TypeId}:
  fk P N ⟨some d, .call ⟨.value (.func f),args,tys⟩,ty,pos,af,g⟩ (afp rN pt d f args.toList):=by
 intro c τ a w hr hp K Q' hK
 obtain ⟨T,β,hh⟩:=hr
 unfold afp at hp hK
 cases hc:rN f with
 |none=>rw [hc] at hp;exact hp.elim
 |some C=>
  rw [hc] at hp hK
  simp only [AI] at hp hK
  obtain ⟨hC,hE⟩:=ahZ f C hc
  cases hx:evA τ args.toList with
  |none=>rw [hx] at hp;exact hp.elim
  |some iS=>
   rw [hx] at hp hK
   simp only at hp hK
   obtain ⟨IZ,hnm⟩:=FL hh hx
   have hen:=aaT (P:=P) (ty:=ty) (pos:=pos) (af:=af) (g:=g) hE (args:=args) (tys:=tys) (ρ:=a.eval) rfl (w:=w) (dst:=some d)
   have IX:(args.toList.map a.eval).toArray=args.map a.eval:=by rw [←Array.toList_map,Array.toArray_toList]
   rw [←IX] at hen
   exact NM hh hC hd rfl IZ hen hp hK
def JT:List AV→Option (List (Nat×Nat))
 |[]=>some []
 | .o (.s (.bp i o))::l=>match JT l with
  |some m=>some ((i,o)::m)
  |none=>none
 |_::_=>none
theorem JS {T:a7} {β:Nat→Nat}:∀ {vs:List AV} {l:List (Nat×Nat)} {ys:List Value},JT vs=some l→rZ T β vs ys→ys=EW β l∧∀i∈jA l,i∈fV vs
 |[],l,ys,h,hr=>by
  cases h
  cases ys with
  |nil=>exact ⟨rfl,by simp [jA]⟩
  |cons _ _=>exact hr.elim
 |x::vs,l,ys,h,hr=>by
  unfold JT at h
  split at h
  ·rename_i heq;cases heq
  ·rename_i i o vs' heq
   cases heq
   split at h
   ·rename_i m hm
    cases h
    cases ys with
    |nil=>exact hr.elim
    |cons y ys=>
     obtain ⟨g1,g2⟩:=JS hm hr.2
     have:y= .pointer (some ⟨β i,o,none⟩):=hr.1
     subst this
     refine ⟨by rw [EW,g1],fun k hk=>?_⟩
     simp only [jA,List.mem_cons] at hk
     simp only [fV,List.mem_append]
     rcases hk with rfl |hk
     ·exact .inl (by simp [AV.boxes,A0.boxes,SV.boxes])
     ·exact .inr (g2 k hk)
   ·cases h
  ·cases h
def fnR (d f:Nat) (iS:List AV):Rs:=match JT iS with
 |some l=>.go [(.s d, .fn f l)]
 |none=>.no
theorem ajX {f:Nat} {C6:Array Operand} (hd:d < N):fk P N ⟨some d, .makeFunc (.func f) #[] C6,ty,pos,af,g⟩ (YM C6.toList fun iS=>.ret (fnR d f iS)):=by
 intro c τ a w hr hp K Q' hK
 obtain ⟨T,β,hh⟩:=hr
 rw [AI] at hp hK
 cases hx:evA τ C6.toList with
 |none=>rw [hx] at hp;exact hp.elim
 |some iS=>
  rw [hx] at hp hK
  simp only [Q.run] at hp hK
  obtain ⟨IZ,hnm⟩:=FL hh hx
  unfold fnR at hp hK
  cases hc:JT iS with
  |none=>rw [hc] at hp;exact hp.elim
  |some l=>
   rw [hc] at hp hK
   obtain ⟨g1,g2⟩:=JS hc IZ
   have hex:(execOp a.eval ⟨some d, .makeFunc (.func f) #[] C6,ty,pos,af,g⟩).run P w= .ok (.value (.func (.func f) #[] (C6.map a.eval))) w:=by
    simp [execOp,Instr.makeFunc]
   exact fk.value (av:=.fn f l) hh rfl hd hex ⟨_,rfl,by rw [Array.toList_map];exact g1⟩ (fun i hi=>hnm i (g2 i hi)) (fun a' h=>hK _ _ _ rfl h)
def ah8:List (Nat×Nat)→List AV
 |[]=>[]
 |p::l=>.s (.bp p.1 p.2)::ah8 l
theorem RR {T:a7} {β:Nat→Nat}:∀ {l m:List AV} {xs ys:List Value},rZ T β l xs→rZ T β m ys→rZ T β (l++m) (xs++ys)
 |[],_,[],_,_,h=>h
 |_::_,_,[],_,h,_=>h.elim
 |[],_,_::_,_,h,_=>h.elim
 |_::_,_,_::_,_,h,h'=>⟨h.1,RR h.2 h'⟩
theorem UQ {T:a7} {β:Nat→Nat}:∀ {l:List (Nat×Nat)},rZ T β (ah8 l) (EW β l)
 |[]=>trivial
 |_::_=>⟨rfl,UQ⟩
def afn (rN:FuncId→Option Con) (pt:Bool) (d:Nat) (args:List Operand) (v:AV):Q Rs:=
 match v with
 | .fn f C6=>match rN f with
  |none=>.ret .no
  |some C=>YM args fun iS=>aaE C pt d (iS++ah8 C6)
 |_=>.ret .no
theorem VG {f:FuncId} (h:Enters P f) {args:Array Operand} {tys:Array TypeId} {ρ:Operand→Value} {k:Nat} {cs:Array Value} (hρ:ρ (.tmp k)= .func (.func f) #[] cs) {w:World} {dst:Option Nat}:
  (execOp ρ ⟨dst, .call ⟨.value (.tmp k),args,tys⟩,ty,pos,af,g⟩).run P w= .ok (.enter f (args.map ρ++cs)) w:=by
 obtain ⟨fn,h1,h2,h3⟩:=h
 obtain ⟨cd,hcd⟩:=Option.isSome_iff_exists.1 h2
 simp [execOp,resolve,hρ,Deferred.ofValue,invoke,callFunc,h1,hcd,h3]
theorem agA {pt:Bool} {rN:FuncId→Option Con} (ahZ:∀f c,rN f=some c→xK P f c∧Enters P f) (hd:d < N) {k:Nat} {args:Array Operand} {tys:Array TypeId}:
  fk P N ⟨some d, .call ⟨.value (.tmp k),args,tys⟩,ty,pos,af,g⟩ (bR (.tmp k) fun v=>afn rN pt d args.toList v):=by
 intro c τ a w hr hp K Q' hK
 obtain ⟨T,β,hh⟩:=hr
 rw [cX] at hp hK
 cases hx0:ev τ (.tmp k) with
 |none=>rw [hx0] at hp;exact hp.elim
 |some v=>
  rw [hx0] at hp hK
  have hv:=eK hh hx0
  simp only at hp hK
  unfold afn at hp hK
  split at hp
  ·rename_i f C6
   obtain ⟨cs,e1,e2⟩:=hv
   simp only at hK
   cases hc:rN f with
   |none=>rw [hc] at hp;exact hp.elim
   |some C=>
    rw [hc] at hp hK
    simp only [AI] at hp hK
    obtain ⟨hC,hE⟩:=ahZ f C hc
    cases hx:evA τ args.toList with
    |none=>rw [hx] at hp;exact hp.elim
    |some iS=>
     rw [hx] at hp hK
     simp only at hp hK
     obtain ⟨IZ,hnm⟩:=FL hh hx
     have hen:=VG (P:=P) (ty:=ty) (pos:=pos) (af:=af) (g:=g) hE (args:=args) (tys:=tys) (ρ:=a.eval) e1 (w:=w) (dst:=some d)
     have IX:(args.toList.map a.eval++EW β C6).toArray=args.map a.eval++cs:=by
      apply Array.ext'
      simp [e2]
     rw [←IX] at hen
     exact NM hh hC hd rfl (RR IZ UQ) hen hp hK
  ·exact hp.elim
end
end GL
namespace GL
section
variable {P:Program} {N:Nat} {τ:St}
variable {d:Nat} {x y z:Operand} {t u ty:TypeId} {pos:String} {af:Array Edge} {g:Option (Nat×Bool)}
def afd (sz:Nat) (x:AV) (l h m:Option Int):V1:=
 match h,m with
 |some h,some m=>match x with
  | .o (.s (.vw ek v))=>bif Nat.beq ek.length sz then .mZ (0≤l.getD 0∧l.getD 0≤h∧h≤m∧m≤v.length) (.s (.vw ek ((v.drop (l.getD 0).toNat).take (h.toNat - (l.getD 0).toNat)))) else .no
  | .o (.s (.vz ek v))=>bif Nat.beq ek.length sz then .mZ (0≤l.getD 0∧l.getD 0≤h∧h≤m∧m≤v.length) (.s (.vz ek ((v.drop (l.getD 0).toNat).take (h.toNat - (l.getD 0).toNat)))) else .no
  | .o (.s (.xs i sz' o n))=>bif Nat.beq sz' sz then .mZ (0≤l.getD 0∧l.getD 0≤h∧h≤m∧m≤n) (.s (.xs i sz' (o+(l.getD 0).toNat) (h.toNat - (l.getD 0).toNat))) else .no
  |_=>.no
 |_,_=>.no
theorem Q3 (len cap:Nat) (l:Option Int) (h m:Int) (ze:0≤l.getD 0) (hlh:l.getD 0≤h) (hhm:h≤m) (hm:m≤cap) (w:World):
  (Instr.sliceBounds true len cap (l.map (Value.int .i64)) (some (.int .i64 h)) (some (.int .i64 m))).run P w= .ok ((l.getD 0).toNat,h.toNat,m.toNat) w:=by
 have hb:∀(i:Int) (y:Nat) (code:BoundsCode),0≤i→i≤y→(Instr.sliceBound (.int .i64 i) y code).run P w= .ok i.toNat w:=fun i y code h0 h1=>run_sliceBound (P:=P) (w:=w) .i64 i y code h0 h1
 cases l with
 |none=>
  simp only [Option.getD_none] at ze hlh
  simp [Instr.sliceBounds,hb m cap .slice3Acap (by omega) hm,hb h m.toNat .slice3B (by omega) (by omega)]
 |some l=>
  simp only [Option.getD_some] at ze hlh
  simp [Instr.sliceBounds,hb m cap .slice3Acap (by omega) hm,hb h m.toNat .slice3B (by omega) (by omega),hb l h.toNat .slice3C (by omega) (by omega)]
theorem fk.alk {o:Oper} {l h m:Option Operand} {f:AV→Option Int→Option Int→Option Int→V1} (ho:o.dst=some d) (hd:d < N)
  (hs:∀c T β τ a w,Holds N c T β τ a w→∀v l' h' m',v.rel T β (a.eval x)→l.map a.eval=l'.map (Value.int .i64)→h.map a.eval=h'.map (Value.int .i64)→m.map a.eval=m'.map (Value.int .i64)→∀r,(f v l' h' m').vG r→(∀i∈r.boxes,i∈v.boxes)∧∃val,(execOp a.eval o).run P w= .ok (.value val) w∧r.rel T β val):
  fk P N o (bR x fun v=>qw l fun l'=>qw h fun h'=>qw m fun m'=>.ret ((f v l' h' m').rs d)):=by
 intro c τ a w hr hp K Q' hK
 obtain ⟨T,β,hh⟩:=hr
 rw [cX] at hp hK
 cases hx:ev τ x with
 |none=>rw [hx] at hp;exact hp.elim
 |some v=>
  rw [hx] at hp hK
  simp only [we] at hp hK
  cases hl:evI τ l with
  |none=>rw [hl] at hp;exact hp.elim
  |some l'=>
   rw [hl] at hp hK
   simp only [we] at hp hK
   cases hh':evI τ h with
   |none=>rw [hh'] at hp;exact hp.elim
   |some h'=>
    rw [hh'] at hp hK
    simp only [we] at hp hK
    cases hm:evI τ m with
    |none=>rw [hm] at hp;exact hp.elim
    |some m'=>
     rw [hm] at hp hK
     refine V1.put hh hd hp ho (fun r hr=>?_) hK
     obtain ⟨h1,h2⟩:=hs c T β τ a w hh v l' h' m' (eK hh hx) (z1 hh hl) (z1 hh hh') (z1 hh hm) r hr
     exact ⟨fun i hi=>gS hh hx i (h1 i hi),h2⟩
theorem rV {e:TypeId} {sz:Nat} (he:P.underlying t=some (.slice e)) (db:∀w,(sizeOf e).run P w= .ok sz w) {p:Option Addr} {len cap:Nat} {l:Option Int} {h m:Int} (h0:0≤l.getD 0) (h1:l.getD 0≤h) (h2:h≤m) (h3:m≤cap) (w:World):
  (Instr.slice t (.slice p len cap) (l.map (Value.int .i64)) (some (.int .i64 h)) (some (.int .i64 m))).run P w=
   .ok (.slice (if m.toNat=(l.getD 0).toNat then p else p.map (·.add ((l.getD 0).toNat * sz))) (h.toNat - (l.getD 0).toNat) (m.toNat - (l.getD 0).toNat)) w:=by
 have hbd:=Q3 (P:=P) len cap l h m h0 h1 h2 h3 w
 simp [Instr.slice,run_underlying he,hbd,db]
theorem aio {sz:Nat} {l h m:Option Operand} (ht:rH P t=some sz) (hd:d < N):fk P N ⟨some d, .slice t x l h m,ty,pos,af,g⟩ (bR x fun v=>qw l fun l'=>qw h fun h'=>qw m fun m'=>.ret ((afd sz v l' h' m').rs d)):=
 fk.alk rfl hd fun c T β τ a w hh v l' h' m' hv e2 e3 e4 r hr=>by
  obtain ⟨e,he,db⟩:=tS ht
  have fin:∀ {v1 v2:Value},a.eval x=v1→(Instr.slice t v1 (l'.map (Value.int .i64)) (h'.map (Value.int .i64)) (m'.map (Value.int .i64))).run P w= .ok v2 w→(v1 matches .slice _ _ _)=true→(execOp a.eval ⟨some d, .slice t x l h m,ty,pos,af,g⟩).run P w= .ok (.value v2) w:=by
   intro v1 v2 e1 fc hm
   cases v1<;>first |cases hm |skip
   simp [execOp,e1,e2,e3,e4,Instr.sliceAt,run_underlying he,fc]
  unfold afd at hr
  split at hr
  ·rename_i hi mi
   split at hr
   ·rename_i ek vs
    cases hb:Nat.beq ek.length sz with
    |false=>rw [hb] at hr;exact hr.elim
    |true=>
     rw [hb] at hr
     obtain ⟨⟨h0,h1,h2,h3⟩,rfl⟩:=hr
     have hs:ek.length=sz:=by simpa using hb
     refine ⟨fun k hk=>by simp [AV.boxes,A0.boxes,SV.boxes] at hk,?_⟩
     have hlen:((vs.drop (l'.getD 0).toNat).take (hi.toNat - (l'.getD 0).toNat)).length=hi.toNat - (l'.getD 0).toNat:=by
      rw [List.length_take,List.length_drop];omega
     rcases hv with ⟨hl,p,cap,e1⟩ |⟨b,o,cap,cs,te,fr,e1,hlc,hT,hw⟩
     ·subst hl
      simp only [List.length_nil] at h3
      have hz:hi=0∧mi=0∧l'.getD 0=0:=by omega
      obtain ⟨rfl,rfl,ze⟩:=hz
      exact ⟨_,fin e1 (rV he db (p:=p) (len:=0) (cap:=cap) h0 h1 h2 (by omega) w) rfl, .inl ⟨by simp,_,0,by simp [ze];rfl⟩⟩
     ·refine ⟨_,fin e1 (rV he db (len:=vs.length) (cap:=cap) h0 h1 h2 (by omega) w) rfl,?_⟩
      by_cases hc:mi.toNat=(l'.getD 0).toNat
      ·refine .inl ⟨?_,some ⟨b,o,none⟩,mi.toNat - (l'.getD 0).toNat,?_⟩
       ·rw [←List.length_eq_zero_iff,hlen];omega
       ·rw [if_pos hc];congr 1;omega
      ·refine .inr ⟨b,o+(l'.getD 0).toNat * ek.length,mi.toNat - (l'.getD 0).toNat,cs,te,fr,?_,by omega,hT,wq hw _ _⟩
       rw [if_neg hc,hlen,hs,Option.map_some,fS]
   ·rename_i ek vs
    cases hb:Nat.beq ek.length sz with
    |false=>rw [hb] at hr;exact hr.elim
    |true=>
     rw [hb] at hr
     obtain ⟨⟨h0,h1,h2,h3⟩,rfl⟩:=hr
     have hs:ek.length=sz:=by simpa using hb
     refine ⟨fun k hk=>by simp [AV.boxes,A0.boxes,SV.boxes] at hk,?_⟩
     have hlen:((vs.drop (l'.getD 0).toNat).take (hi.toNat - (l'.getD 0).toNat)).length=hi.toNat - (l'.getD 0).toNat:=by
      rw [List.length_take,List.length_drop];omega
     rcases hv with ⟨hl,p,cap,e1⟩ |⟨b,o,cap,cs,e1,hlc,hT,hw⟩
     ·subst hl
      simp only [List.length_nil] at h3
      have hz:hi=0∧mi=0∧l'.getD 0=0:=by omega
      obtain ⟨rfl,rfl,ze⟩:=hz
      exact ⟨_,fin e1 (rV he db (p:=p) (len:=0) (cap:=cap) h0 h1 h2 (by omega) w) rfl, .inl ⟨by simp,_,0,by simp [ze];rfl⟩⟩
     ·refine ⟨_,fin e1 (rV he db (len:=vs.length) (cap:=cap) h0 h1 h2 (by omega) w) rfl,?_⟩
      by_cases hc:mi.toNat=(l'.getD 0).toNat
      ·refine .inl ⟨?_,some ⟨b,o,none⟩,mi.toNat - (l'.getD 0).toNat,?_⟩
       ·rw [←List.length_eq_zero_iff,hlen];omega
       ·rw [if_pos hc];congr 1;omega
      ·refine .inr ⟨b,o+(l'.getD 0).toNat * ek.length,mi.toNat - (l'.getD 0).toNat,cs,?_,by omega,hT,wq hw _ _⟩
       rw [if_neg hc,hlen,hs,Option.map_some,fS]
   ·rename_i i sz' o n
    cases hb:Nat.beq sz' sz with
    |false=>rw [hb] at hr;exact hr.elim
    |true=>
     rw [hb] at hr
     obtain ⟨⟨h0,h1,h2,h3⟩,rfl⟩:=hr
     have hs:sz'=sz:=by simpa using hb
     refine ⟨fun k hk=>hk,?_⟩
     rcases hv with ⟨hl,p,e1⟩ |⟨cap,k,e1,hlc,hT,hle⟩
     ·subst hl
      have hz:hi=0∧mi=0∧l'.getD 0=0:=by omega
      obtain ⟨rfl,rfl,ze⟩:=hz
      exact ⟨_,fin e1 (rV he db (p:=p) (len:=0) (cap:=0) h0 h1 h2 (by omega) w) rfl, .inl ⟨by simp,_,by simp [ze];rfl⟩⟩
     ·refine ⟨_,fin e1 (rV he db (len:=n) (cap:=cap) h0 h1 h2 (by omega) w) rfl,?_⟩
      by_cases hc:mi.toNat=(l'.getD 0).toNat
      ·refine .inl ⟨by omega,some ⟨β i,o * sz',none⟩,?_⟩
       rw [if_pos hc]
       congr 1<;>omega
      ·refine .inr ⟨mi.toNat - (l'.getD 0).toNat,k,?_,by omega,hT,?_⟩
       ·rw [if_neg hc,Nat.add_mul,hs,Option.map_some,fS]
       ·exact Nat.le_trans (Nat.mul_le_mul_right _ (by omega)) hle
   ·exact hr.elim
  ·exact hr.elim
def amb (op:BinOp) (b:Bool):Option Bool:=match op with
 | .eql=>some b
 | .neq=>some (!b)
 |_=>none
def ahI:AV→Option (Bool→Prop)
 | .o (.s (.v (.slice none 0 0)))=>some fun b=>b=true
 | .o (.s (.vw _ l))=>some fun b=>b=true→l=[]
 | .o (.s (.vz _ l))=>some fun b=>b=true→l=[]
 | .o (.s (.xs _ _ _ m))=>some fun b=>b=true→m=0
 |_=>none
def ahH (op:BinOp) (d:Nat) (v:AV):Q Rs:=
 match op,ahI v with
 | .eql,some φ=>.ret (.ex (∃b,φ b) Bool φ [(.s d,fun b=>.q b)])
 | .neq,some φ=>.ret (.ex (∃b,φ b) Bool φ [(.s d,fun b=>.q (!b))])
 |_,_=>.ret .no
theorem VE {e:TypeId} (he:P.underlying t=some (.slice e)) (p:Option Addr) (n cap:Nat) (w:World) (dd:Nat):(Op.equalIn (dd+1) t (.slice p n cap) (.slice none 0 0)).run P w= .ok p.isNone w:=by
 cases p<;>simp [Op.equalIn,run_underlying he]
theorem LI {e:TypeId} (he:P.underlying t=some (.slice e)) (p:Option Addr) (n cap:Nat) (w:World):(Op.equal t (.slice p n cap) (.slice none 0 0)).run P w= .ok p.isNone w:=VE he p n cap w 9999
theorem afK {ms:Array (String×TypeId)} (ht:P.underlying t=some (.interface ms)) {y:Value} (w:World) (dd:Nat):(y= .nilIface→(Op.equalIn (dd+1) t y .nilIface).run P w= .ok true w)∧((∃a b,y= .iface a b)→(Op.equalIn (dd+1) t y .nilIface).run P w= .ok false w):=by
 refine ⟨?_,?_⟩
 ·rintro rfl;simp [Op.equalIn,run_underlying ht]
 ·rintro ⟨a,b,rfl⟩;simp [Op.equalIn,run_underlying ht]
theorem acJ {ms:Array (String×TypeId)} (ht:P.underlying t=some (.interface ms)) {y:Value} (w:World):(y= .nilIface→(Op.equal t y .nilIface).run P w= .ok true w)∧((∃a b,y= .iface a b)→(Op.equal t y .nilIface).run P w= .ok false w):=afK ht w 9999
theorem afv {e:TypeId} {op:BinOp} (he:P.underlying t=some (.slice e)) (hd:d < N):fk P N ⟨some d, .binOp op t x (.const (.slice none 0 0)) u,ty,pos,af,g⟩ (bR x fun v=>ahH op d v):=by
 intro c τ a w hr hp K Q' hK
 obtain ⟨T,β,hh⟩:=hr
 rw [cX] at hp hK
 cases hx:ev τ x with
 |none=>rw [hx] at hp;exact hp.elim
 |some v=>
  rw [hx] at hp hK
  have hv:=eK hh hx
  simp only at hp hK
  have key:∀φ,ahI v=some φ→∃p n cap,a.eval x= .slice p n cap∧φ p.isNone:=by
   intro φ hφ
   unfold ahI at hφ
   split at hφ
   ·cases hφ
    exact ⟨none,0,0,hv,rfl⟩
   ·cases hφ
    rcases hv with ⟨rfl,p,cap,e1⟩ |⟨b,o,cap,cs,te,fr,e1,_⟩
    ·exact ⟨p,0,cap,e1,fun _=>rfl⟩
    ·exact ⟨_,_,_,e1,fun h=>by cases h⟩
   ·cases hφ
    rcases hv with ⟨rfl,p,cap,e1⟩ |⟨b,o,cap,cs,e1,_⟩
    ·exact ⟨p,0,cap,e1,fun _=>rfl⟩
    ·exact ⟨_,_,_,e1,fun h=>by cases h⟩
   ·cases hφ
    rcases hv with ⟨rfl,p,e1⟩ |⟨cap,n,e1,_⟩
    ·exact ⟨p,0,0,e1,fun _=>rfl⟩
    ·exact ⟨_,_,_,e1,fun h=>by cases h⟩
   ·cases hφ
  unfold ahH at hp hK
  split at hp
  ·rename_i φ hφ
   simp only [hφ] at hK
   obtain ⟨p,n,cap,e1,h1⟩:=key φ hφ
   have hex:(execOp a.eval ⟨some d, .binOp .eql t x (.const (.slice none 0 0)) u,ty,pos,af,g⟩).run P w= .ok (.value (.bool p.isNone)) w:=by
    have h2:=LI (P:=P) he p n cap w
    simp [execOp,e1,show a.eval (.const (.slice none 0 0))= .slice none 0 0 from rfl,eqGuard,binOp,h2]
   exact fk.value (av:=.q p.isNone) hh rfl hd hex rfl (by simp [AV.boxes,A0.boxes,SV.boxes]) (fun a' h=>hK _ _ _ ⟨p.isNone,h1,rfl⟩ h)
  ·rename_i φ hφ
   simp only [hφ] at hK
   obtain ⟨p,n,cap,e1,h1⟩:=key φ hφ
   have hex:(execOp a.eval ⟨some d, .binOp .neq t x (.const (.slice none 0 0)) u,ty,pos,af,g⟩).run P w= .ok (.value (.bool (!p.isNone))) w:=by
    have h2:=LI (P:=P) he p n cap w
    simp [execOp,e1,show a.eval (.const (.slice none 0 0))= .slice none 0 0 from rfl,eqGuard,binOp,h2]
   exact fk.value (av:=.q (!p.isNone)) hh rfl hd hex rfl (by simp [AV.boxes,A0.boxes,SV.boxes]) (fun a' h=>hK _ _ _ ⟨p.isNone,h1,rfl⟩ h)
  ·exact hp.elim
def ah6 (op:BinOp) (v:AV):V1:=
 match v with
 | .o (.s (.er b))=>match op with
  | .eql=>.go (.q b)
  | .neq=>.go (.q (!b))
  |_=>.no
 |_=>.no
theorem aj0 {ms:Array (String×TypeId)} {op:BinOp} (ht:P.underlying t=some (.interface ms)) (hd:d < N):fk P N ⟨some d, .binOp op t x (.const .nilIface) u,ty,pos,af,g⟩ (bR x fun v=>.ret ((ah6 op v).rs d)):=
 fk.uu rfl hd fun c T β τ a w hh v hv r hr=>by
  unfold ah6 at hr
  split at hr
  ·rename_i b
   cases b with
   |true=>
    have e1:a.eval x= .nilIface:=hv
    have h3:=(acJ (P:=P) ht (y:=.nilIface) w).1 rfl
    split at hr
    ·cases hr
     exact ⟨adC _ _, .bool true,by simp [execOp,e1,show a.eval (.const .nilIface)= .nilIface from rfl,eqGuard,binOp,h3],rfl⟩
    ·cases hr
     exact ⟨adC _ _, .bool false,by simp [execOp,e1,show a.eval (.const .nilIface)= .nilIface from rfl,eqGuard,binOp,h3],rfl⟩
    ·exact hr.elim
   |false=>
    obtain ⟨tt,vv,e1⟩:∃t v,a.eval x= .iface t v:=hv
    have h3:=(acJ (P:=P) ht (y:=.iface tt vv) w).2 ⟨tt,vv,rfl⟩
    split at hr
    ·cases hr
     exact ⟨adC _ _, .bool false,by simp [execOp,e1,show a.eval (.const .nilIface)= .nilIface from rfl,eqGuard,binOp,h3],rfl⟩
    ·cases hr
     exact ⟨adC _ _, .bool true,by simp [execOp,e1,show a.eval (.const .nilIface)= .nilIface from rfl,eqGuard,binOp,h3],rfl⟩
    ·exact hr.elim
  ·exact hr.elim
structure Arr (P:Program) (t:TypeId) (iV:Nat):Prop where
 info:∃z,vP P t=some (1,iV,[z])
 small:iV≤1048576
theorem Arr.sh (h:Arr P t u):rH P t=some 1:=by
 obtain ⟨z,hz⟩:=h.info
 obtain ⟨e,i,z',ht,hi,_,db,_⟩:=jQ hz
 unfold rH
 rw [ht]
 simp [hi,db]
def cellsOf:Nat→List (Nat×AV)→Option (List SV)
 |_,[]=>some []
 |j,p::l=>match p.2 with
  | .o (.s x)=>bif Nat.beq p.1 j&&x.one then (match cellsOf (j+1) l with
   |some m=>some (x::m)
   |none=>none) else none
  |_=>none
theorem EE {c:Ctx} {T:a7} {β:Nat→Nat} {a:Act} {w:World} (hh:Holds N c T β τ a w):∀(parts:List (Nat×Operand)) (vs:List (Nat×AV)) (j:Nat) (l:List SV) (cs:Array Value),evL τ parts=some vs→cellsOf j vs=some l→j+parts.length≤cs.size→
  l.length=parts.length∧(∀i∈bX l,τ (.b i)≠none)∧∃mg ys,Instr.fill (fun i=>some (i * 1,1)) cs (parts.map fun p=>(p.1,a.eval p.2))=some mg∧ee T β l ys∧mg.toList=cs.toList.take j++ys++cs.toList.drop (j+parts.length)
 |[],vs,j,l,cs,h1,h2,h3=>by
  cases h1;cases h2
  exact ⟨rfl,by simp [bX],cs,[],rfl,trivial,by simp⟩
 |p::parts,vs,j,l,cs,h1,h2,h3=>by
  simp only [evL] at h1
  split at h1
  ·rename_i v hv
   split at h1
   ·rename_i vs' IX
    cases h1
    simp only [cellsOf] at h2
    split at h2
    ·rename_i x
     cases hc:Nat.beq p.1 j&&x.one with
     |false=>rw [hc] at h2;cases h2
     |true=>
      rw [hc] at h2
      simp only [cond_true] at h2
      split at h2
      ·rename_i m hm
       cases h2
       simp only [Bool.and_eq_true] at hc
       have hj:p.1=j:=by simpa using hc.1
       have hr:x.rel T β (a.eval p.2):=eK hh hv
       have D2:=z8 (SV.OV hc.2 hr)
       simp only [List.length_cons] at h3
       obtain ⟨g1,g2,mg,ys,g3,g4,g5⟩:=EE hh parts vs' (j+1) m (spl cs j [a.eval p.2]) IX hm (by rw [nE];omega)
       refine ⟨by simp [g1],fun i hi=>?_,mg,a.eval p.2::ys,?_,⟨hr,g4⟩,?_⟩
       ·simp only [bX,List.mem_append] at hi
        rcases hi with hi |hi
        ·exact gS hh hv i hi
        ·exact g2 i hi
       ·rw [List.map_cons,hj,C0 (place:=fun i=>some (i * 1,1)) (off:=j * 1) (size:=1) rfl (by rw [D2];rfl) (by omega),Nat.mul_one,D2]
        exact g3
       ·rw [g5,mC _ _ _ (by simp;omega)]
        have hl1:(cs.toList.take j++[a.eval p.2]).length=j+1:=by simp;omega
        have e1:(cs.toList.take j++[a.eval p.2]++cs.toList.drop (j+[a.eval p.2].length)).take (j+1)=cs.toList.take j++[a.eval p.2]:=by rw [←hl1];exact List.take_left' rfl
        have e2:(cs.toList.take j++[a.eval p.2]++cs.toList.drop (j+[a.eval p.2].length)).drop (j+1+parts.length)=cs.toList.drop (j+(parts.length+1)):=by
         rw [←hl1,List.drop_length_add_append,List.drop_drop]
         congr 1;show j+1+parts.length=j+(parts.length+1);omega
        rw [e1,e2]
        simp
      ·cases h2
    ·cases h2
   ·cases h1
  ·cases h1
def afu (d k:Nat) (vs:List (Nat×AV)):Q Rs:=
 match cellsOf 0 vs with
 |some l=>bif Nat.beq l.length k&&(Nat.blt 0 k&&Nat.ble k 16777216) then .ask (.b (1000+d)) fun
  |none=>.ret (.go [(.s d, .s (.xs (1000+d) 1 0 k)),(.b (1000+d), .a l)])
  |some _=>.ret .no else .ret .no
 |none=>.ret .no
theorem ais {iV k:Nat} {parts:Array (Nat×Operand)} (hf:Arr P t iV) (hd:d < N):fk P N ⟨some d, .buildSlice t k parts,ty,pos,af,g⟩ (P7 parts.toList fun vs=>afu d k vs):=by
 intro c τ a w hr hp K Q' hK
 obtain ⟨T,β,hh⟩:=hr
 rw [AG] at hp hK
 cases hx:evL τ parts.toList with
 |none=>rw [hx] at hp;exact hp.elim
 |some vs=>
  rw [hx] at hp hK
  simp only at hp hK
  unfold afu at hp hK
  split at hp
  ·rename_i l hl
   simp only [hl] at hK
   cases hc:Nat.beq l.length k&&(Nat.blt 0 k&&Nat.ble k 16777216) with
   |false=>rw [hc] at hp;exact hp.elim
   |true=>
    rw [hc] at hp hK
    simp only [cond_true,Q.run] at hp hK
    simp only [Bool.and_eq_true] at hc
    have hk:l.length=k:=by simpa using hc.1
    have hk0:0 < k:=me.1 hc.2.1
    have hle:=cH hc.2.2
    cases hn:τ (.b (1000+d)) with
    |some v=>rw [hn] at hp;exact hp.elim
    |none=>
     rw [hn] at hp hK
     obtain ⟨z0,hz0⟩:=hf.info
     obtain ⟨e,i,z,ht,hi,hz,db,hby,hzs⟩:=jQ hz0
     let cs0:Array Value:=(Array.range (k * i.size)).map (fun k=>z.cells[k % z.cells.size]!)
     have T1:cs0.size=k:=by simp [cs0,db]
     have rM:parts.toList.length=k:=by
      rw [←hk]
      have:∀(ps:List (Nat×Operand)) (vs:List (Nat×AV)) (j:Nat) (l:List SV),evL τ ps=some vs→cellsOf j vs=some l→l.length=ps.length:=by
       intro ps
       induction ps with
       |nil=>intro vs j l h h2;cases h;cases h2;rfl
       |cons p ps ih=>
        intro vs j l h h2
        simp only [evL] at h
        split at h
        ·split at h
         ·rename_i vs' h'
          cases h
          simp only [cellsOf] at h2
          split at h2
          ·rename_i x _
           cases hq:Nat.beq p.1 j&&x.one with
           |false=>rw [hq] at h2;cases h2
           |true=>
            rw [hq] at h2
            simp only [cond_true] at h2
            split at h2
            ·rename_i m hm;cases h2;simp [ih _ _ _ h' hm]
            ·cases h2
          ·cases h2
         ·cases h
        ·cases h
      exact (this _ _ _ _ hx hl).symm
     obtain ⟨_,hnm,mg,ys,aeu,cV,ahY⟩:=EE hh parts.toList vs 0 l cs0 hx hl (by omega)
     have j7:mg.toList=ys:=by
      rw [ahY,rM,Nat.zero_add,List.take_zero,List.nil_append,List.drop_of_length_le (by simp [T1]),List.append_nil]
     have alp:mg.size=k:=by rw [←Array.length_toList,j7,←kf cV,hk]
     have h24:¬(16777216 < k * i.size):=by rw [db];omega
     have tM:Instr.fill (fun x=>some (x * i.size,i.size)) cs0 (parts.toList.map fun p=>(p.1,a.eval p.2))=some mg:=by rw [db];exact aeu
     have ak2:¬k * i.size=0:=by rw [db];omega
     have hex:(execOp a.eval ⟨some d, .buildSlice t k parts,ty,pos,af,g⟩).run P w= .ok (.value (.slice (some ⟨w.heap.size,0,none⟩) k k)) { w with heap:=w.heap.push (.cells mg e (0,0)) }:=by
      simp only [cs0] at tM
      simp [execOp,Instr.buildSlice,run_underlying ht,sizeOf,typeInfo,hi,h24,ak2,newRow,zeroValue,hz]
      simp [tM]
     have hpu:oG w (.cells mg e (0,0)) { w with heap:=w.heap.push (.cells mg e (0,0)) }:=⟨rfl,rfl,rfl,rfl⟩
     have h1:=hh.tB (d:=1000+d) (by omega) hn (av:=.a l) (cs:=mg) (e:=e) hpu (show ee T β l mg.toList by rw [j7];exact cV) hnm
     unfold Oper.wp
     rw [hex]
     show K (a.put (some d) _) _
     refine hK _ _ _ rfl ⟨_,_,h1.put hd (av:=.s (.xs (1000+d) 1 0 k)) (.inr ⟨k,mg.size,?_,Nat.le_refl _,?_,by omega⟩) (by simp [AV.boxes,A0.boxes,SV.boxes,ui])⟩
     ·show _=Value.slice (some ⟨oo β (1000+d) w.heap.size (1000+d),0 * 1,none⟩) _ _
      unfold oo;rw [if_pos rfl]
     ·unfold oo xi;rw [if_pos rfl,if_pos rfl]
  ·exact hp.elim
end
end GL
end Go.Proofs.YtbfgjadbfjkcdaaGreatDoor
