/- Part 13 of the proof of FnTableAll. -/
import Derived.ArgAppend
import Derived.Test.YtndmmmcglebllaaGreatDoorRag
import Derived.Test.YtndmmmcglebllaaGreatDoorRak
import Derived.Test.YtndmmmcglebllaaGreatDoorRal
set_option maxHeartbeats 20000000
set_option maxRecDepth 100000
set_option linter.all false
namespace Go.Proofs.YtndmmmcglebllaaGreatDoor
namespace GL
open Go.RowKit
abbrev stV (S:ay):List SV:=[.vz ab S.rows,.vz ag S.refs,.vz ag S.last,.int S.cz,.vz ae S.gone,.int S.cm,.vz ae S.dead,.q S.same]
def SY {S:ay}{t:bf}(h:(dE S t).2=true) {k:Nat}(hk:k<(dE S t).1.length):FX S t k=(bB S (dE S t).1[k]).1/\decide (FX S t k=⟨#[]⟩)=au (dE S t).1[k]:=by
 have hn:nth ae (dE S t).1 k=(dE S t).1[k]:=by unfold nth;rw [ZB2 hk]
 have e:FX S t k=(bB S (dE S t).1[k]).1:=by
  unfold FX aE tu
  rw [abm h]
  unfold nth
  rw [ZG7,ZB2 hk];rfl
 refine⟨e,?_⟩
 rw [e]
 have h2:=(XQ h).2 _ (ZG4 hk)
 generalize (dE S t).1[k]=p at *
 cases hh:au p with
 |true=>rw [fw hh];exact decide_eq_true rfl
 |false=>
  cases hf:iN p (nth ab S.rows p.1.toNat) with
  |false=>rw [GR hh hf] at h2;cases h2.2
  |true=>
   rw [vD hh hf]
   have hb:=px h2.1.1
   unfold iN at hf
   simp only [ZB1,decide_eq_true_eq] at hf
   have hp:=h2.1.1
   unfold bc at hp
   rw [hh,Bool.false_or] at hp
   simp only [ZB1] at hp
   have h1:=cy.1 hp.1.1.2
   refine decide_eq_false λhe=>?_
   have he:nth ab S.rows p.1.toNat=⟨#[]⟩:=he
   rw [he] at hf
   have h3:p.2.2.1=((⟨#[]⟩:ByteArray).size:Int):=hf.2.2.1
   have h4:((⟨#[]⟩:ByteArray).size:Int)=0:=rfl
   omega
def amQ {S:ay}{t:bf}(h:ay.rd S) (k:Nat):(FX S t k).size<=1000000:=HI (nX h) k
def anr {T:a8}{β:Nat->Nat}{n:dN}{y:Value}(h:A0.rel T β (ndA n) y):y=ndV n:=by
 obtain⟨n1,n2,n3,n4,n5,n6,n7,n8,n9,cg⟩:=n
 obtain⟨⟨l⟩,rfl,g⟩:=(show A0.rel T β (.a [.int n1,.int n2,.int n3,.int n4,.int n5,.int n6,.int n7,.int n8,.int n9,.int cg]) y from h)
 have g:dY T β [.int n1,.int n2,.int n3,.int n4,.int n5,.int n6,.int n7,.int n8,.int n9,.int cg] l:=g
 obtain⟨u1,l1,rfl,e1,h1⟩:=cY g
 obtain⟨u2,l2,rfl,e2,h2⟩:=cY h1
 obtain⟨u3,l3,rfl,e3,h3⟩:=cY h2
 obtain⟨u4,l4,rfl,e4,h4⟩:=cY h3
 obtain⟨u5,l5,rfl,e5,h5⟩:=cY h4
 obtain⟨u6,l6,rfl,e6,h6⟩:=cY h5
 obtain⟨u7,l7,rfl,e7,h7⟩:=cY h6
 obtain⟨u8,l8,rfl,e8,h8⟩:=cY h7
 obtain⟨u9,l9,rfl,e9,h9⟩:=cY h8
 obtain⟨u10,l10,rfl,e10,h10⟩:=cY h9
 obtain rfl:=MI h10
 have e1:u1= .int .i64 n1:=e1
 have e2:u2= .int .i64 n2:=e2
 have e3:u3= .int .i64 n3:=e3
 have e4:u4= .int .i64 n4:=e4
 have e5:u5= .int .i64 n5:=e5
 have e6:u6= .int .i64 n6:=e6
 have e7:u7= .int .i64 n7:=e7
 have e8:u8= .int .i64 n8:=e8
 have e9:u9= .int .i64 n9:=e9
 have e10:u10= .int .i64 cg:=e10
 subst e1 e2 e3 e4 e5 e6 e7 e8 e9 e10
 rfl
section
variable {T:a8}{W:World}{β:Nat->Nat}{S:ay}{t:bf}{s0 s1 s2 s3 s4 s5 s6 s7:Value}
def XI (hT:WT T W) (hN:pY T):afg W:=by
 intro w a b c hb
 refine ((fy.1 (a,b,c) () aa).lib (β:=λi=>i) (vs:=[.int .i64 a,.int .i64 b,.int .i64 c]) rfl hT hN ⟨rfl,rfl,rfl,aa⟩ hb).mono ?_
 rintro e w' ⟨v,r,os,T',β',rfl,⟨z,_,rfl,_⟩,hv,hB,_⟩
 have hv:v= .bool (gC a b c):=hv
 subst hv
 exact⟨rfl,hB⟩
theorem NH {w1:World}{b:Nat}(hA:FL T w1 b S) (cn:iM S=true):Calls Tryz.prog 28 #[.pointer (some ⟨b,0,none⟩),trV t] w1 λe w'=>∃v,e= .returned (.tuple #[v,.bool (DG S t)])/\Below w1.heap.size w1 w'/\(DG S t=true->o7 w' v t.many.toNat (ndX S t)):=by
 have xe:wO S:=pg.1 cn
 have htl:(dE S t).2=iX S t:=by rw [oQ,cn];rfl
 have aaC:∀u:bf,pz S u:=λu=>⟨xe.rd,by have:=xe.cz;omega⟩
 have hL:iX S t=true->(dE S t).1=(bh S t).1.take t.many.toNat:=λh=>by rw [qC cn h]
 have hlen:(dE S t).1.length<=16:=by
  cases h:(dE S t).2 with
  |true=>exact afn h
  |false=>rw [oQ] at h;rw [XP h];exact ZA7 _
 have anx:∀k,k<(dE S t).1.length->(dE S t).2=true:=λk hk=>by
  cases h:(dE S t).2 with
  |true=>rfl
  |false=>rw [oQ] at h;rw [XP h] at hk;cases hk
 have key:=agm w1 (.pointer (some ⟨b,0,none⟩)) (.int .i64 t.1) (.int .i64 t.2.1) (.int .i64 t.2.2.1) (.int .i64 t.2.2.2.1) (.int .i64 t.2.2.2.2.1) (.int .i64 t.2.2.2.2.2.1) (.int .i64 t.2.2.2.2.2.2) (iX S t) (dE S t).1 (λk=>decide (FX S t k=⟨#[]⟩)) (λk=>(aG (FX S t k)).2) (λk=>iX S (cK (aG (FX S t k)).1)) (λk=>FX S t k) (λk=>(aG (FX S t k)).1) hlen ?_ ?_ ?_ ?_ ?_
 ·have htab:(bif iX S t then LQ (λk=>decide (FX S t k=⟨#[]⟩)) (λk=>(aG (FX S t k)).2) (λk=>iX S (cK (aG (FX S t k)).1)) (dE S t).1.length 0 else false)=DG S t:=by
   cases h:iX S t with
   |false=>rw [abq h];rfl
   |true=>
    have hm:=AS (htl.trans h)
    have hl:=eV (s:=S) (D0 h)
    rw [abp h,cond_true]
    exact ahu (s:=S) (X:=aE S t) (f:=(dE S t).1.length) (k:=0) (by rw [hl];omega)
  rw [htab] at key
  refine key.mono ?_
  rintro e w' ⟨v,rfl,hB,hv⟩
  refine⟨v,ζ,hB,λh=>?_⟩
  have h2:=hv h
  have hm:=AS (htl.trans (UE h))
  rw [show (dE S t).1.length=t.many.toNat by omega] at h2
  exact h2
 ·intro w2 c2
  refine (EL hA t (aaC t) (λh=>(ZW h).2) c2).mono ?_
  rintro e w' ⟨v,rfl,hB,hv⟩
  exact⟨v,rfl,hB,λh=>by rw [hL h];exact hv h⟩
 ·intro w2 k hk c2
  rw [(SY (anx k hk) hk).2]
  generalize (dE S t).1[k]=p
  obtain⟨p1,p2,p3,p4,p5⟩:=p
  refine ((eo.1 (p1,p2,p3,p4,p5) () aa).lib (β:=λi=>i) (vs:=[ptV (p1,p2,p3,p4,p5)]) rfl hA.wt hA.no ⟨⟨_,rfl,rfl,rfl,rfl,rfl,rfl,aa⟩,aa⟩ c2).mono ?_
  rintro e w' ⟨v,r,os,T',β',rfl,⟨z,_,rfl,_⟩,hv,hB,_⟩
  have hv:v= .bool (au (p1,p2,p3,p4,p5)):=hv
  subst hv
  exact⟨rfl,hB⟩
 ·intro w2 k hk c2
  have h2:=((XQ (anx k hk)).2 _ (ZG4 hk)).1.1
  refine (acX hA (dE S t).1[k] ⟨xe.rd.sz,xe.len,h2⟩ c2).mono ?_
  rintro e w' ⟨rfl,hB⟩
  refine⟨⟨(bB S (dE S t).1[k]).2,?_⟩,hB⟩
  rw [(SY (anx k hk) hk).1]
 ·intro w2 k hk c2
  refine ((acQ.1 (FX S t k) () (amQ xe.rd k)).lib (β:=λi=>i) (vs:=[.string (FX S t k)]) rfl hA.wt hA.no ⟨rfl,aa⟩ c2).mono ?_
  rintro e w' ⟨v,r,os,T',β',rfl,⟨z,_,rfl,_⟩,hv,hB,_⟩
  have hv1:AV.rel T' β' (.t [ndA (aG (FX S t k)).1,.s (.q (aG (FX S t k)).2)]) v:=hv
  obtain⟨⟨vs⟩,rfl,hv2⟩:=hv1
  match vs,(show uj T' β' [ndA (aG (FX S t k)).1,.s (.q (aG (FX S t k)).2)] vs from hv2) with
  |[y,q],⟨hy,hq,_⟩=>
   have hq:q= .bool (aG (FX S t k)).2:=hq
   have hy:=anr hy
   subst hq hy
   exact⟨rfl,hB⟩
 ·intro w2 k hk c2
  refine (EL hA (cK (aG (FX S t k)).1) (aaC _) (λh=>(ZW h).2) c2).mono ?_
  rintro e w' ⟨v,rfl,hB,_⟩
  exact⟨v,rfl,hB⟩
def LP (hT:WT T W) (hN:pY T) (hs:dY T β (stV S) [s0,s1,s2,s3,s4,s5,s6,s7]) (hg:S.gone.length<=1000000) (hd:S.dead.length<=1000000):
  K7 W s0 s1 s2 s3 s4 s5 s6 s7 (.int .i64 t.1) (.int .i64 t.2.1) (.int .i64 t.2.2.1) (.int .i64 t.2.2.2.1) (.int .i64 t.2.2.2.2.1) (.int .i64 t.2.2.2.2.2.1) (.int .i64 t.2.2.2.2.2.2) (cU S t) t.many.toNat (ndX S t):=by
 intro w hb
 refine (afp w s0 s1 s2 s3 s4 s5 s6 s7 _ _ _ _ _ _ _ (iM S) (DG S t) t.many.toNat (ndX S t) ?_ ?_)
 ·intro w1 c1
  refine ((OI.1 S () ⟨hg,hd⟩).lib (β:=β) (vs:=[.agg #[s0,s1,s2,s3,s4,s5,s6,s7]]) rfl hT hN ⟨⟨_,rfl,hs⟩,aa⟩ (hb.trans (c1.mono hb.size))).mono ?_
  rintro e w' ⟨v,r,os,T',β',rfl,⟨z,_,rfl,_⟩,hv,hB,_⟩
  have hv:v= .bool (iM S):=hv
  subst hv
  exact⟨rfl,hB⟩
 ·intro w1 b cn c1 wZ hc
  obtain⟨T1,hA⟩:=FL.boxed (S:=S) (β:=β) hT hN hs (hb.trans (c1.mono hb.size)) (ZA9 hb.size wZ) hc
  exact NH hA cn
def DH {S:ay}{t:bf}{l:List AV}{vs:List Value}(h:mW T β (.o (.a (stV S))::.o (.a [.int t.1,.int t.2.1,.int t.2.2.1,.int t.2.2.2.1,.int t.2.2.2.2.1,.int t.2.2.2.2.2.1,.int t.2.2.2.2.2.2])::l) vs):
  ∃s0 s1 s2 s3 s4 s5 s6 s7 r,vs= .agg #[s0,s1,s2,s3,s4,s5,s6,s7]::trV t::r/\dY T β (stV S) [s0,s1,s2,s3,s4,s5,s6,s7]/\mW T β l r:=by
 obtain⟨v0,r0,rfl,⟨⟨l0⟩,rfl,hs⟩,hr⟩:=GP h
 obtain⟨v1,r1,rfl,⟨⟨l1⟩,rfl,ht⟩,hr1⟩:=GP hr
 have hs0:=hs
 obtain⟨s0,m0,rfl,g0,hs1⟩:=cY hs
 obtain⟨s1,m1,rfl,g1,hs2⟩:=cY hs1
 obtain⟨s2,m2,rfl,g2,hs3⟩:=cY hs2
 obtain⟨s3,m3,rfl,g3,hs4⟩:=cY hs3
 obtain⟨s4,m4,rfl,g4,hs5⟩:=cY hs4
 obtain⟨s5,m5,rfl,g5,hs6⟩:=cY hs5
 obtain⟨s6,m6,rfl,g6,hs7⟩:=cY hs6
 obtain⟨s7,m7,rfl,g7,hs8⟩:=cY hs7
 obtain rfl:=MI hs8
 obtain⟨u1,k1,rfl,f1,ht2⟩:=cY ht
 obtain⟨u2,k2,rfl,f2,ht3⟩:=cY ht2
 obtain⟨u3,k3,rfl,f3,ht4⟩:=cY ht3
 obtain⟨u4,k4,rfl,f4,ht5⟩:=cY ht4
 obtain⟨u5,k5,rfl,f5,ht6⟩:=cY ht5
 obtain⟨u6,k6,rfl,f6,ht7⟩:=cY ht6
 obtain⟨u7,k7,rfl,f7,ht8⟩:=cY ht7
 obtain rfl:=MI ht8
 have f1:u1= .int .i64 t.1:=f1
 have f2:u2= .int .i64 t.2.1:=f2
 have f3:u3= .int .i64 t.2.2.1:=f3
 have f4:u4= .int .i64 t.2.2.2.1:=f4
 have f5:u5= .int .i64 t.2.2.2.2.1:=f5
 have f6:u6= .int .i64 t.2.2.2.2.2.1:=f6
 have f7:u7= .int .i64 t.2.2.2.2.2.2:=f7
 subst f1 f2 f3 f4 f5 f6 f7
 exact⟨s0,s1,s2,s3,s4,s5,s6,s7,r1,rfl,hs0,hr1⟩
def adQ (h:cU S t=true):t.many.toNat<=16:=by have:=(qp h).2;omega
end
abbrev trP:AP:=.a [.int,.int,.int,.int,.int,.int,.int]
noncomputable def adv:cu:=E2 [.a vj,trP] (λx=>pA x.1 x.2) λx=>.s (.q (cU x.1 x.2))
def acO:Has Tryz.prog 13 adv:=by
 refine Has.lib ⟨_,Tryz.func13,by rfl,by decide⟩ (λx=>⟨rfl,rfl⟩) λ(x:ay×bf) (hp:pA x.1 x.2) W T β vs hT hN cB=>?_
 obtain⟨s0,s1,s2,s3,s4,s5,s6,s7,r,rfl,hs,hr⟩:=DH (l:=[]) cB
 obtain rfl:=xP hr
 refine (XV W s0 s1 s2 s3 s4 s5 s6 s7 _ _ _ _ _ _ _ (cU x.1 x.2) x.2.many.toNat (ndX x.1 x.2) (LP hT hN hs hp.1 hp.2)).mono ?_
 rintro e w' ⟨rfl,hB⟩
 exact⟨_,rfl,hB,rfl⟩
def ald {T:a8}{β:Nat->Nat}(n:dN):(A0.rel T β (ndA n) (ndV n)):=by
 obtain⟨n1,n2,n3,n4,n5,n6,n7,n8,n9,cg⟩:=n
 exact⟨_,rfl,rfl,rfl,rfl,rfl,rfl,rfl,rfl,rfl,rfl,rfl,trivial⟩
noncomputable def yR:cu:=E2 [.a vj,trP,.s .int] (λx=>pA x.1 x.2.1) λx=>.t [ndA (k9 x.1 x.2.1 x.2.2).1,.s (.q (k9 x.1 x.2.1 x.2.2).2)]
def JA:Has Tryz.prog 10 yR:=by
 refine Has.lib ⟨_,Tryz.func10,by rfl,by decide⟩ (λx=>⟨rfl,rfl⟩) λ(x:ay×bf×Int) (hp:pA x.1 x.2.1) W T β vs hT hN cB=>?_
 obtain⟨s0,s1,s2,s3,s4,s5,s6,s7,r,rfl,hs,hr⟩:=DH (l:=[.o (.s (.int x.2.2))]) cB
 obtain⟨v,r1,rfl,hv,hr⟩:=GP hr
 obtain rfl:=xP hr
 have hv:v= .int .i64 x.2.2:=hv
 subst hv
 refine (UC W s0 s1 s2 s3 s4 s5 s6 s7 _ _ _ _ _ _ _ (cU x.1 x.2.1) x.2.1.many.toNat (ndX x.1 x.2.1) x.2.2 adQ (LP hT hN hs hp.1 hp.2) (XI hT hN)).mono ?_
 rintro e w' ⟨rfl,hB⟩
 refine⟨_,ζ,hB,?_⟩
 have e:(bif cU x.1 x.2.1 then atO x.2.1.many.toNat (ndX x.1 x.2.1) x.2.2 else (dq,false))=k9 x.1 x.2.1 x.2.2:=by
  cases h:cU x.1 x.2.1 with
  |false=>rw [akV h];rfl
  |true=>rw [adO h,cond_true,amK h]
 rw [e]
 exact⟨_,rfl,ald _,rfl,trivial⟩
theorem agU (l:List Int):flat ag l=l.map (Value.int .i64):=by
 induction l with
 |nil=>rfl
 |cons x l ih=>rw [im,ZF1,<-ih];rfl
noncomputable def wI:cu:=E2 [.a vj,trP] (λx=>pA x.1 x.2) λx=>.t [.s (.vw ag (eI x.1 x.2).1),.s (.q (eI x.1 x.2).2)]
def ED:Has Tryz.prog 9 wI:=by
 refine Has.lib ⟨_,Tryz.func9,by rfl,by decide⟩ (λx=>⟨rfl,rfl⟩) λ(x:ay×bf) (hp:pA x.1 x.2) W T β vs hT hN cB=>?_
 obtain⟨s0,s1,s2,s3,s4,s5,s6,s7,r,rfl,hs,hr⟩:=DH (l:=[]) cB
 obtain rfl:=xP hr
 refine (QL W s0 s1 s2 s3 s4 s5 s6 s7 _ _ _ _ _ _ _ (cU x.1 x.2) x.2.many.toNat (ndX x.1 x.2) adQ (LP hT hN hs hp.1 hp.2)).mono ?_
 rintro e w' ⟨v,rfl,hB,hv⟩
 refine⟨_,ζ,hB,?_⟩
 cases h:cU x.1 x.2 with
 |false=>
  have hv:=hv.no h
  subst hv
  rw [ahm h]
  exact⟨_,rfl,.inl ⟨rfl,none,0,rfl⟩,rfl,trivial⟩
 |true=>
  have hv:=hv.yes h
  rw [xu h]
  have hl:=qp h
  have e:=amn (S:=x.1) (t:=x.2) (f:=x.2.many.toNat) (k:=0) (by rw [hl.1];omega)
  rw [ZD8] at e
  rw [e] at hv
  refine⟨_,ζ,?_,ζ,aa⟩
  obtain⟨_,⟨rfl,h0⟩ |⟨g,cap,cur,rfl,wZ,hc,xg,_,_,ht⟩⟩:=hv
  ·exact .inl ⟨ZF2 h0,none,0,rfl⟩
  ·refine .inr ⟨g,0,cap,cur,_,_,rfl,xg,NM wZ hc,?_⟩
   rw [agU]
   refine vg ?_
   rw [ZD8,ZH3]
   rw [Nat.mul_one] at ht
   exact ht
end GL
namespace GL
open Go.RowKit
def ptL (p:Pt):List Value:=[.int .i64 p.1,.int .i64 p.2.1,.int .i64 p.2.2.1,.int .i64 p.2.2.2.1,.int .i64 p.2.2.2.2]
def jj (l:List Pt):List Value:=l.flatMap ptL
def zPt:Pt:=(0,0,0,0,0)
def ly (a b:List Pt):jj (a++b)=jj a++jj b:=ZG3 ..
theorem gG:∀l:List Pt,(jj l).length=l.length*5
 |[]=>rfl
 |p::l=>by
  show (ptL p++jj l).length=_
  rw [ZA0,gG l,ZA1]
  show 5+_=_
  omega
def MO:∀l:List Pt,∀u∈jj l,u.oneCell'=true
 |[],u,h=>by cases h
 |p::l,u,h=>by
  rcases ZB5.1 (show u∈ptL p++jj l from h) with h |h
  ·simp [ptL] at h
   rcases h with rfl |rfl |rfl |rfl |rfl<;>rfl
  ·exact MO l u h
theorem RV:∀n:Nat,jj (List.replicate n zPt)=List.replicate (n*5) (.int .i64 0)
 |0=>rfl
 |n+1=>by
  rw [List.replicate_succ,show (n+1)*5=n*5+1+1+1+1+1 by omega]
  show ptL zPt++jj (List.replicate n zPt)=_
  rw [RV n,List.replicate_succ,List.replicate_succ,List.replicate_succ,List.replicate_succ,List.replicate_succ];rfl
def XE (n:Nat):(Builtin.zeroCells (Value.agg #[.int .i64 0,.int .i64 0,.int .i64 0,.int .i64 0,.int .i64 0]).cells n).toList=jj (List.replicate n zPt):=by
 rw [RV]
 have hc:(Value.agg #[.int .i64 0,.int .i64 0,.int .i64 0,.int .i64 0,.int .i64 0]).cells= #[.int .i64 0,.int .i64 0,.int .i64 0,.int .i64 0,.int .i64 0]:=rfl
 rw [hc]
 refine List.ext_getElem ?_ λi h1 h2=>?_
 ·simp [Builtin.zeroCells]
 ·have h3:i % 5<5:=Nat.mod_lt _ (by decide)
  simp only [Builtin.zeroCells,Array.toList_map,Array.toList_range,List.getElem_map,List.getElem_range,List.getElem_replicate]
  have h4:i % 5=0\/i % 5=1\/i % 5=2\/i % 5=3\/i % 5=4:=by omega
  show ((#[Value.int .i64 0,.int .i64 0,.int .i64 0,.int .i64 0,.int .i64 0]:Array Value)[i % 5]!)=_
  rcases h4 with h |h |h |h |h<;>rw [h]<;>rfl
def OwP (base:Nat) (w:World) (v:Value) (l:List Pt):Prop:=(v= .slice none 0 0/\l=[])\/∃g cap cur z,v= .slice (some ⟨g,0,none⟩) l.length cap/\base<=g/\w.heap[g]?=some (.cells cur 31 (0,0))/\cap<=maxLen/\l.length+z.length=cap/\cur.toList=jj (l++z)/\∀x∈z,x=zPt
def OwP.nil (base:Nat) (w:World):OwP base w (.slice none 0 0) []:=.inl ⟨rfl,rfl⟩
def OwP.row {base:Nat}{w:World}{v:Value}{l:List Pt}(h:OwP base w v l):w.ownsRow base 31 5 v l.length (jj l):=by
 rcases h with ⟨rfl,rfl⟩ |⟨g,cap,cur,z,rfl,h1,h2,h3,h4,h5⟩
 ·exact World.ownsRow_nil _ _ _ _
 ·have h5:=h5.1
  refine⟨gG l,.inr ⟨g,cap,cur,ζ,h1,h2,by omega,h3,?_,?_⟩⟩
  ·rw [<-ZD6,h5,gG,ZA0,h4]
  ·rw [h5,ly,<-gG l];exact List.take_left
def OwP.low {base lo:Nat}{w:World}{v:Value}{l:List Pt}(h:OwP base w v l) (hl:lo<=base):OwP lo w v l:=by
 rcases h with h |⟨g,cap,cur,z,h0,h1,h2⟩
 ·exact .inl h
 ·exact .inr ⟨g,cap,cur,z,h0,ZA9 hl h1,h2⟩
def OwP.cm {base:Nat}{w w':World}{v:Value}{l:List Pt}(h:OwP base w v l) (hk:∀g,base<=g->g<w.heap.size->w'.heap[g]?=w.heap[g]?):OwP base w' v l:=by
 rcases h with h |⟨g,cap,cur,z,h0,h1,h2,h3⟩
 ·exact .inl h
 ·exact .inr ⟨g,cap,cur,z,h0,h1,(hk g h1 (fY h2)).trans h2,h3⟩
def OwP.grow {base:Nat}{w w':World}{v:Value}{l:List Pt}(h:OwP base w v l) (hb:Below w.heap.size w w'):OwP base w' v l:=h.cm λg _ hg=>hb.block g hg
def L6 {P:Program}(w:World) (base:Nat) (t ty:TypeId) (i:TypeInfo) (ht:P.underlying t=some (.slice 31)) (hi:P.info? 31=some i) (hz:i.zero=some (.agg #[.int .i64 0,.int .i64 0,.int .i64 0,.int .i64 0,.int .i64 0])) (OW:i.size=5) (hby:i.bytes=40)
  (v:Value) (l:List Pt) (fq:OwP base w v l) (ad:Addr) (c:Nat) (ps:List Pt) (aaF:∀j u,(jj ps)[j]?=some u->w.cell? (ad.add j)=some u) (h63:l.length+ps.length<=1000000) (O4:base<=w.heap.size):
  ∃v' w',(Builtin.append_ #[t,t] ty #[v,.slice (some ad) ps.length c]).run P w= .ok v' w'/\OwP base w' v' (l++ps)/\w.grownBy w' v.ownBlock/\∀k,v'.ownBlock=some k->v.ownBlock=some k\/w.heap.size<=k:=by
 have hl:(jj ps).length=ps.length*i.size:=by rw [OW,gG]
 rcases fq with ⟨rfl,rfl⟩ |⟨g,cap,cur,z,rfl,hbg,hg,hcm,hzl,agN,hzz⟩
 ·by_cases hp:ps=[]
  ·subst hp
   refine⟨.slice none 0 0,w,?_,OwP.nil _ _,⟨ζ,ζ,ζ,ZB0 _,λ_ _ _=>rfl⟩,λk hk=>.inl hk⟩
   simp [Builtin.append_,run_underlying ht,sizeOf,typeInfo,hi,Builtin.lenOf,Builtin.firstCells,loadCells,loadCellsFrom]
  ·have h0:0<ps.length:=ZI1.2 hp
   have hr:=run_append_nil (P:=P) w t ty 31 i _ ht hi hz ad ps.length c (jj ps) hl aaF h0 (by simp at h63;omega) (by simp at h63;rw [hby];omega)
   refine⟨_,_,hr,.inr ⟨w.heap.size,_,_,List.replicate (grownCap w ps.length 0 31-ps.length) zPt,ζ,O4,heap_alloc_new w.drew _,grownCap_le_maxLen w ps.length 0 _ (by unfold maxLen;simp at h63;omega),?_,?_,λx hx=>List.eq_of_mem_replicate hx⟩,⟨ζ,ζ,ζ,by simp,λk hk _=>heap_alloc_old w.drew _ hk⟩,λk hk=>.inr (by cases hk;exact ZB0 _)⟩
   ·have:=grownCap_ge w ps.length 0 31
    rw [ZF9,ZC9];omega
   ·rw [ZI2,XE,ZC9,ly]
 ·by_cases nu:l.length+ps.length<=cap
  ·have Q6:l.length*i.size+(jj ps).length<=cur.size:=by
    rw [<-ZD6,agN,gG,gG,ZA0,OW];omega
   have hr:=run_append_room (P:=P) w t ty 31 i ht hi g l.length cap cur hg ad ps.length c (jj ps) hl aaF (MO _) nu Q6
   refine⟨_,_,hr,.inr ⟨g,cap,_,z.drop ps.length,by rw [ZA0],hbg,setRow_heap w g cur _ _ _ hg,hcm,?_,?_,λx hx=>hzz x (ZF5 hx)⟩,⟨ζ,ζ,ζ,by simp,λk _ hk=>setRow_other w g k _ (λe=>hk (by simp [Value.ownBlock,e]))⟩,λk hk=>.inl hk⟩
   ·rw [ZA0,ZC8];omega
   ·rw [agN,OW,ly l z,ly (l++ps),ly l ps,<-gG l]
    rw [List.take_left,List.drop_append,ZB3 (by omega),ZC9,ZG8]
    congr 1
    have hd:z=z.take ps.length++z.drop ps.length:=(ZF3 _ _).symm
    have hzt:(jj (z.take ps.length)).length=(jj ps).length:=by rw [gG,gG,ZB6];congr 1;omega
    have hdr:(jj z).drop (jj ps).length=jj (z.drop ps.length):=by rw [congrArg jj hd,ly,<-hzt];exact List.drop_left
    rw [hdr]
  ·have holds:∀j u,(jj l)[j]?=some u->w.cell? ((⟨g,0,none⟩:Addr).add j)=some u:=λj u hj=>by
    have e:(⟨g,0,none⟩:Addr).add j=⟨g,j,none⟩:=by cases j<;>simp [Addr.add]
    rw [e,bO hg,<-Array.getElem?_toList,agN,ly,ZC3 (ZB9.1 hj).1];exact hj
   have hr:=run_append_grow (P:=P) w t ty 31 i _ ht hi hz ⟨g,0,none⟩ l.length cap (jj l) (by rw [OW,gG]) holds ad ps.length c (jj ps) hl aaF (by omega) (by omega) (growslice_fits (by omega) (by rw [hby];omega))
   refine⟨_,_,hr,.inr ⟨w.heap.size,_,_,List.replicate (grownCap w (l.length+ps.length) cap 31-(l.length+ps.length)) zPt,by rw [ZA0],O4,heap_alloc_new w.drew _,grownCap_le_maxLen w _ cap _ (by unfold maxLen;omega),?_,?_,λx hx=>List.eq_of_mem_replicate hx⟩,⟨ζ,ζ,ζ,by simp,λk hk _=>heap_alloc_old w.drew _ hk⟩,λk hk=>.inr (by cases hk;exact ZB0 _)⟩
   ·have:=grownCap_ge w (l.length+ps.length) cap 31
    rw [ZF9,ZA0];omega
   ·rw [ZI2,ZI2,XE,ly,ly]
def C9 {P:Program}(w:World) {ops:Array Oper}{rest:List Oper}{o:Oper}{a:Act}{Q:Exit->Act->World->Prop}(hgd:o.guard=none) (s x:Operand) (t:TypeId)
  (ho:o.op= .call { callee:=.builtin .append,args:= #[s,x],argTypes:= #[t,t] })
  (base:Nat) (i:TypeInfo) (ht:P.underlying t=some (.slice 31)) (hi:P.info? 31=some i) (hz:i.zero=some (.agg #[.int .i64 0,.int .i64 0,.int .i64 0,.int .i64 0,.int .i64 0])) (OW:i.size=5) (hby:i.bytes=40)
  (v:Value) (l:List Pt) (hs:a.eval s=v) (fq:OwP base w v l) (ad:Addr) (c m:Nat) (ps:List Pt) (hx:a.eval x= .slice (some ad) m c) (hm:m=ps.length) (aaF:∀j u,(jj ps)[j]?=some u->w.cell? (ad.add j)=some u) (h63:l.length+ps.length<=1000000) (O4:base<=w.heap.size)
  (h:∀v' w',OwP base w' v' (l++ps)->w.grownBy w' v.ownBlock->(∀k,v'.ownBlock=some k->v.ownBlock=some k\/w.heap.size<=k)->wpList P ops Q rest (a.put o.dst v') w'):wpList P ops Q (o::rest) a w:=by
 subst hm
 refine wpList_plain hgd λK hK=>?_
 obtain⟨v',w',fK,r1,r2,r3⟩:=L6 (P:=P) w base t o.type i ht hi hz OW hby v l fq ad c ps aaF h63 O4
 unfold Oper.wp
 simp [execOp,ho,resolve,invoke,builtin,hs,hx,fK,Result.andThen]
 exact hK _ _ (h v' w' r1 r2 r3)
structure Gth (B:Nat) (w:World) (out:List Pt) (v:Value):Prop where
 at_:w.heap[B]?=some (.cells #[v] 27 (0,0))
 ow:OwP (B+1) w v out
def Gth.own {B:Nat}{w:World}{out:List Pt}{v:Value}(h:Gth B w out v):w.ownsRow (B+1) 31 5 v out.length (jj out):=h.ow.row
structure Kv (B:Nat) (w:World) (v:Value) (w':World) (v':Value):Prop where
 os:w'.os=w.os
 tape:w'.tape=w.tape
 output:w'.output=w.output
 size:w.heap.size<=w'.heap.size
 block:∀k,k<w.heap.size->k≠B->v.ownBlock≠some k->w'.heap[k]?=w.heap[k]?/\v'.ownBlock≠some k
def Kv.refl (B:Nat) (w:World) (v:Value):Kv B w v w v:=⟨rfl,rfl,rfl,ZB0 _,λ_ _ _ h=>⟨rfl,h⟩⟩
def Kv.trans {B:Nat}{a b c:World}{u v x:Value}(h:Kv B a u b v) (k:Kv B b v c x):Kv B a u c x:=
 ⟨k.os.trans h.os,k.tape.trans h.tape,k.output.trans h.output,ZA9 h.size k.size,λi hi hb hv=>by
  have h1:=h.block i hi hb hv
  have h2:=k.block i (ZF8 hi h.size) hb h1.2
  exact⟨h2.1.trans h1.1,h2.2⟩⟩
def Kv.below {B:Nat}{w w':World}{v:Value}(h:Below w.heap.size w w'):Kv B w v w' v:=⟨h.os,h.tape,h.output,h.size,λk hk _ hv=>⟨h.block k hk,hv⟩⟩
def MZ {w:World}{base n size:Nat}{e:TypeId}{v:Value}{l:List Value}(h:w.ownsRow base e size v n l) {k:Nat}(hk:v.ownBlock=some k):base<=k/\k<w.heap.size:=by
 obtain⟨_,⟨rfl,_⟩ |⟨g,cap,cur,rfl,h3,h4,_⟩⟩:=h
 ·cases hk
 ·cases hk;exact⟨h3,fY h4⟩
def Gth.below {B:Nat}{w w':World}{out:List Pt}{v:Value}(h:Gth B w out v) (hb:Below w.heap.size w w'):Gth B w' out v:=⟨(hb.block B (fY h.at_)).trans h.at_,h.ow.grow hb⟩
def Gth.fresh {B:Nat}{w:World}{out:List Pt}{v:Value}(h:Gth B w out v):w.heap.size≠B/\v.ownBlock≠some w.heap.size:=
 ⟨λe=>by have:=fY h.at_;omega,λe=>by have:=(MZ h.own e).2;omega⟩
def ajE {B:Nat}{w w1:World}{o:Obj}{out:List Pt}{v v':Value}{p:Pt}(h:Gth B w out v) (fq:OwP (B+1) w1 v' (out++[p])) (hg:(w.alloc o).grownBy w1 v.ownBlock) (hn:∀k,v'.ownBlock=some k->v.ownBlock=some k\/(w.alloc o).heap.size<=k):
  Gth B (w1.setCell ⟨B,0,none⟩ v') (out++[p]) v'/\Kv B w v (w1.setCell ⟨B,0,none⟩ v') v':=by
 have hB:=fY h.at_
 have hBk:w1.heap[B]?=some (.cells #[v] 27 (0,0)):=by
  refine ((hg.block B (by rw [cS];omega) (λe=>?_)).trans (heap_alloc_old w o hB)).trans h.at_
  have:=(MZ h.own e.symm).1;omega
 have db:(w1.setCell ⟨B,0,none⟩ v').heap.size=w1.heap.size:=by simp [World.setCell]
 have WH:(w1.setCell ⟨B,0,none⟩ v').heap[B]?=some (.cells #[v'] 27 (0,0)):=one_setCell hBk
 have ao4:∀k,k≠B->(w1.setCell ⟨B,0,none⟩ v').heap[k]?=w1.heap[k]?:=λk hk=>Go.Deep.blk_setCell_other _ _ _ _ hk
 refine⟨⟨WH,?_⟩,?_⟩
 ·exact fq.cm λg h1 _=>ao4 g (by omega)
 ·refine⟨hg.os,hg.tape,hg.output,?_,λk hk hkB hkv=>⟨?_,?_⟩⟩
  ·rw [db];have:=hg.size;rw [cS] at this;omega
  ·rw [ao4 k hkB,hg.block k (by rw [cS];omega) (λe=>hkv e.symm)]
   exact heap_alloc_old w o hk
  ·intro e
   rcases hn k e with h1 |h1
   ·exact hkv h1
   ·rw [cS] at h1;omega
def JW (p:Pt):List Pt:=[p]
def adJ (w:World) (B:Nat) (out:List Pt) (v:Value) (p:Pt) (hG:Gth B w out v) (hlen:out.length<=1000):
   Calls Tryz.prog 37 #[ptV p,.pointer (some ⟨B,0,none⟩)] w λe w'=>e= .returned (.tuple #[])/\∃v',Gth B w' (out++JW p) v'/\Kv B w v w' v':=by
 have JF:(Tryz.prog.info? 31).map (λi=>(i.zero,i.size,i.bytes))=some (some (.agg #[.int .i64 0,.int .i64 0,.int .i64 0,.int .i64 0,.int .i64 0]),5,40):=by kernel_rfl
 obtain⟨i0,hi,HY,hz1,hz2⟩:=info_parts JF
 have aje:Tryz.prog.underlying 27=some (.slice 31):=by kernel_rfl
 clear JF
 obtain⟨p1,p2,p3,p4,p5⟩:=p
 go_enter Tryz.func37,Tryz.ntmps37
 have hB:=fY hG.at_
 have b0:Below w.heap.size w (w.alloc (.cells #[.int .i64 p1,.int .i64 p2,.int .i64 p3,.int .i64 p4,.int .i64 p5] 31)):=(Below.refl _ w).alloc (ZB0 _) _
 have hG0:=hG.below b0
 have hc:(w.alloc (.cells #[.int .i64 p1,.int .i64 p2,.int .i64 p3,.int .i64 p4,.int .i64 p5] 31)).cell? ⟨B,0,none⟩=some v:=by rw [bO hG0.at_];rfl
 go_wp2_with (at_builtin;refine C9 _ rfl _ _ 27 rfl (B+1) i0 aje hi HY hz1 hz2 _ out rfl (hG0.ow.grow ((Below.refl _ _).alloc (ZB0 _) _)) ⟨w.heap.size+1,0,none⟩ 1 1 [(p1,p2,p3,p4,p5)] rfl rfl ?c1 ?c3 ?c5 ?_)
 case c1=>
  intro j u hj
  have hn:=heap_alloc_new (w.alloc (.cells #[.int .i64 p1,.int .i64 p2,.int .i64 p3,.int .i64 p4,.int .i64 p5] 31)) (.cells #[.int .i64 p1,.int .i64 p2,.int .i64 p3,.int .i64 p4,.int .i64 p5] 31)
  rw [cS] at hn
  have e:(⟨w.heap.size+1,0,none⟩:Addr).add j=⟨w.heap.size+1,j,none⟩:=by cases j<;>simp [Addr.add]
  rw [e,bO hn]
  simpa [jj,ptL] using hj
 case c3=>show out.length+1<=_;omega
 case c5=>rw [cS,cS];omega
 ·intro v' w1 fq wY hnw
  have cP:=ajE (p:=(p1,p2,p3,p4,p5)) hG0 fq wY (λk hk=>by rw [cS,cS];exact hnw k hk)
  have hBk:w1.heap[B]?=some (.cells #[v] 27 (0,0)):=by
   refine ((wY.block B (by rw [cS,cS];omega) (λe=>?_)).trans (heap_alloc_old _ _ (by rw [cS];omega))).trans hG0.at_
   have:=(MZ hG.own e.symm).1;omega
  have hcB:=cell_of_one hBk
  have hfB:=free_of_one hBk
  obtain⟨g,n,cap,rfl⟩:∃g n cap,v'= .slice (some ⟨g,0,none⟩) n cap:=by
   rcases fq with ⟨_,h0⟩ |⟨g,cap,cur,z,h2,_⟩
   ·exact absurd h0 (by simp)
   ·exact⟨g,_,cap,h2⟩
  clear fq wY hnw
  go_wp2
  go_end0
  refine⟨ζ,_,?_,(Kv.below b0).trans cP.2⟩
  exact cP.1
def ml (F:Nat->Pt->List Pt):Nat->Pt->List Pt
 |0,p=>bif au p then [] else [p]
 |l+1,p=>bif au p then [] else p::(F (l+1) p).flatMap (ml F l)
def qT {F:Nat->Pt->List Pt}{p:Pt}(h:au p=true):∀l,ml F l p=[]
 |0=>by unfold ml;rw [h];rfl
 |l+1=>by unfold ml;rw [h];rfl
def T6 {F:Nat->Pt->List Pt}{p:Pt}(h:au p=false):ml F 0 p=[p]:=by unfold ml;rw [h];rfl
def T5 {F:Nat->Pt->List Pt}{l:Nat}{p:Pt}(h:au p=false):ml F (l+1) p=p::(F (l+1) p).flatMap (ml F l):=by rw [ml,h];rfl
def akP (lo:Nat) (w:World) (v:Value) (L:List Pt):Prop:=(L=[]/\∃p cap,v= .slice p 0 cap)\/∃b o cap,v= .slice (some ⟨b,o,none⟩) L.length cap/\lo<=b/\b<w.heap.size/\∀k (h:k<L.length),w.cell? ⟨b,o+k*5,none⟩=some (.int .i64 L[k].1)/\w.cell? ⟨b,o+k*5+1,none⟩=some (.int .i64 L[k].2.1)
         /\w.cell? ⟨b,o+k*5+2,none⟩=some (.int .i64 L[k].2.2.1)/\w.cell? ⟨b,o+k*5+3,none⟩=some (.int .i64 L[k].2.2.2.1)/\w.cell? ⟨b,o+k*5+4,none⟩=some (.int .i64 L[k].2.2.2.2)
abbrev fnV (B:Nat):Value:=.func (.func 37) #[] #[.pointer (some ⟨B,0,none⟩)]
section
variable (B:Nat) (W0:World) (v0 rcv:Value) (F:Nat->Pt->List Pt) (R:Nat->Pt->Prop)
def akR:Prop:=∀w v p,Kv B W0 v0 w v->Calls Tryz.prog 56 #[ptV p] w λe w'=>e= .returned (.bool (au p))/\Below w.heap.size w w'
def ama:Prop:=∀w v (l:Nat) p,Kv B W0 v0 w v->R (l+1) p->au p=false->Calls Tryz.prog 70 #[rcv,ptV p,.int .i64 ((l+1:Nat):Int)] w λe w'=>∃y q,e= .returned (.tuple #[y,.bool q])/\Below w.heap.size w w'/\akP w.heap.size w' y (F (l+1) p)
def adK:∀l:List Pt,(l.flatMap JW).length<=l.length
 |[]=>ZB0 _
 |p::l=>by
  rw [ZD1,ZA0,ZA1]
  have:=adK l
  have:(JW p).length<=1:=by unfold JW;simp
  omega
def ahq {l:List Pt}{k:Nat}(h:k<l.length):l.take (k+1)=l.take k++[l[k]]:=by
 rw [List.take_add_one,ZB2 h];rfl
def ahg {g:Pt->List Pt}{fl o:List Pt}{p:Pt}{k n:Nat}(h:k<fl.length) (hl:o.length+(p::fl.flatMap g).length<=n):((o++JW p)++((fl.take k).flatMap g).flatMap JW).length+(g fl[k]).length<=n:=by
 have h1:fl.flatMap g=(fl.take k).flatMap g++(g fl[k]++(fl.drop (k+1)).flatMap g):=by
  rw [<-ZD1,<-ZG3,<-ZH1 h,ZF3]
 rw [h1] at hl
 have h2:=adK ((fl.take k).flatMap g)
 have h3:(JW p).length<=1:=by unfold JW;simp
 simp only [ZA0,ZA1] at hl ⊢
 omega
def ahf (hPH:akR B W0 v0) (hFN:ama B W0 v0 rcv F R) (hR:∀l p,R (l+1) p->au p=false->(F (l+1) p).length<=1000/\∀q∈F (l+1) p,R l q):
   ∀(L:Nat) (w:World) (v:Value) (out:List Pt) (p:Pt),L<=100->Kv B W0 v0 w v->Gth B w out v->R L p->out.length+(ml F L p).length<=1000->
   Calls Tryz.prog 36 #[rcv,ptV p,.int .i64 (L:Int),fnV B] w λe w'=>e= .returned (.tuple #[])/\∃v',Gth B w' (out++(ml F L p).flatMap JW) v'/\Kv B w v w' v'/\(au p=true->v'=v/\w'.heap[w.heap.size]?=some (.cells (ptL p).toArray 31 (0,0))):=by
 intro L
 induction L with
 |zero=>
  intro w v out p hL hK hG hp hlen
  obtain⟨p1,p2,p3,p4,p5⟩:=p
  go_enter Tryz.func36,Tryz.ntmps36
  have b0:Below w.heap.size w (w.alloc (.cells #[.int .i64 p1,.int .i64 p2,.int .i64 p3,.int .i64 p4,.int .i64 p5] 31)):=(Below.refl _ w).alloc (ZB0 _) _
  have jV:=hG.fresh
  go_wp2_with (go_at_call 56;refine (hPH _ v (p1,p2,p3,p4,p5) (hK.trans (Kv.below b0))).mono ?_)
  rintro e w1 ⟨rfl,c1⟩
  have b1:Below w.heap.size w w1:=b0.trans (c1.mono b0.size)
  have wo:w1.heap[w.heap.size]?=some (Obj.cells #[.int .i64 p1,.int .i64 p2,.int .i64 p3,.int .i64 p4,.int .i64 p5] 31 (0,0)):=(c1.block _ (by rw [cS];omega)).trans (heap_alloc_new w _)
  cases hh:au (p1,p2,p3,p4,p5) with
  |true=>
   go_wp2
   refine bodyPost_ret (results_none rfl _ _ _) rfl ?_
   rw [qT hh,ZH5,ZD4]
   exact⟨rfl,v,hG.below b1,Kv.below b1,λ_=>⟨rfl,wo⟩⟩
  |false=>
   have f0:w1.cell? ⟨w.heap.size,0,none⟩=some (.int .i64 p1):=bO wo 0
   have f1:w1.cell? ⟨w.heap.size,1,none⟩=some (.int .i64 p2):=bO wo 1
   have f2:w1.cell? ⟨w.heap.size,2,none⟩=some (.int .i64 p3):=bO wo 2
   have f3:w1.cell? ⟨w.heap.size,3,none⟩=some (.int .i64 p4):=bO wo 3
   have f4:w1.cell? ⟨w.heap.size,4,none⟩=some (.int .i64 p5):=bO wo 4
   go_wp2_with (go_at_call 37;refine (adJ w1 B out v (p1,p2,p3,p4,p5) (hG.below b1) (by omega)).mono ?_)
   rintro e w2 ⟨rfl,v2,hG2,hK2⟩
   go_wp2
   go_end0
   rw [T6 hh]
   refine⟨ζ,v2,?_,(Kv.below b1).trans hK2,λh=>by rw [hh] at h;cases h⟩
   simpa using hG2
 |succ L ih=>
  intro w v out p hL hK hG hp hlen
  obtain⟨p1,p2,p3,p4,p5⟩:=p
  go_enter Tryz.func36,Tryz.ntmps36
  have b0:Below w.heap.size w (w.alloc (.cells #[.int .i64 p1,.int .i64 p2,.int .i64 p3,.int .i64 p4,.int .i64 p5] 31)):=(Below.refl _ w).alloc (ZB0 _) _
  have jV:=hG.fresh
  go_wp2_with (go_at_call 56;refine (hPH _ v (p1,p2,p3,p4,p5) (hK.trans (Kv.below b0))).mono ?_)
  rintro e w1 ⟨rfl,c1⟩
  have b1:Below w.heap.size w w1:=b0.trans (c1.mono b0.size)
  have wo:w1.heap[w.heap.size]?=some (Obj.cells #[.int .i64 p1,.int .i64 p2,.int .i64 p3,.int .i64 p4,.int .i64 p5] 31 (0,0)):=(c1.block _ (by rw [cS];omega)).trans (heap_alloc_new w _)
  have aq3:w.heap.size<w1.heap.size:=fY wo
  cases hh:au (p1,p2,p3,p4,p5) with
  |true=>
   go_wp2
   refine bodyPost_ret (results_none rfl _ _ _) rfl ?_
   rw [qT hh,ZH5,ZD4]
   exact⟨rfl,v,hG.below b1,Kv.below b1,λ_=>⟨rfl,wo⟩⟩
  |false=>
   have hwl:=T5 (F:=F) (l:=L) hh
   rw [hwl] at hlen
   obtain⟨hFl,hFR⟩:=hR L _ hp hh
   have f0:w1.cell? ⟨w.heap.size,0,none⟩=some (.int .i64 p1):=bO wo 0
   have f1:w1.cell? ⟨w.heap.size,1,none⟩=some (.int .i64 p2):=bO wo 1
   have f2:w1.cell? ⟨w.heap.size,2,none⟩=some (.int .i64 p3):=bO wo 2
   have f3:w1.cell? ⟨w.heap.size,3,none⟩=some (.int .i64 p4):=bO wo 3
   have f4:w1.cell? ⟨w.heap.size,4,none⟩=some (.int .i64 p5):=bO wo 4
   go_wp2_with (go_at_call 37;refine (adJ w1 B out v (p1,p2,p3,p4,p5) (hG.below b1) (by omega)).mono ?_)
   rintro e w2 ⟨rfl,v2,hG2,hK2⟩
   have WI:w2.heap[w.heap.size]?=some (Obj.cells #[.int .i64 p1,.int .i64 p2,.int .i64 p3,.int .i64 p4,.int .i64 p5] 31 (0,0)):=((hK2.block _ aq3 jV.1 jV.2).1).trans wo
   clear f0 f1 f2 f3 f4
   have f0:w2.cell? ⟨w.heap.size,0,none⟩=some (.int .i64 p1):=bO WI 0
   have f1:w2.cell? ⟨w.heap.size,1,none⟩=some (.int .i64 p2):=bO WI 1
   have f2:w2.cell? ⟨w.heap.size,2,none⟩=some (.int .i64 p3):=bO WI 2
   have f3:w2.cell? ⟨w.heap.size,3,none⟩=some (.int .i64 p4):=bO WI 3
   have f4:w2.cell? ⟨w.heap.size,4,none⟩=some (.int .i64 p5):=bO WI 4
   have aps:Kv B w v w2 v2:=(Kv.below b1).trans hK2
   have aph:=hFN w2 v2 L (p1,p2,p3,p4,p5) (hK.trans aps) hp hh
   go_wp2_with (go_at_call 70;refine aph.mono ?_)
   rintro e w3 ⟨y,q,rfl,c3,aqQ⟩
   have anN:Kv B w v w3 v2:=aps.trans (Kv.below c3)
   have hG3:=hG2.below c3
   clear aph f0 f1 f2 f3 f4 wo WI
   generalize F (L+1) (p1,p2,p3,p4,p5)=fl at *
   rcases aqQ with ⟨agK,yp,cap,rfl⟩ |⟨yb,yo,cap,rfl,aqE,aqD,iz⟩
   ·subst agK
    go_wp2
    refine wp_loop_rounds 1 ?_
    rw [rounds_succ]
    go_wp2
    go_end0
    rw [hwl]
    refine⟨ζ,v2,?_,anN,λh=>by rw [hh] at h;cases h⟩
    simpa using hG3
   ·have hyb:yb≠B/\v2.ownBlock≠some yb:=⟨λe=>by have:=fY hG2.at_;omega,λe=>by have:=(MZ hG2.own e).2;omega⟩
    clear aqE
    go_wp2
    go_loopw [28] (λi wr=>∃(k:Nat) (vk:Value),k<=fl.length/\i= .int .i64 k/\Gth B wr ((out++JW (p1,p2,p3,p4,p5))++((fl.take k).flatMap (ml F L)).flatMap JW) vk/\Kv B w3 v2 wr vk) (λi _=>fl.length-(intOf i).toNat)
    case atStart=>exact⟨0,v2,ZA7 _,rfl,by simpa using hG3,Kv.refl _ _ _⟩
    case round=>
     obtain⟨k,vk,hk,rfl,hGk,hKk⟩:=hrel
     by_cases bR:k<fl.length
     ·obtain⟨d0,d1,d2,d3,d4⟩:=iz k bR
      have hbk:=hKk.block yb aqD hyb.1 hyb.2
      have e0:=(World.cell?_of_block (a:=⟨yb,yo+k*5,none⟩) hbk.1).trans d0
      have e1:=(World.cell?_of_block (a:=⟨yb,yo+k*5+1,none⟩) hbk.1).trans d1
      have e2:=(World.cell?_of_block (a:=⟨yb,yo+k*5+2,none⟩) hbk.1).trans d2
      have e3:=(World.cell?_of_block (a:=⟨yb,yo+k*5+3,none⟩) hbk.1).trans d3
      have e4:=(World.cell?_of_block (a:=⟨yb,yo+k*5+4,none⟩) hbk.1).trans d4
      clear d0 d1 d2 d3 d4 iz
      have bA:Below wr.heap.size wr (wr.alloc (.cells #[.int .i64 fl[k].1,.int .i64 fl[k].2.1,.int .i64 fl[k].2.2.1,.int .i64 fl[k].2.2.2.1,.int .i64 fl[k].2.2.2.2] 31)):=(Below.refl _ _).alloc (ZB0 _) _
      have ajm:=ahg (g:=ml F L) (o:=out) (p:=(p1,p2,p3,p4,p5)) bR hlen
      have hih:=ih _ vk _ fl[k] (by omega) (hK.trans (anN.trans (hKk.trans (Kv.below bA)))) (hGk.below bA) (hFR _ (ZG4 bR)) ajm
      go_wp2_with (go_at_call 36;refine hih.mono ?_)
      rintro e w4 ⟨rfl,v4,hG4,hK4,_⟩
      clear hih e0 e1 e2 e3 e4
      go_wp2
      refine⟨⟨k+1,v4,bR,ζ,?_,hKk.trans ((Kv.below bA).trans hK4)⟩,?_⟩
      ·rw [ahq bR,ZG3,ZG3,<-ZC5]
       simpa using hG4
      ·show fl.length-((k:Int)+1).toNat<fl.length-((k:Int)).toNat
       omega
     ·have hkk:k=fl.length:=by omega
      subst hkk
      go_wp2
      go_end0
      rw [hwl]
      refine⟨ζ,vk,?_,anN.trans hKk,λh=>by rw [hh] at h;cases h⟩
      rw [List.take_length] at hGk
      rw [ZD1,<-ZC5]
      exact hGk
end
end GL
namespace GL
open Go.RowKit
theorem adL:∀l:List Pt,l.flatMap JW=l
 |[]=>rfl
 |p::l=>by rw [ZD1,adL l];rfl
def Kv.low {B:Nat}{w w':World}{v v':Value}(h:Kv B w v w' v') {lo:Nat}(hlo:lo<=w.heap.size) (hB:lo<=B) (hv:∀k,v.ownBlock=some k->lo<=k):Below lo w w':=
 ⟨h.os,h.tape,h.output,h.size,λk hk=>(h.block k (ZF8 hk hlo) (by omega) (λe=>by have:=hv k e;omega)).1⟩
def ak1 {w:World}{B C size n:Nat}{e:TypeId}{v:Value}{l:List Value}(h:w.ownsRow B e size v n l) (hc:C<=B):w.ownsRow C e size v n l:=by
 obtain⟨q1,q2 |⟨g,cap,cur,q2,q3,q4⟩⟩:=h
 ·exact⟨q1,.inl q2⟩
 ·exact⟨q1,.inr ⟨g,cap,cur,q2,ZA9 hc q3,q4⟩⟩
def FO (lo:Nat) (w:World) (v:Value) (L:List Pt):Prop:=∃g cur z,lo<=g/\w.heap[g]?=some (.cells cur 31 (0,0))/\cur.toList=jj (L++z)/\(∀x∈z,x=zPt)/\((L=[]/\v= .slice none 0 0)\/v= .slice (some ⟨g,0,none⟩) L.length (L.length+z.length)/\L.length+z.length<=maxLen)
def FO.owp {lo:Nat}{w:World}{v:Value}{L:List Pt}(h:FO lo w v L):OwP lo w v L:=by
 obtain⟨g,cur,z,h1,h2,h3,hz,⟨h4,h5⟩ |⟨h4,h5⟩⟩:=h
 ·exact .inl ⟨h5,h4⟩
 ·exact .inr ⟨g,_,cur,z,h4,h1,h2,h5,rfl,h3,hz⟩
def OwP.box {lo:Nat}{w:World}{v:Value}{L:List Pt}(h:OwP lo w v L) (hL:L≠[]):FO lo w v L:=by
 rcases h with ⟨_,h0⟩ |⟨g,cap,cur,z,h0,h1,h2,h3,h4,h5,hz⟩
 ·exact absurd h0 hL
 ·subst h4;exact⟨g,cur,z,h1,h2,h5,hz,.inr ⟨h0,h3⟩⟩
def FO.low {lo lo':Nat}{w:World}{v:Value}{L:List Pt}(h:FO lo w v L) (hl:lo'<=lo):FO lo' w v L:=by
 obtain⟨g,cur,z,h1,h2⟩:=h
 exact⟨g,cur,z,ZA9 hl h1,h2⟩
def ahh {F:Nat->Pt->List Pt}{p:Pt}(h:au p=false):∀l,ml F l p≠[]
 |0=>by rw [T6 h];simp
 |l+1=>by rw [T5 h];simp
abbrev alA (W:World) (p1 p2 p3 p4 p5:Int) (d:Nat) (many:Int):World:=W.alloc (.cells #[.int .i64 p1,.int .i64 p2,.int .i64 p3,.int .i64 p4,.int .i64 p5,.int .i64 (d:Int),.int .i64 many] 33)
abbrev alW (W:World) (p1 p2 p3 p4 p5:Int) (d:Nat) (many:Int):World:=(alA W p1 p2 p3 p4 p5 d many).alloc (.cells #[.slice none 0 0] 27)
def al3 (W:World) (rcv:Value) (F:Nat->Pt->List Pt) (R:Nat->Pt->Prop) (root:Pt) (d:Nat) (many:Int)
   (hPH:∀w p,Below W.heap.size W w->Calls Tryz.prog 56 #[ptV p] w λe w'=>e= .returned (.bool (au p))/\Below w.heap.size w w')
   (hFN:∀w (l:Nat) p,Below W.heap.size W w->R (l+1) p->au p=false->Calls Tryz.prog 70 #[rcv,ptV p,.int .i64 ((l+1:Nat):Int)] w λe w'=>∃y q,e= .returned (.tuple #[y,.bool q])/\Below w.heap.size w w'/\akP w.heap.size w' y (F (l+1) p))
   (hR:∀l p,R (l+1) p->au p=false->(F (l+1) p).length<=1000/\∀q∈F (l+1) p,R l q) (hd:d<=100) (hp:R d root) (hlen:(ml F d root).length<=1000):
   Calls Tryz.prog 18 #[rcv,.agg #[.int .i64 root.1,.int .i64 root.2.1,.int .i64 root.2.2.1,.int .i64 root.2.2.2.1,.int .i64 root.2.2.2.2,.int .i64 (d:Int),.int .i64 many]] W λe w'=>∃v,e= .returned v/\Below W.heap.size W w'/\FO W.heap.size w' v (ml F d root):=by
 obtain⟨p1,p2,p3,p4,p5⟩:=root
 have bA:Below W.heap.size W (alA W p1 p2 p3 p4 p5 d many):=(Below.refl _ W).alloc (ZB0 _) _
 have b1:Below W.heap.size W (alW W p1 p2 p3 p4 p5 d many):=bA.alloc bA.size _
 have db:(alW W p1 p2 p3 p4 p5 d many).heap.size=W.heap.size+2:=by rw [cS,cS]
 have hG0:Gth (W.heap.size+1) (alW W p1 p2 p3 p4 p5 d many) [] (.slice none 0 0):=by
  refine⟨?_,OwP.nil _ _⟩
  have h:=heap_alloc_new (alA W p1 p2 p3 p4 p5 d many) (.cells #[.slice none 0 0] 27)
  rw [cS] at h
  exact h
 have key:Calls Tryz.prog 36 #[rcv,ptV (p1,p2,p3,p4,p5),.int .i64 (d:Int),fnV (W.heap.size+1)] (alW W p1 p2 p3 p4 p5 d many) λe w'=>e= .returned (.tuple #[])/\∃v',Gth (W.heap.size+1) w' (ml F d (p1,p2,p3,p4,p5)) v'/\Below W.heap.size W w'/\FO W.heap.size w' v' (ml F d (p1,p2,p3,p4,p5)):=by
  have ajl:∀w v,Kv (W.heap.size+1) (alW W p1 p2 p3 p4 p5 d many) (.slice none 0 0) w v->Below W.heap.size W w:=λw v hK=>b1.trans (hK.low (by omega) (by omega) (λk hk=>by cases hk))
  have h:=ahf (W.heap.size+1) (alW W p1 p2 p3 p4 p5 d many) (.slice none 0 0) rcv F R (λw v p hK=>hPH w p (ajl w v hK)) (λw v l p hK=>hFN w l p (ajl w v hK)) hR d _ (.slice none 0 0) [] (p1,p2,p3,p4,p5) hd (Kv.refl _ _ _) hG0 hp (by simpa using hlen)
  refine h.mono ?_
  rintro e w2 ⟨rfl,v',hG,hK,hH⟩
  rw [ZC9,adL] at hG
  refine⟨ζ,v',hG,ajl _ _ hK,?_⟩
  cases hh:au (p1,p2,p3,p4,p5) with
  |false=>exact (hG.ow.low (by omega)).box (ahh hh d)
  |true=>
   obtain⟨rfl,hb⟩:=hH hh
   rw [qT hh]
   exact⟨_,_,[(p1,p2,p3,p4,p5)],by omega,hb,by simp [jj],λx hx=>by rw [ZD0.1 hx];simp [au] at hh;obtain⟨rfl,rfl,rfl,rfl,rfl⟩:=hh;rfl,.inl ⟨rfl,rfl⟩⟩
 clear hG0 hFN hPH hR hp hlen bA b1 db
 go_enter Tryz.func18,Tryz.ntmps18
 go_wp2_with (go_at_call 36;refine key.mono ?_)
 rintro e w2 ⟨rfl,v',hG,hB,hX⟩
 have hc:w2.cell? ⟨W.heap.size+1,0,none⟩=some v':=by rw [bO hG.at_];rfl
 clear key
 go_wp2
 go_ret
 exact⟨_,rfl,hB,hX⟩
def sx (lo:Nat) (w:World) (v:Value) (L:List Pt):Prop:=(L=[]/\v= .slice none 0 0)\/∃g cap cur,v= .slice (some ⟨g,0,none⟩) L.length cap/\lo<=g/\w.heap[g]?=some (.cells cur 31 (0,0))/\L.length<=cap/\cur.toList.take (L.length*5)=jj L
def sx.of {lo:Nat}{w:World}{v:Value}{L:List Pt}(h:w.ownsRow lo 31 5 v L.length (jj L)):sx lo w v L:=by
 obtain⟨_,⟨rfl,h0⟩ |⟨g,cap,cur,rfl,h3,h4,h5,h6,h7,h8⟩⟩:=h
 ·exact .inl ⟨ZF2 h0,rfl⟩
 ·exact .inr ⟨g,cap,cur,rfl,h3,h4,h5,h8⟩
structure aom (lo:Nat) (ok:Bool) (L:List Pt) (w:World) (v:Value):Prop where
 yes:ok=true->sx lo w v L
 no:ok=false->v= .slice none 0 0
def sx.low {lo lo':Nat}{w:World}{v:Value}{L:List Pt}(h:sx lo w v L) (hl:lo'<=lo):sx lo' w v L:=by
 rcases h with h |⟨g,cap,cur,h1,h2,h3⟩
 ·exact .inl h
 ·exact .inr ⟨g,cap,cur,h1,ZA9 hl h2,h3⟩
def XR (W:World) (s0 s1 s2 s3 s4 s5 s6 s7 t0 t1 t2 t3 t4 t5 t6:Value) (L:List Pt)
   (hTO:∀w,Below W.heap.size W w->Calls Tryz.prog 17 #[.agg #[s0,s1,s2,s3,s4,s5,s6,s7],.agg #[t0,t1,t2,t3,t4,t5,t6]] w λe w'=>e= .returned (.bool true)/\Below w.heap.size w w')
   (hAL:∀w b,Below W.heap.size W w->W.heap.size<=b->w.heap[b]?=some (.cells #[s0,s1,s2,s3,s4,s5,s6,s7] 29 (0,0))->Calls Tryz.prog 18 #[.pointer (some ⟨b,0,none⟩),.agg #[t0,t1,t2,t3,t4,t5,t6]] w λe w'=>∃v,e= .returned v/\Below w.heap.size w w'/\FO w.heap.size w' v L):
   Calls Tryz.prog 8 #[.agg #[s0,s1,s2,s3,s4,s5,s6,s7],.agg #[t0,t1,t2,t3,t4,t5,t6]] W λe w'=>∃v,e= .returned (.tuple #[v,.bool true])/\Below W.heap.size W w'/\FO W.heap.size w' v L:=by
 go_enter Tryz.func8,Tryz.ntmps8
 have b0:Below W.heap.size W (W.alloc (.cells #[s0,s1,s2,s3,s4,s5,s6,s7] 29)):=(Below.refl _ W).alloc (ZB0 _) _
 have b1:Below W.heap.size W ((W.alloc (.cells #[s0,s1,s2,s3,s4,s5,s6,s7] 29)).alloc (.cells #[t0,t1,t2,t3,t4,t5,t6] 33)):=b0.alloc b0.size _
 go_wp2_with (go_at_call 17;refine (hTO _ b1).mono ?_)
 rintro e w1 ⟨rfl,c1⟩
 have b2:Below W.heap.size W w1:=b1.trans (c1.mono b1.size)
 have xe:w1.heap[W.heap.size]?=some (.cells #[s0,s1,s2,s3,s4,s5,s6,s7] 29 (0,0)):=by
  rw [c1.block _ (nW _ _ _).2];exact (nW _ _ _).1
 have qg:w1.heap[(W.alloc (.cells #[s0,s1,s2,s3,s4,s5,s6,s7] 29)).heap.size]?=some (Obj.cells #[t0,t1,t2,t3,t4,t5,t6] 33 (0,0)):=by
  rw [c1.block _ (by show _<((W.alloc _).heap.push _).size;rw [ZH8];omega)];exact heap_alloc_new _ _
 rw [cS] at qg
 obtain⟨f0,f1,f2,f3,f4,f5,f6⟩:=DC qg
 have key:=hAL w1 W.heap.size b2 (ZB0 _) xe
 clear hAL hTO xe qg
 go_wp2_with (go_at_call 18;refine key.mono ?_)
 rintro e w2 ⟨v,rfl,c2,hv⟩
 go_wp2
 go_ret2
 exact⟨_,rfl,b2.trans (c2.mono b2.size),hv.low b2.size⟩
def QM (W:World) (s0 s1 s2 s3 s4 s5 s6 s7 t0 t1 t2 t3 t4 t5 t6:Value) (ok:Bool) (L:List Pt)
   (hTO:∀w,Below W.heap.size W w->Calls Tryz.prog 13 #[.agg #[s0,s1,s2,s3,s4,s5,s6,s7],.agg #[t0,t1,t2,t3,t4,t5,t6]] w λe w'=>e= .returned (.bool ok)/\Below w.heap.size w w')
   (hAL:∀w b,ok=true->Below W.heap.size W w->W.heap.size<=b->w.heap[b]?=some (.cells #[s0,s1,s2,s3,s4,s5,s6,s7] 29 (0,0))->Calls Tryz.prog 14 #[.pointer (some ⟨b,0,none⟩),.agg #[t0,t1,t2,t3,t4,t5,t6]] w λe w'=>∃v,e= .returned v/\Below w.heap.size w w'/\sx w.heap.size w' v L):
   Calls Tryz.prog 5 #[.agg #[s0,s1,s2,s3,s4,s5,s6,s7],.agg #[t0,t1,t2,t3,t4,t5,t6]] W λe w'=>∃v,e= .returned (.tuple #[v,.bool ok])/\Below W.heap.size W w'/\aom W.heap.size ok L w' v:=by
 go_enter Tryz.func5,Tryz.ntmps5
 have b0:Below W.heap.size W (W.alloc (.cells #[s0,s1,s2,s3,s4,s5,s6,s7] 29)):=(Below.refl _ W).alloc (ZB0 _) _
 have b1:Below W.heap.size W ((W.alloc (.cells #[s0,s1,s2,s3,s4,s5,s6,s7] 29)).alloc (.cells #[t0,t1,t2,t3,t4,t5,t6] 33)):=b0.alloc b0.size _
 go_wp2_with (go_at_call 13;refine (hTO _ b1).mono ?_)
 rintro e w1 ⟨rfl,c1⟩
 have b2:Below W.heap.size W w1:=b1.trans (c1.mono b1.size)
 cases ok with
 |false=>
  go_wp2
  go_ret2
  exact⟨_,rfl,b2,⟨λh=>(by cases h),λ_=>rfl⟩⟩
 |true=>
  have xe:w1.heap[W.heap.size]?=some (.cells #[s0,s1,s2,s3,s4,s5,s6,s7] 29 (0,0)):=by
   rw [c1.block _ (nW _ _ _).2];exact (nW _ _ _).1
  have qg:w1.heap[(W.alloc (.cells #[s0,s1,s2,s3,s4,s5,s6,s7] 29)).heap.size]?=some (Obj.cells #[t0,t1,t2,t3,t4,t5,t6] 33 (0,0)):=by
   rw [c1.block _ (by show _<((W.alloc _).heap.push _).size;rw [ZH8];omega)];exact heap_alloc_new _ _
  rw [cS] at qg
  obtain⟨f0,f1,f2,f3,f4,f5,f6⟩:=DC qg
  have key:=hAL w1 W.heap.size rfl b2 (ZB0 _) xe
  clear hAL hTO xe qg
  go_wp2_with (go_at_call 14;refine key.mono ?_)
  rintro e w2 ⟨v,rfl,c2,hv⟩
  go_wp2
  go_ret2
  exact⟨_,rfl,b2.trans (c2.mono b2.size),⟨λ_=>hv.low b2.size,λh=>by cases h⟩⟩
def sx.cells {w:World}{L:List Pt}{g:Nat}{cur:Array Value}(hc:w.heap[g]?=some (.cells cur 31 (0,0))) (ht:cur.toList.take (L.length*5)=jj L) (j:Nat) (u:Value) (hj:(jj L)[j]?=some u):w.cell? ((⟨g,0,none⟩:Addr).add j)=some u:=by
 have e:(⟨g,0,none⟩:Addr).add j=⟨g,j,none⟩:=by cases j<;>simp [Addr.add]
 have bR:j<L.length*5:=by
  have:=(ZB9.1 hj).1
  rw [gG] at this;exact this
 rw [<-ht,ZH7 bR] at hj
 rw [e,bO hc];simpa using hj
def XW (A:dN->List Pt) (X:Nat->Option dN):Nat->Nat->List Pt
 |0,_=>[]
 |f+1,k=>(match X k with |none=>[] |some m=>A m)++XW A X f (k+1)
def C8.other {w w':World}{B n:Nat}{X:Nat->Option dN}(h:C8 w B n n X) (hk:∀(b:Nat) (cs:Array Value) (e:TypeId) (fr:Nat×Nat),w.heap[b]?=some (Obj.cells cs e fr)->e≠31->w'.heap[b]?=w.heap[b]?):C8 w' B n n X:=by
 obtain⟨f,⟨c,q1,q2⟩,h4,h5⟩:=h
 exact⟨f,⟨c,(hk _ _ _ _ q1 (by decide)).trans q1,q2⟩,h4,λj hj=>(h5 j hj).kept λb cs hc=>hk b cs _ _ hc (by decide)⟩
def ac5 {w w':World}{base n:Nat}{v:Value}{l:List Value}(fq:w.ownsRow base 31 5 v n l) (hg:w.grownBy w' v.ownBlock) (b:Nat) (cs:Array Value) (e:TypeId) (fr:Nat×Nat) (hb:w.heap[b]?=some (Obj.cells cs e fr)) (he:e≠31):w'.heap[b]?=w.heap[b]?:=by
 refine hg.block b (fY hb) λe2=>?_
 obtain⟨_,⟨rfl,_⟩ |⟨g,cap,cur,rfl,h3,h4,_⟩⟩:=fq
 ·cases e2
 ·cases e2
  rw [h4] at hb
  cases hb
  exact he rfl
def ZB {w w':World}{base n:Nat}{e:TypeId}{s:Nat}{v:Value}{l:List Value}(fq:w.ownsRow base e s v n l) (hb:Below w.heap.size w w'):w'.ownsRow base e s v n l:=by
 obtain⟨q1,q2 |⟨g,cap,cur,q2,q3,q4,q5⟩⟩:=fq
 ·exact⟨q1,.inl q2⟩
 ·exact⟨q1,.inr ⟨g,cap,cur,q2,q3,(hb.block _ (fY q4)).trans q4,q5⟩⟩
def afP {W w w':World}{n:Nat}{e:TypeId}{s:Nat}{v:Value}{l:List Value}(fq:w.ownsRow W.heap.size e s v n l) (hb:Below W.heap.size W w) (hg:w.grownBy w' v.ownBlock):Below W.heap.size W w':=
 ⟨hg.os.trans hb.os,hg.tape.trans hb.tape,hg.output.trans hb.output,ZA9 hb.size hg.size,λk hk=>(hg.block k (ZF8 hk hb.size) (λe2=>by have:=(MZ fq e2.symm).1;omega)).trans (hb.block k hk)⟩
def ako (W:World):Calls Tryz.prog 29 #[.slice none 0 0] W λe w'=>e= .returned (.slice none 0 0)/\w'=W:=by
 go_enter Tryz.func29,Tryz.ntmps29
 go_wp2
 go_ret
 exact⟨rfl,rfl⟩
def ag2 (W:World) (g n cap:Nat) (hc:n<=cap):Calls Tryz.prog 29 #[.slice (some ⟨g,0,none⟩) n cap] W λe w'=>e= .returned (.slice (some ⟨g,0,none⟩) n n)/\w'=W:=by
 go_enter Tryz.func29,Tryz.ntmps29
 go_wp2
 go_ret
 exact⟨rfl,rfl⟩
def abr (W:World) (rcv t0 t1 t2 t3 t4 t5 t6:Value) (n:Nat) (X:Nat->Option dN) (A:dN->List Pt) (L0:List Pt) (hn:n<=16) (AG:L0.length<=100) (hl:∀k m,k<n->X k=some m->(A m).length<=100)
   (hA0:∀w,Below W.heap.size W w->Calls Tryz.prog 18 #[rcv,.agg #[t0,t1,t2,t3,t4,t5,t6]] w λe w'=>∃v,e= .returned v/\Below w.heap.size w w'/\FO w.heap.size w' v L0)
   (hND:∀w,Below W.heap.size W w->Calls Tryz.prog 28 #[rcv,.agg #[t0,t1,t2,t3,t4,t5,t6]] w λe w'=>∃v q,e= .returned (.tuple #[v,.bool q])/\Below w.heap.size w w'/\o7 w' v n X)
   (hAL:∀w k m,k<n->X k=some m->Below W.heap.size W w->Calls Tryz.prog 18 #[rcv,.agg #[.int .i64 m.2.2.2.1,.int .i64 m.2.2.2.2.1,.int .i64 m.2.2.2.2.2.1,.int .i64 m.2.2.2.2.2.2.1,.int .i64 m.2.2.2.2.2.2.2.1,.int .i64 m.2.2.2.2.2.2.2.2.1,.int .i64 m.2.2.2.2.2.2.2.2.2]] w λe w'=>∃v,e= .returned v/\Below w.heap.size w w'/\FO w.heap.size w' v (A m)):
   Calls Tryz.prog 14 #[rcv,.agg #[t0,t1,t2,t3,t4,t5,t6]] W λe w'=>∃v,e= .returned v/\Below W.heap.size W w'/\sx W.heap.size w' v (L0++XW A X n 0):=by
 have JF:(Tryz.prog.info? 31).map (λi=>(i.zero,i.size,i.bytes))=some (some (.agg #[.int .i64 0,.int .i64 0,.int .i64 0,.int .i64 0,.int .i64 0]),5,40):=by kernel_rfl
 obtain⟨i0,hi,HY,hz1,hz2⟩:=info_parts JF
 have aje:Tryz.prog.underlying 27=some (.slice 31):=by kernel_rfl
 clear JF
 go_enter Tryz.func14,Tryz.ntmps14
 have bA:Below W.heap.size W (W.alloc (.cells #[t0,t1,t2,t3,t4,t5,t6] 33)):=(Below.refl _ W).alloc (ZB0 _) _
 have htA:=heap_alloc_new W (.cells #[t0,t1,t2,t3,t4,t5,t6] 33)
 have key:=hA0 _ bA
 clear hA0
 go_wp2_with (go_at_call 18;refine key.mono ?_)
 rintro e w1 ⟨v,rfl,c1,hv⟩
 clear key
 have b1:Below W.heap.size W w1:=bA.trans (c1.mono bA.size)
 have ht1:w1.heap[W.heap.size]?=some (Obj.cells #[t0,t1,t2,t3,t4,t5,t6] 33 (0,0)):=(c1.block _ (by rw [cS];omega)).trans htA
 obtain⟨f0,f1,f2,f3,f4,f5,f6⟩:=DC ht1
 have key:=hND w1 b1
 clear hND
 have hv0:w1.ownsRow W.heap.size 31 5 v L0.length (jj L0):=ak1 hv.owp.row bA.size
 clear hv htA ht1
 go_wp2_with (go_at_call 28;refine key.mono ?_)
 rintro e w2 ⟨u,q,rfl,c2,hN⟩
 clear key f0 f1 f2 f3 f4 f5 f6
 have b2:Below W.heap.size W w2:=b1.trans (c2.mono b1.size)
 have hv2:=ZB hv0 c2
 clear hv0
 obtain⟨B,rfl,hO⟩:=hN
 go_wp2
 generalize anB:L0++XW A X n 0=tot
 go_loopw [5,21] (λo i wr=>∃(k:Nat) (out:List Pt),k<=n/\i= .int .i64 k/\out.length<=100+100*k/\out++XW A X (n-k) k=tot/\wr.ownsRow W.heap.size 31 5 o out.length (jj out)/\Below W.heap.size W wr/\C8 wr B n n X) (λ_ i _=>n-(intOf i).toNat)
 case atStart=>exact⟨0,L0,ZA7 _,rfl,by omega,anB,hv2,b2,hO⟩
 case round=>
  clear hv2 hO b2 c2 b1 c1 bA
  obtain⟨k,out,hk,rfl,hol,hg,fq,hbw,hO⟩:=hrel
  by_cases bR:k<n
  ·obtain⟨f,hf,_,hX⟩:=id hO
   have iz:wr.cell? ⟨B,k,none⟩=some (f k):=hf.cell bR
   have hXk:=hX k bR
   clear hX hf
   rw [show n-k=(n-(k+1))+1 by omega,XW] at hg
   cases hx:X k with
   |none=>
    rw [hx] at hXk hg
    have hfk:f k= .pointer none:=hXk
    rw [hfk] at iz
    clear hAL
    go_wp2
    refine⟨⟨k+1,out,bR,ζ,by omega,hg,fq,hbw,hO⟩,?_⟩
    show n-((k:Int)+1).toNat<n-((k:Int)).toNat
    omega
   |some m=>
    rw [hx] at hXk hg
    obtain⟨b,hfk,hbm⟩:=hXk
    rw [hfk] at iz
    obtain⟨f0,f1,f2,f3,f4,f5,f6,f7,f8,f9⟩:=rT hbm
    have key:=hAL wr k m bR hx hbw
    have hlm:=hl k m bR hx
    clear hAL hl hbm f0 f1 f2
    go_wp2_with (go_at_call 18;refine key.mono ?_)
    rintro e w3 u rfl cc hu
    clear key iz f3 f4 f5 f6 f7 f8 f9
    have O1:=ZB fq cc
    have hb3:Below W.heap.size W w3:=hbw.trans (cc.mono hbw.size)
    have hO3:=hO.grow cc
    clear fq hO
    obtain⟨_,⟨rfl,h0⟩ |⟨g,cap,cur,rfl,h3,h4,h5,h6,h7,h8⟩⟩:=hu.owp.row
    ·have hA0:A m=[]:=ZF2 h0
     rw [hA0] at hg
     have hsh:(∃c,u5= .slice none 0 c/\c=0)\/∃g c,u5= .slice (some ⟨g,0,none⟩) out.length c/\out.length<=c:=by
      obtain⟨_,⟨e1,_⟩ |⟨g,cap,cur,e1,_,_,e2,_⟩⟩:=O1
      ·exact .inl ⟨0,e1,rfl⟩
      ·exact .inr ⟨g,cap,e1,e2⟩
     obtain⟨c,rfl,rfl⟩ |⟨g,c,rfl,hoc⟩:=hsh
     ·go_wp2
      refine⟨⟨k+1,out,bR,ζ,by omega,hg,O1,hb3,hO3⟩,?_⟩
      show n-((k:Int)+1).toNat<n-((k:Int)).toNat
      omega
     ·go_wp2
      refine⟨⟨k+1,out,bR,ζ,by omega,hg,O1,hb3,hO3⟩,?_⟩
      show n-((k:Int)+1).toNat<n-((k:Int)).toNat
      omega
    ·go_wp2_with (at_builtin;refine wpList_append_own _ rfl _ _ 27 rfl W.heap.size 31 i0 _ 5 40 aje hi HY hz1 hz2 rfl (by decide) _ _ _ rfl O1 ⟨g,0,none⟩ (A m).length cap (jj (A m)) rfl (gG _) ?c1 ?c2 ?c3 ?c4 ?c5 ?_)
     case c1=>exact λj u hj=>sx.cells h4 h8 j u hj
     case c2=>exact MO _
     case c3=>unfold maxLen;omega
     case c4=>omega
     case c5=>exact hb3.size
     ·intro v' w4 SW wY _
      have hb4:=afP O1 hb3 wY
      have hO4:=hO3.other (ac5 O1 wY)
      clear O1 wY h4 h3 h5 h6 h7 h8 hO3
      go_wp2
      refine⟨⟨k+1,out++A m,bR,ζ,by rw [ZA0];omega,by rw [ZC5];exact hg,by rw [ZA0,ly];exact SW,hb4,hO4⟩,?_⟩
      show n-((k:Int)+1).toNat<n-((k:Int)).toNat
      omega
  ·have hkk:k=n:=by omega
   subst hkk
   clear hAL
   rw [Nat.sub_self,XW,ZD4] at hg
   subst hg
   clear hl hol AG hk
   obtain⟨_,⟨rfl,h0⟩ |⟨g,cap,cur,rfl,h3,h4,h5,h6,h7,h8⟩⟩:=fq
   ·have key:=ako wr
    go_wp2_with (go_at_call 29;refine key.mono ?_)
    rintro e w5 ⟨rfl,rfl⟩
    go_wp2
    go_ret
    rw [anB]
    exact⟨_,rfl,hbw,.inl ⟨ZF2 h0,rfl⟩⟩
   ·have key:=ag2 wr g _ cap h5
    go_wp2_with (go_at_call 29;refine key.mono ?_)
    rintro e w5 ⟨rfl,rfl⟩
    go_wp2
    go_ret
    rw [anB]
    exact⟨_,rfl,hbw,.inr ⟨g,_,cur,rfl,h3,h4,ZB0 _,h8⟩⟩
end GL
namespace GL
def zl {s:ay}{lv:Int}:∀{l acc n:List Pt},fj s lv l acc=some n->(∀p∈l,(bl s p lv).2=true)/\n=acc++l.flatMap (λp=>(bl s p lv).1)
 |[],acc,n,h=>by
  rw [fj] at h
  cases h
  exact⟨λq hq=>(by cases hq),by rw [ZH5,ZD4]⟩
 |p::l,acc,n,h=>by
  cases hb:(bl s p lv).2 with
  |false=>rw [KE (by rw [hb];rfl)] at h;cases h
  |true=>
   rw [KD (by rw [hb];rfl)] at h
   obtain⟨h1,h2⟩:=zl h
   refine⟨λq hq=>?_,by rw [h2,ZD1,ZC5]⟩
   rcases ZB7.1 hq with rfl |hq
   ·exact hb
   ·exact h1 q hq
def HP {s:ay}{many:Int}:∀{l:List Pt}{i:Int},iY s many i l=true->∀p∈l,au p=false->p.2.2.2.2=0/\p.2.1<=s.cz/\(bB s p).2=true
 |q::l,i,h,p,hp,hh=>by
  unfold iY at h
  cases hq:au q with
  |true=>
   rw [hq,cond_true] at h
   rcases ZB7.1 hp with rfl |hp
   ·rw [hq] at hh;cases hh
   ·exact HP h p hp hh
  |false=>
   rw [hq,cond_false] at h
   cases hb:nR s many i q with
   |true=>rw [hb] at h;cases h
   |false=>
    rw [hb,cond_false] at h
    rcases ZB7.1 hp with rfl |hp
    ·unfold nR at hb
     simp only [ZD5,decide_eq_false_iff_not,ZE6,Bool.not_eq_false'] at hb
     exact⟨hb.2.1,by have:=hb.2.2.1;omega,hb.1⟩
    ·exact HP h p hp hh
def aix {s:ay}{t:bf}(h:iX s t=true):∃d,pX s t d:=by
 have hb:=zu h
 have hl:(bh s t).2=true:=by
  cases hl: !(bh s t).2 with
  |false=>exact cr hl
  |true=>rw [R0 hb hl] at h;cases h
 have hf:iY s t.many 0 (bh s t).1=true:=(RZ hb (by rw [hl];rfl)).symm.trans h
 have dM:=HE h
 have cn:=wb (s:=s) dM
 have ajp:∀q∈(bh s t).1,qQ s 0 q:=λq hq=>⟨cn q hq,HP hf q hq⟩
 have hd:t.depth=bo t.many:=by
  unfold ki at hb
  simp only [ZD5,decide_eq_false_iff_not,ZE6] at hb
  exact hb.2.1
 have hdb:=oI t.many
 rcases (show t.depth=0\/t.depth=1\/t.depth=2 by omega) with e |e |e
 ·refine⟨0,by rw [e];rfl,by omega,ajp _ ?_⟩
  unfold bh
  rw [e,rV (by decide)];simp
 ·cases hs:fj s 1 [t.root] [] with
  |none=>
   unfold bh at hl
   rw [e,ym (by decide) hs] at hl;cases hl
  |some n=>
   obtain⟨h1,h2⟩:=zl hs
   have hle:(bh s t).1=(bl s t.root 1).1:=by
    unfold bh
    rw [e,tH (by decide) hs,rV (by decide),h2];simp
   refine⟨1,by rw [e];rfl,by omega,⟨dM.ok,λ_=>h1 _ (by simp),λq hq=>ajp q ?_⟩⟩
   rw [hle];exact hq
 ·cases hs:fj s 2 [t.root] [] with
  |none=>
   unfold bh at hl
   rw [e,ym (by decide) hs] at hl;cases hl
  |some n=>
   obtain⟨h1,h2⟩:=zl hs
   have h2:n=(bl s t.root 2).1:=by rw [h2];simp
   subst h2
   cases hs2:fj s (2-1) (bl s t.root 2).1 [] with
   |none=>
    unfold bh at hl
    rw [e,tH (by decide) hs,ym (by decide) hs2] at hl;cases hl
   |some n2=>
    obtain⟨h3,h4⟩:=zl hs2
    have hle:(bh s t).1=(bl s t.root 2).1.flatMap λp=>(bl s p 1).1:=by
     unfold bh
     rw [e,tH (by decide) hs,tH (by decide) hs2,rV (by decide),h4,ZC9];rfl
    refine⟨2,by rw [e];rfl,by omega,⟨dM.ok,λ_=>h1 _ (by simp),λq hq=>⟨?_,λ_=>h3 q hq,λx hx=>ajp x ?_⟩⟩⟩
    ·exact qP s t.root 2 q hq
    ·rw [hle];exact List.mem_flatMap.2 ⟨q,hq,hx⟩
abbrev alJ (s:ay) (l:Nat) (p:Pt):List Pt:=(bl s p (l:Int)).1
def XK {s:ay}:∀{n:Nat}{p:Pt},qQ s n p->ml (alJ s) n p=(iF s n p).filter nhB
 |0,p,h=>by
  cases hh:au p with
  |true=>rw [qT hh,gH hh];exact (lK s 0).symm
  |false=>rw [T6 hh];show _=[p].filter nhB;simp [nhB,hh]
 |n+1,p,h=>by
  cases hh:au p with
  |true=>rw [qT hh,gH hh];exact (lK s (n+1)).symm
  |false=>
   rw [T5 hh]
   show _=(p::(lS s n p).flatMap (iF s n)).filter nhB
   rw [List.filter_cons_of_pos (by simp [nhB,hh]),List.filter_flatMap]
   congr 1
   exact ju λq hq=>XK (h.2.2 q hq)
def akX (s:ay):∀(n:Nat) (p:Pt),n<=2->(iF s n p).length<=21
 |n,p,hn=>by
  have h0:∀p,(iF s 0 p).length<=1:=λp=>ZB0 _
  have hf:∀(m k:Nat),(∀q,(iF s m q).length<=k)->∀l:List Pt,(l.flatMap (iF s m)).length<=l.length*k:=λm k hk l=>by
   induction l with
   |nil=>exact ZA7 _
   |cons q l ih=>rw [ZD1,ZA0,ZA1,Nat.succ_mul];have:=hk q;omega
  have hs:∀(m k:Nat),(∀q,(iF s m q).length<=k)->∀q,(iF s (m+1) q).length<=1+4*k:=λm k hk q=>by
   show (q::(lS s m q).flatMap (iF s m)).length<=_
   rw [ZA1]
   have h1:=hf m k hk (lS s m q)
   have h2:=ZG9 k (gU s q ((((m+1):Nat):Int))).1
   have h3:(lS s m q).length*k<=4*k:=h2
   omega
  have h1:=hs 0 1 h0
  have h2:=hs 1 5 h1
  match n,hn with
  |0,_=>exact ZA9 (h0 p) (by decide)
  |1,_=>exact ZA9 (h1 p) (by decide)
  |2,_=>exact h2 p
def iq {s:ay}{t:bf}(h:iX s t=true):(∃d:Nat,t.depth=(d:Int)/\d<=2/\qQ s d t.root/\ml (alJ s) d t.root=allM s t)/\(allM s t).length<=21/\PF s t=true:=by
 obtain⟨d,hT⟩:=aix h
 obtain⟨h1,h2⟩:=QF hT
 refine⟨⟨d,hT.dep,hT.le,hT.snd,(XK hT.snd).trans h2.symm⟩,?_,h1⟩
 rw [h2]
 exact ZA9 (List.length_filter_le _ _) (akX s d t.root hT.le)
noncomputable def yk (s:ay):List ByteArray->List Pt
 |[]=>[]
 |x::l=>(bif (aG x).2 then allM s (cK (aG x).1) else [])++yk s l
noncomputable def xx (s:ay) (t:bf):List Pt:=allM s t++yk s (aE s t)
noncomputable def DF (s:ay) (t:bf):List Pt×Bool:=bif cU s t then (xx s t,true) else ([],false)
def LR {s:ay}{t:bf}(h:cU s t=true):DF s t=(xx s t,true):=by unfold DF;rw [h];rfl
def UD {s:ay}{t:bf}(h:cU s t=false):DF s t=([],false):=by unfold DF;rw [h];rfl
def Z9 {s:ay}:∀{l:List ByteArray},(∀x∈l,(aG x).2=true->iX s (cK (aG x).1)=true)->(yk s l).length<=21*l.length
 |[],_=>ZB0 _
 |x::l,h=>by
  rw [yk,ZA0,ZA1]
  have h1:=Z9 (l:=l) λy hy=>h y (ZI0 _ hy)
  cases hx:(aG x).2 with
  |false=>rw [cond_false,ZA4];omega
  |true=>
   have h2:=(iq (h x (ZI4 ..) hx)).2.1
   rw [cond_true];omega
end GL
namespace GL
open Go.RowKit
theorem aaP (l:List Pt):flat ae l=jj l:=by
 induction l with
 |nil=>rfl
 |cons p l ih=>rw [im,ih];rfl
abbrev apF (A:List AP) (pre:APs.Ty A->Prop) (L:APs.Ty A->List Pt):cu where
 A:=A
 B:=[]
 pre:=λx _=>pre x
 α:=λ_ _=>Unit
 φ:=λ_ _ _=>True
 r:=λx _ _=>.t [.s (.xs 0 5 0 (L x).length),.s (.q true)]
 o:=λx _ _=>[.rs ae (L x)]
 nf:=1
def aiE (T:a8) (W w':World) (g n:Nat):a8:=λb=>if b=g then some (.bx n) else NO T W w' b
def VJ (T:a8) (W w':World) (g n:Nat):aiE T W w' g n g=some (.bx n):=by unfold aiE;rw [if_pos rfl]
def VI {T:a8}{W w':World}{g n b:Nat}(h:b≠g):aiE T W w' g n b=NO T W w' b:=by unfold aiE;rw [if_neg h]
def Has.box {f:FuncId}{A:List AP}{pre:APs.Ty A->Prop}{L:APs.Ty A->List Pt}(hE:Enters Tryz.prog f)
  (h:∀x,pre x->∀(W:World) (T:a8) (β:Nat->Nat) (vs:List Value),WT T W->pY T->mW T β (APs.avs A x) vs->Calls Tryz.prog f vs.toArray W λe w'=>∃v,e= .returned (.tuple #[v,.bool true])/\Below W.heap.size W w'/\FO W.heap.size w' v (L x)):Has Tryz.prog f (apF A pre L):=by
 refine⟨λx y hp=>?_,hE⟩
 intro W T β vs hT hN cB wo cF
 refine (h x hp W T β vs hT hN cB).mono λe w' ⟨v,he,hB,g,cur,z,hg,hc,agN,hz,hv⟩=>?_
 have hA:=NN (β:=β) hT hN hB
 have hzo:∀x∈z,EK.ok ae x:=λx hx=>by
  rw [hz x hx]
  exact⟨⟨by decide,by decide⟩,⟨by decide,by decide⟩,⟨by decide,by decide⟩,⟨by decide,by decide⟩,⟨by decide,by decide⟩⟩
 have db:cur.size=((L x).length+z.length)*5:=by rw [<-ZD6,agN,gG,ZA0]
 refine⟨_,.t [.s (.xs 0 5 0 (L x).length),.s (.q true)],[.rs ae (L x)],aiE T W w' g cur.size,λ_=>g,he,⟨(),aa,ζ,ζ,ζ⟩,⟨_,ζ,?_,ζ,aa⟩,⟨λi hi=>?_,ζ⟩,?_,?_⟩
 ·rcases hv with ⟨h0,rfl⟩ |⟨rfl,_⟩
  ·exact .inl ⟨by rw [h0];rfl,none,rfl⟩
  ·refine .inr ⟨(L x).length+z.length,cur.size,by rw [ZH6],ZD9 _ _,VJ _ _ _ _ _,?_⟩
   rw [db,ZA6];exact ZB0 _
 ·have:i∈[0]:=hi
  rw [ZD0.1 this];exact Nat.zero_lt_one
 ·refine { typed:=λb k hb=>?_,ala:=⟨λb ek n cs hb=>?_,λq hq=>?_⟩,new:=λb hb=>?_,frame:=hA.frame,gS:=hA.gS,os:=hA.os,tape:=hA.tape,output:=hA.output }
  ·by_cases e:b=g
   ·subst e
    rw [VJ] at hb
    cases hb
    exact⟨cur,_,hc,rfl⟩
   ·rw [VI e] at hb;exact hA.typed b k hb
  ·by_cases e:b=g
   ·subst e;rw [VJ] at hb;cases hb
   ·rw [VI e] at hb;exact hA.ala.no b ek n cs hb
  ·obtain⟨cs,e,fr,h1,h2⟩:=hN.pO q hq
   have bR:=BK.lt (hT _ _ h1)
   exact⟨cs,e,fr,by rw [VI (by omega),uF bR];exact h1,h2⟩
  ·have hb:b<W.heap.size:=hb
   rw [VI (by omega)];exact uF hb
 ·refine { len:=ZA7 _,same:=λi hi=>absurd hi (Nat.not_lt_zero _),at_:=λi av hi _=>?_,inj:=λi j av av' hi _ hj _ _=>?_ }
  ·have h0:i=0:=by have:=(ZB9.1 hi).1;simp at this;exact this
   subst h0
   have hav:AV.rs ae (L x)=av:=by simpa using hi
   subst hav
   exact⟨⟨_,VJ _ _ _ _ _⟩,λ_=>.inl hg,⟨cur,_,hc,by decide,z,by rw [agN,aaP],hzo⟩,λj hj=>(by cases hj),rfl⟩
  ·have h0:=(ZB9.1 hi).1
   have h1:=(ZB9.1 hj).1
   simp at h0 h1;omega
section
variable {T:a8}{W w:World}{b:Nat}{S:ay}
def agH (h:FL T W b S) (p:Pt) (lv:Int) (hp:j9 S p lv) (hf:oG S p lv=true) (hb:Below W.heap.size W w):
  Calls Tryz.prog 70 #[.pointer (some ⟨b,0,none⟩),ptV p,.int .i64 lv] w λe w'=>∃v q,e= .returned (.tuple #[v,.bool q])/\Below w.heap.size w w'/\akP w.heap.size w' v (r8 S p):=by
 obtain⟨cs,h1,h2⟩:=h.at_
 obtain⟨s0,s1,s2,s3,s4,s5,s6,s7⟩:=S
 obtain⟨p1,p2,p3,p4,p5⟩:=p
 refine ((yr.1 ((s0,s1,s2,s3,s4,s5,s6,s7),(p1,p2,p3,p4,p5),lv) () hp).lib (β:=λi=>i) (vs:=[.pointer (some ⟨b,0,none⟩),ptV (p1,p2,p3,p4,p5),.int .i64 lv]) rfl h.wt h.no ⟨⟨b,cs,rfl,h1,h2⟩,⟨_,rfl,rfl,rfl,rfl,rfl,rfl,aa⟩,rfl,aa⟩ hb).mono ?_
 generalize ((s0,s1,s2,s3,s4,s5,s6,s7):ay)=S at *
 generalize ((p1,p2,p3,p4,p5):Pt)=p at *
 rintro e w' ⟨v,r,os,T',β',rfl,⟨z,hz,rfl,rfl,_⟩,hv,hB,hW,hO⟩
 have hz:oG S p lv=true->z=true:=hz
 have hzt:=hz hf
 subst hzt
 obtain⟨⟨vs⟩,rfl,hv2⟩:=(show AV.rel T' β' (gi S p lv true) v from hv)
 match vs,hv2 with
 |[y,q],⟨hy,hq,_⟩=>
  have hq:q= .bool (oG S p lv):=hq
  subst hq
  refine⟨y,_,ζ,hB,?_⟩
  have hy:SV.rel T' β' (.xs 0 5 0 (r8 S p).length) y:=hy
  rcases hy with ⟨h0,p',rfl⟩ |⟨cap,n,rfl,xg,hT0,_⟩
  ·exact .inl ⟨ZF2 h0,p',0,rfl⟩
  ·obtain⟨_,jV,⟨mD,e',hc',ac2⟩,_⟩:=hO.at_ 0 (.rs ae (r8 S p)) rfl (by intro h;cases h)
   obtain⟨_,z',ajv,_⟩:=ac2
   have hlo:w.heap.size<=β' 0:=by
    rcases jV (ZB0 _) with h |⟨_,j,hj,_⟩
    ·exact h
    ·exact absurd hj (Nat.not_lt_zero _)
   have hw:win mD (0*ae.length) (flat ae (((r8 S p).drop 0).take (r8 S p).length)):=xo ajv 0 _
   rw [ZD8,List.take_length] at hw
   have:=aeb (cap:=cap) hc' (o:=0) (L:=r8 S p) hw
   rcases this with ⟨hn,_⟩ |⟨b2,o2,asn,he,bR,iz⟩
   ·exact .inr ⟨β' 0,0,cap,by rw [ZH6],hlo,fY hc',λk hk=>by rw [hn] at hk;cases hk⟩
   ·cases he
    exact .inr ⟨β' 0,0,cap,by rw [ZH6],hlo,bR,iz⟩
def HX (h:FL T W b S) (t:bf) (xe:wO S) (cn:iX S t=true) (hb:Below W.heap.size W w):
  Calls Tryz.prog 18 #[.pointer (some ⟨b,0,none⟩),trV t] w λe w'=>∃v,e= .returned v/\Below w.heap.size w w'/\FO w.heap.size w' v (allM S t):=by
 obtain⟨⟨d,hd,hd2,aoX,hwalk⟩,hlen,_⟩:=iq cn
 have key:=al3 w (.pointer (some ⟨b,0,none⟩)) (alJ S) (λl p=>qQ S l p/\(au p=false->p.2.1<=S.cz)) t.root d t.many ?_ ?_ ?_ (by omega) ⟨aoX,λ_=>aoX.AO xe.cz.1⟩ (by rw [hwalk];omega)
 ·rw [hwalk,<-hd] at key;exact key
 ·intro w2 p c2
  obtain⟨p1,p2,p3,p4,p5⟩:=p
  refine ((eo.1 (p1,p2,p3,p4,p5) () aa).lib (β:=λi=>i) (vs:=[ptV (p1,p2,p3,p4,p5)]) rfl h.wt h.no ⟨⟨_,rfl,rfl,rfl,rfl,rfl,rfl,aa⟩,aa⟩ (hb.trans (c2.mono hb.size))).mono ?_
  rintro e w' ⟨v,r,os,T',β',rfl,⟨z,_,rfl,_⟩,hv,hB,_⟩
  have hv:v= .bool (au (p1,p2,p3,p4,p5)):=hv
  subst hv
  exact⟨rfl,hB⟩
 ·intro w2 l p c2 hR hh
  have hfb:=TE (s:=S) (p:=p) (lv:=((l+1:Nat):Int)) hR.1.pok hR.2
  have hbt:=hR.1.2.1 hh
  have hf:oG S p ((l+1:Nat):Int)=true:=hfb.1.trans hbt
  refine (agH h p ((l+1:Nat):Int) ⟨xe.rd,hR.1.pok⟩ hf (hb.trans (c2.mono hb.size))).mono ?_
  rintro e w' ⟨v,q,rfl,hB,hv⟩
  have e:r8 S p=alJ S (l+1) p:=hfb.2 hf
  exact⟨v,q,rfl,hB,by rw [<-e];exact hv⟩
 ·intro l p hR hh
  exact⟨ZA9 (gU S p _).1 (by decide),λq hq=>⟨hR.1.2.2 q hq,λ_=>(hR.1.2.2 q hq).AO xe.cz.1⟩⟩
end
abbrev aec (S:ay) (t:bf):Prop:=(S.gone.length<=1000000/\S.dead.length<=1000000)/\(dE S t).2=true
noncomputable def CT:cu:=apF [.a vj,trP] (λx=>aec x.1 x.2) λx=>allM x.1 x.2
def OH:Has Tryz.prog 8 CT:=by
 refine Has.box ⟨_,Tryz.func8,by rfl,by decide⟩ λ(x:ay×bf) (hp:aec x.1 x.2) W T β vs hT hN cB=>?_
 obtain⟨s0,s1,s2,s3,s4,s5,s6,s7,r,rfl,hs,hr⟩:=DH (l:=[]) cB
 obtain rfl:=xP hr
 have cn:=hp.2
 rw [oQ] at cn
 obtain⟨xe,cn⟩:=ZE0.1 cn
 have xe:=pg.1 xe
 refine XR W s0 s1 s2 s3 s4 s5 s6 s7 _ _ _ _ _ _ _ (allM x.1 x.2) ?_ ?_
 ·intro w c
  refine ((agB.1 x () hp.1).lib (β:=β) (vs:=[.agg #[s0,s1,s2,s3,s4,s5,s6,s7],trV x.2]) rfl hT hN cB c).mono ?_
  rintro e w' ⟨v,r,os,T',β',rfl,⟨z,_,rfl,_⟩,hv,hB,_⟩
  have hv:v= .bool (iM x.1&&iX x.1 x.2):=hv
  rw [pg.2 xe,cn] at hv
  subst hv
  exact⟨rfl,hB⟩
 ·intro w b c wZ hc
  obtain⟨T1,hA⟩:=FL.boxed (S:=x.1) (β:=β) hT hN hs c wZ hc
  exact HX hA x.2 xe cn (Below.refl _ _)
def adS {S:ay}{t:bf}(h:cU S t=true):∀{f k:Nat},k+f=(aE S t).length->XW (λm=>allM S (cK m)) (ndX S t) f k=yk S ((aE S t).drop k)
 |0,k,hk=>by rw [ZB3 (by omega)];rfl
 |f+1,k,hk=>by
  rw [bJ (ek:=ab) (show k<(aE S t).length by omega),XW,yk,adS h (f:=f) (k:=k+1) (by omega)]
  congr 1
  unfold ndX FX
  cases hx:decide (nth ab (aE S t) k=⟨#[]⟩) with
  |true=>rw [aF hx,ez];rfl
  |false=>
   have hg:=(pd (fZ h).2.2 _ (bS (ek:=ab) (l:=aE S t) (k:=k) (by omega)) (aD hx)).1
   rw [hg];rfl
def anq {S:ay}{t:bf}(h:cU S t=true) {k:Nat}{m:dN}(hk:k<t.many.toNat) (hx:ndX S t k=some m):iX S (cK m)=true:=by
 unfold ndX FX at hx
 have hl:=(qp h).1
 cases hd:decide (nth ab (aE S t) k=⟨#[]⟩) with
 |true=>rw [hd] at hx;cases hx
 |false=>
  rw [hd] at hx
  cases hx
  exact (pd (fZ h).2.2 _ (bS (ek:=ab) (l:=aE S t) (k:=k) (by omega)) (aD hd)).2
section
variable {T:a8}{W w:World}{b:Nat}{S:ay}
def WE (h:FL T w b S) (t:bf) (hT:cU S t=true):
  Calls Tryz.prog 14 #[.pointer (some ⟨b,0,none⟩),trV t] w λe w'=>∃v,e= .returned v/\Below w.heap.size w w'/\sx w.heap.size w' v (xx S t):=by
 obtain⟨xe,cn,hG⟩:=fZ hT
 obtain⟨hl,h0,h16⟩:=qp hT
 have hX:∀k m,ndX S t k=some m->k<t.many.toNat->iX S (cK m)=true:=λk m hx hk=>anq hT hk hx
 have key:=abr w (.pointer (some ⟨b,0,none⟩)) (.int .i64 t.1) (.int .i64 t.2.1) (.int .i64 t.2.2.1) (.int .i64 t.2.2.2.1) (.int .i64 t.2.2.2.2.1) (.int .i64 t.2.2.2.2.2.1) (.int .i64 t.2.2.2.2.2.2) t.many.toNat (ndX S t) (λm=>allM S (cK m)) (allM S t) (by omega) (ZA9 (iq cn).2.1 (by decide)) ?_ ?_ ?_ ?_
 ·rw [adS hT (f:=t.many.toNat) (k:=0) (by omega)] at key;exact key
 ·intro k m hk hx
  exact ZA9 (iq (hX k m hx hk)).2.1 (by decide)
 ·intro w2 c2
  exact HX h t xe cn c2
 ·intro w2 c2
  have hA:=h.later c2
  refine (NH (t:=t) hA (pg.2 xe)).mono ?_
  rintro e w' ⟨v,rfl,hB,hv⟩
  refine⟨v,_,ζ,hB,hv ?_⟩
  exact (ZE0.1 hT).2
 ·intro w2 k m hk hx c2
  exact HX h (cK m) xe (hX k m hx hk) c2
end
noncomputable def yS:cu:=E2 [.a vj,trP] (λx=>pA x.1 x.2) λx=>.t [.s (.vw ae (DF x.1 x.2).1),.s (.q (DF x.1 x.2).2)]
def JB:Has Tryz.prog 5 yS:=by
 refine Has.lib ⟨_,Tryz.func5,by rfl,by decide⟩ (λx=>⟨rfl,rfl⟩) λ(x:ay×bf) (hp:pA x.1 x.2) W T β vs hT hN cB=>?_
 obtain⟨s0,s1,s2,s3,s4,s5,s6,s7,r,rfl,hs,hr⟩:=DH (l:=[]) cB
 obtain rfl:=xP hr
 refine (QM W s0 s1 s2 s3 s4 s5 s6 s7 _ _ _ _ _ _ _ (cU x.1 x.2) (xx x.1 x.2) ?_ ?_).mono ?_
 ·intro w c
  refine ((acO.1 x () hp).lib (β:=β) (vs:=[.agg #[s0,s1,s2,s3,s4,s5,s6,s7],trV x.2]) rfl hT hN cB c).mono ?_
  rintro e w' ⟨v,r,os,T',β',rfl,⟨z,_,rfl,_⟩,hv,hB,_⟩
  have hv:v= .bool (cU x.1 x.2):=hv
  subst hv
  exact⟨rfl,hB⟩
 ·intro w b cn c wZ hc
  obtain⟨T1,hA⟩:=FL.boxed (S:=x.1) (β:=β) hT hN hs c wZ hc
  exact WE hA x.2 cn
 rintro e w' ⟨v,rfl,hB,hv⟩
 refine⟨_,ζ,hB,?_⟩
 cases h:cU x.1 x.2 with
 |false=>
  have hv:=hv.no h
  subst hv
  rw [UD h]
  exact⟨_,rfl,.inl ⟨rfl,none,0,rfl⟩,rfl,trivial⟩
 |true=>
  have hv:=hv.yes h
  rw [LR h]
  refine⟨_,ζ,?_,ζ,aa⟩
  rcases hv with ⟨h0,rfl⟩ |⟨g,cap,cur,rfl,wZ,hc,xg,ht⟩
  ·exact .inl ⟨h0,none,0,rfl⟩
  ·refine .inr ⟨g,0,cap,cur,_,_,rfl,xg,NM wZ hc,?_⟩
   rw [aaP]
   refine vg ?_
   rw [ZD8,gG]
   exact ht
end GL
namespace GL
noncomputable section
def aht {S:ay}{t:bf}(h:cU S t=true) {x:ByteArray}(hx:x∈aE S t) (h2:(aG x).2=true):iX S (cK (aG x).1)=true:=by
 by_cases he:x=⟨#[]⟩
 ·rw [he,ez] at h2;cases h2
 ·exact (pd (fZ h).2.2 x hx he).2
def BQ (S:ay) (t:bf):Prop:=cU S t=true
def A9 (S:ay) (t:bf):AV:=.s (.xs 0 5 0 (xx S t).length)
def HB (S:ay) (t:bf):List AV:=[.rs ae (xx S t)]
def P0:cu where
 A:=[.a vj,.a [.int,.int,.int,.int,.int,.int,.int]]
 B:=[]
 pre:=λx b=>BQ (x.1) (x.2)
 r:=λx b _=>A9 (x.1) (x.2)
 o:=λx b _=>HB (x.1) (x.2)
 nf:=1
def ai7:Has Tryz.prog 16 P0:=by
 refine Has.fP zT zF zF (l:=[(32,qy),(33,cD),(34,fC)]) ⟨KO,gb,oB,aa⟩ Tryz.func16 ?_
 rintro⟨⟨(aj:List ByteArray),(ak:List Int),(an:List Int),(ao:Int),(ah:List Pt),(aq:Int),(ai:List Pt),(ar:Bool)⟩,⟨(t1:Int),(t2:Int),(t3:Int),(t4:Int),(t5:Int),(t6:Int),(t7:Int)⟩⟩ _ (hp:BQ (aj,ak,an,ao,ah,aq,ai,ar) (t1,t2,t3,t4,t5,t6,t7))
 show vc _ _ _ _ (entry [.a [.vz ab aj,.vz ag ak,.vz ag an,.int ao,.vz ae ah,.int aq,.vz ae ai,.q ar],.a [.int t1,.int t2,.int t3,.int t4,.int t5,.int t6,.int t7]] []) _
 let A':=(aj,ak,an,ao,ah,aq,ai,ar)
 let B':=(t1,t2,t3,t4,t5,t6,t7)
 have hT:cU A' B'=true:=hp
 obtain⟨xe,cn,hG⟩:=fZ hT
 have dM:=xe.rd
 obtain⟨hlen,h0,h16⟩:=qp hT
 have h0:0<=t7:=h0
 have h16:t7<=16:=h16
 have hlen:(aE A' B').length=t7.toNat:=hlen
 obtain⟨_,hal,apj⟩:=iq cn
 refine⟨⟨⟨tv9,tv8,aa⟩,?_,?_⟩,λx1 w2=>⟨⟨⟨tv9,tv8,aa⟩,?_,?_,?_,?_⟩,λx3 w4=>?_⟩⟩
 all_goals first|refine aw ?_|refine ax ?_|exact bb|(dsimp only [qy,qE,cD,dL,fC,gv];omega)|exact ba|exact dM|exact apj|exact HE cn|exact h0|exact h16|skip
 refine df (l:=[(32,qy),(33,cD),(34,fC)]) (ex:=zT) (wr:=zF) (pt:=zF) ⟨KO,gb,oB,aa⟩ [.s 2,.s 3,.b 1002,.b 1003,.s 6,.b 160000] (λy:Nat×List Pt=>[(.s 7,.int y.1),(.s 5,.s (.xs 1017 5 0 y.2.length)),(.b 1017,.rs ae y.2)]) (λy=>y.1<=(aE A' B').length/\y.2.length<=21+21*y.1/\y.2++yk A' ((aE A' B').drop y.1)=xx A' B') (λy=>(aE A' B').length-y.1) (0,allM A' B') [(1017,130000)] ⟨ZA7 _,hal,rfl⟩ dP ?_
 rintro⟨i,out⟩ ⟨(hi:i<=(aE A' B').length),(ho:out.length<=21+21*i),(hr:out++yk A' ((aE A' B').drop i)=xx A' B')⟩
 have db:=HI (nX (s:=A') (t:=B') dM) i
 have hnd:i<(aE A' B').length->(aG (nth ab (aE A' B') i)).2=true->iX A' (cK (aG (nth ab (aE A' B') i)).1)=true:=λh h2=>aht hT (bS (ek:=ab) h) h2
 refine⟨λw1=>⟨⟨?_,?_⟩,?_,⟨tv2,?_⟩,λx2 w3=>⟨λw4=>⟨⟨⟨tv9,tv8,aa⟩,?_,?_⟩,λx5 w6=>⟨⟨⟨?_,?_⟩,?_,?_⟩,⟨?_,?_⟩,?_⟩⟩,λw7=>⟨⟨?_,?_⟩,?_⟩⟩⟩,λw8=>?_⟩
 all_goals first|refine aw ?_|refine ax ?_|exact bb|(dsimp only [qy,qE,cD,dL,fC,gv];omega)|exact ba|exact aF w1|exact v7 w1|exact db|exact dM|exact (iq (hnd (v7 w1) w4)).2.2|(show out.length+(allM A' (cK (aG (nth ab (aE A' B') i)).1)).length<=1048576;have h1:=(iq (hnd (v7 w1) w4)).2.1;omega)|skip
 ·have lQ:i<(aE A' B').length:=v7 w1
  have w4:(aG (nth ab (aE A' B') i)).2=true:=w4
  have h1:=(iq (hnd lQ w4)).2.1
  have hs:(out++allM A' (cK (aG (nth ab (aE A' B') i)).1))++yk A' ((aE A' B').drop (i+1))=xx A' B':=by
   rw [<-hr,bJ (ek:=ab) lQ,yk,w4,cond_true,ZC5]
  refine⟨(i+1,out++allM A' (cK (aG (nth ab (aE A' B') i)).1)),[(1017,1036)],?_,?_,?_⟩
  rotate_right
  ·exact bY
  ·exact⟨lQ,by show (out++_).length<=21+21*(i+1);rw [ZA0];omega,hs⟩
  ·show (aE A' B').length-(i+1)<(aE A' B').length-i;omega
 ·have lQ:i<(aE A' B').length:=v7 w1
  have w8:(aG (nth ab (aE A' B') i)).2=false:=by assumption
  have hs:out++yk A' ((aE A' B').drop (i+1))=xx A' B':=by
   rw [<-hr,bJ (ek:=ab) lQ,yk,w8,cond_false,ZC9]
  refine⟨(i+1,out),[],?_,?_,?_⟩
  rotate_right
  ·exact bY
  ·exact⟨lQ,by show out.length<=21+21*(i+1);omega,hs⟩
  ·show (aE A' B').length-(i+1)<(aE A' B').length-i;omega
 ·have e:xx A' B'=out:=by rw [<-hr,ZB3 (Nat.le_of_not_lt (λh=>aD (by assumption) (Int.ofNat_lt.2 h))),yk,ZD4]
  refine⟨[1017],[],_,_,_,ζ,aC,(),aa,?_,?_,ζ⟩
  ·(show _=A9 A' B');unfold A9;first|(rw [e];rfl)|rfl
  ·(show _=HB A' B');unfold HB;first|(rw [e];rfl)|rfl
def qt (S:ay) (t:bf):Prop:=S.gone.length<=1000000/\S.dead.length<=1000000
def mU (S:ay) (t:bf):AV:=.t [.s (.vw ae (DF S t).1),.s (.q (DF S t).2)]
def ZQ (S:ay) (t:bf):List AV:=[]
def sn:cu where
 A:=[.a vj,.a [.int,.int,.int,.int,.int,.int,.int]]
 B:=[]
 pre:=λx b=>qt (x.1) (x.2)
 r:=λx b _=>mU (x.1) (x.2)
 o:=λx b _=>ZQ (x.1) (x.2)
def OL:Has Tryz.prog 6 sn:=by
 refine Has.fP zT zF zF (l:=[(15,IQ),(16,P0)]) ⟨agE,ai7,aa⟩ Tryz.func6 ?_
 rintro⟨⟨(aj:List ByteArray),(ak:List Int),(an:List Int),(ao:Int),(ah:List Pt),(aq:Int),(ai:List Pt),(ar:Bool)⟩,⟨(t1:Int),(t2:Int),(t3:Int),(t4:Int),(t5:Int),(t6:Int),(t7:Int)⟩⟩ _ (hp:qt (aj,ak,an,ao,ah,aq,ai,ar) (t1,t2,t3,t4,t5,t6,t7))
 show vc _ _ _ _ (entry [.a [.vz ab aj,.vz ag ak,.vz ag an,.int ao,.vz ae ah,.int aq,.vz ae ai,.q ar],.a [.int t1,.int t2,.int t3,.int t4,.int t5,.int t6,.int t7]] []) _
 let A':=(aj,ak,an,ao,ah,aq,ai,ar)
 let B':=(t1,t2,t3,t4,t5,t6,t7)
 obtain⟨hg,hd⟩:=hp
 refine⟨⟨⟨tv9,tv8,aa⟩,?_,?_⟩,λx1 w2=>⟨λw3=>⟨aa,?_⟩,λw4=>⟨⟨⟨tv9,tv8,aa⟩,?_⟩,λx5 w6=>?_⟩⟩⟩
 all_goals first|refine aw ?_|refine ax ?_|exact bb|(dsimp only [IQ,ya,P0,BQ];omega)|exact ba|exact hg|exact hd|exact cr w4|skip
 ·have e:=UD (s:=A') (t:=B') (sW w3)
  refine⟨[],[],_,_,_,ζ,bZ,(),aa,?_,?_,ζ⟩
  ·(show _=mU A' B');unfold mU;first|(rw [e];rfl)|rfl
  ·rfl
 ·have e:=LR (s:=A') (t:=B') (cr w4)
  refine⟨[],[],_,_,_,ζ,bZ,(),aa,?_,?_,ζ⟩
  ·(show _=mU A' B');unfold mU;first|(rw [e];exact congrArg (λl=>AV.t [.s (.vw ae l),.s (.q true)]) (ZC4 (ZB0 _)))|rfl
  ·rfl
end
end GL
namespace GL
noncomputable section
def kK (c:List Int):Prop:=akU c
def G7 (c:List Int) (z:ay×bf):Prop:=(z.1.gone.length<=20001/\z.1.dead.length<=20001)/\-1<=z.2.2.2.2.2.2.2/\z.2.2.2.2.2.2.2<=18
def GG (c:List Int) (z:ay×bf):AV:=.t [.a [.vw ab z.1.rows,.vw ag z.1.refs,.vw ag z.1.last,.int z.1.cz,.vw ae z.1.gone,.int z.1.cm,.vw ae z.1.dead,.q z.1.same],trA z.2]
def J2 (c:List Int) (z:ay×bf):List AV:=[]
def ky:cu where
 A:=[.s (.vw nJ)]
 B:=[]
 pre:=λx b=>kK x
 α:=λ_ _=>ay×bf
 φ:=λx b z=>G7 x z
 r:=λx b z=>GG x z
 o:=λx b z=>J2 x z
def yv:Has Tryz.prog 4 ky:=by
 refine Has.fP zT zF zF (l:=[(11,PV),(12,CN)]) ⟨ai0,acJ,aa⟩ Tryz.func4 ?_
 rintro (c:List Int) _ (hp:kK c)
 show vc _ _ _ _ (entry [.s (.vw nJ c)] []) _
 have hb:akU c:=hp
 refine⟨⟨tv2,?_⟩,λx1 w2=>⟨⟨tv2,?_⟩,λx3 w4=>⟨[.s 5,.b 1005],Sq14,ζ,[.s 6,.b 1006],Sq15,ζ,[.s 2,.s 14,.b 1002],[.b 1002],ζ,[.s 3,.s 15,.b 1003],[.b 1003],ζ,?_⟩⟩⟩
 all_goals first|refine aw ?_|refine ax ?_|exact bb|(dsimp only [PV,BJ,CN,vF];omega)|exact ba|exact hb|exact Rdr.at (show Rdr (x1,0) 0 from w2) (ZC1 _) (by decide)|(show x3.2.2.1+(x3.1.rows.length-x3.2.2.1)<=x3.1.rows.length;have h:x3.2.2.1<=x3.1.rows.length:=w4.2.2.1;omega)|skip
 ·have hg:x3.1.gone.length<=20001:=w4.1.1
  have hd:x3.1.dead.length<=20001:=w4.1.2
  have ho:x3.2.2.1+(x3.1.rows.length-x3.2.2.1)<=x3.1.rows.length:=by have h:x3.2.2.1<=x3.1.rows.length:=w4.2.2.1;omega
  refine⟨[],[],_,_,_,ζ,(by repeat' (first|exact trivial|apply And.intro|exact ZA8 (ZA6 _)|assumption|(simp only [ZA2,ZA3,dO,k8,ZA0,ZA1,ZA4];omega))),(((List.drop x3.2.2.1 x3.1.rows).take (x3.1.rows.length-x3.2.2.1),(List.drop 0 x3.1.refs).take (List.length x3.1.refs),(List.drop 0 x3.1.last).take (List.length x3.1.last),x3.1.cz,(List.drop 0 x3.1.gone).take (List.length x3.1.gone),x3.1.cm,(List.drop 0 x3.1.dead).take (List.length x3.1.dead),x3.1.same),x3.2.1),⟨⟨by show (((List.drop 0 x3.1.gone).take (List.length x3.1.gone)).length)<=20001;rw [ZB6];exact ZA9 (Nat.min_le_left _ _) hg,by show (((List.drop 0 x3.1.dead).take (List.length x3.1.dead)).length)<=20001;rw [ZB6];exact ZA9 (Nat.min_le_left _ _) hd⟩,w4.2.2.2⟩,ζ,ζ,ζ⟩
end
end GL
namespace GL
noncomputable section
structure ap3 (l:List Int):Prop where
 jX:∀b∈l,0<=b/\b<=255
def ahv (S:ay) (t:bf):(DF S t).2=cU S t:=by
 cases h:cU S t with
 |true=>rw [LR h]
 |false=>rw [UD h]
def adR (S:ay) (t:bf):(DF S t).1.length<=1000000:=by
 cases h:cU S t with
 |false=>rw [UD h];exact ZA7 _
 |true=>
  have h1:=(iq (fZ h).2.1).2.1
  have h2:=Z9 (s:=S) (l:=aE S t) λx hx h2=>aht h hx h2
  have h3:=qp h
  rw [LR h]
  show (allM S t++yk S (aE S t)).length<=1000000
  rw [ZA0];omega
def XO {S:ay}{t:bf}(h:wO S) (h2:iX S t=true):(dE S t).2=true:=by rw [oQ,pg.2 h,h2];rfl
def ahr {S:ay}{t:bf}(h:cU S t=true):(dE S t).2=true:=XO (fZ h).1 (fZ h).2.1
def ptN (S:ay) (t:bf) (i:Int):List Pt:=allM S (cK (k9 S t i).1)
def adP {S:ay}{t:bf}(h:cU S t=true) {k:Nat}(hk:k<(aE S t).length) (hx:nth ab (aE S t) k≠⟨#[]⟩):(k9 S t (k:Int)).1=(aG (nth ab (aE S t) k)).1:=by
 have hl:=qp h
 rw [adO h,<-amK h]
 unfold atO
 rw [cy.2 (⟨by omega,by omega⟩:0<=(k:Int)/\(k:Int)<=(t.many.toNat:Int)-1),cond_true,ZA5]
 unfold ndX FX
 rw [decide_eq_false hx];rfl
def aaa {S:ay}{t:bf}(h:cU S t=true):∀{f k:Nat},k+f=(aE S t).length->yk S ((aE S t).drop k)=(v8 ((aE S t).drop k) k).flatMap (ptN S t)
 |0,k,hk=>by rw [ZB3 (by omega)];rfl
 |f+1,k,hk=>by
  have hkl:k<(aE S t).length:=by omega
  rw [bJ (ek:=ab) hkl,yk,v8,aaa h (f:=f) (k:=k+1) (by omega)]
  by_cases hx:nth ab (aE S t) k=⟨#[]⟩
  ·rw [decide_eq_false (p:=nth ab (aE S t) k≠⟨#[]⟩) (λh=>h hx),hx,ez];rfl
  ·have hg:=(pd (fZ h).2.2 _ (bS (ek:=ab) hkl) hx).1
   rw [decide_eq_true (p:=nth ab (aE S t) k≠⟨#[]⟩) hx,hg,cond_true,cond_true,ZD1]
   unfold ptN
   rw [adP h hkl hx]
def VM {S:ay}{t:bf}(h:cU S t=true):∀{f k:Nat},k+f=(aE S t).length->∀i∈v8 ((aE S t).drop k) k,iX S (cK (k9 S t i).1)=true
 |0,k,hk,i,hi=>by rw [ZB3 (by omega)] at hi;cases hi
 |f+1,k,hk,i,hi=>by
  have hkl:k<(aE S t).length:=by omega
  rw [bJ (ek:=ab) hkl,v8] at hi
  by_cases hx:nth ab (aE S t) k=⟨#[]⟩
  ·rw [decide_eq_false (p:=nth ab (aE S t) k≠⟨#[]⟩) (λh=>h hx)] at hi
   exact VM h (f:=f) (k:=k+1) (by omega) i hi
  ·rw [decide_eq_true (p:=nth ab (aE S t) k≠⟨#[]⟩) hx,cond_true] at hi
   rcases ZB7.1 hi with rfl |hi
   ·rw [adP h hkl hx]
    exact (pd (fZ h).2.2 _ (bS (ek:=ab) hkl) hx).2
   ·exact VM h (f:=f) (k:=k+1) (by omega) i hi
def ajK {S:ay}{t:bf}:∀{l:List Int},(∀i∈l,iX S (cK (k9 S t i).1)=true)->(l.flatMap (ptN S t)).length<=21*l.length
 |[],_=>ZB0 _
 |i::l,h=>by
  rw [ZD1,ZA0,ZA1]
  have h1:=ajK (l:=l) λj hj=>h j (ZI0 _ hj)
  have h2:(ptN S t i).length<=21:=(iq (h i (ZI4 ..))).2.1
  omega
structure WtI (S:ay) (t:bf) (a:Nat) (w:List Pt):Prop where
 T:cU S t=true
 le:a<=(eI S t).1.length
 e:w=allM S t++((eI S t).1.take a).flatMap (ptN S t)
def WtI.ids {S:ay}{t:bf}{a:Nat}{w:List Pt}(h:WtI S t a w):∀i∈(eI S t).1,iX S (cK (k9 S t i).1)=true:=λi hi=>by
 rw [xu h.T] at hi
 exact VM h.T (f:=(aE S t).length) (k:=0) (by omega) i (by rw [ZD8];exact hi)
def WtI.z {S:ay}{t:bf}(h:cU S t=true):WtI S t 0 (allM S t):=⟨h,ZA7 _,by simp⟩
def WtI.len {S:ay}{t:bf}{a:Nat}{w:List Pt}(h:WtI S t a w):w.length<=400/\(eI S t).1.length<=16:=by
 have h1:=(iq (fZ h.T).2.1).2.1
 have h2:=ajK (l:=(eI S t).1.take a) λi hi=>h.ids i (ZE5 hi)
 have h3:=NW (aE S t) 0
 have h4:=qp h.T
 have h5:(eI S t).1.length<=16:=by rw [xu h.T];show (v8 (aE S t) 0).length<=16;omega
 rw [ZB6] at h2
 rw [h.e,ZA0];omega
def WtI.ok {S:ay}{t:bf}{a:Nat}{w:List Pt}(h:WtI S t a w) (ha:a<(eI S t).1.length):iX S (cK (k9 S t (nth ag (eI S t).1 a)).1)=true:=h.ids _ (bS (ek:=ag) ha)
def WtI.next {S:ay}{t:bf}{a:Nat}{w:List Pt}(h:WtI S t a w) (ha:a<(eI S t).1.length):WtI S t (a+1) (w++allM S (cK (k9 S t (nth ag (eI S t).1 a)).1)):=by
 refine⟨h.T,ha,?_⟩
 have hn:nth ag (eI S t).1 a=(eI S t).1[a]:=by unfold nth;rw [ZB2 ha]
 rw [List.take_add_one,ZB2 ha,ZG3,<-ZC5,<-h.e,hn]
 simp [ptN]
def WtI.f {S:ay}{t:bf}{a:Nat}{w:List Pt}(h:WtI S t a w) (ha:¬a<(eI S t).1.length):(DF S t).1=w:=by
 have e:=aaa h.T (f:=(aE S t).length) (k:=0) (by omega)
 rw [ZD8] at e
 rw [h.e,ZC4 (by omega),LR h.T,xu h.T]
 show allM S t++yk S (aE S t)=_
 rw [e]
def yd (c:List Int):Prop:=ap3 c
def gF (c:List Int):AV:=.s (.q true)
def QW (c:List Int):List AV:=[]
def W4:cu where
 A:=[.s (.vw nJ)]
 B:=[]
 pre:=λx b=>yd x
 r:=λx b _=>gF x
 o:=λx b _=>QW x
def WC:Has Tryz.prog 3 W4:=by
 refine Has.sF zT zF (λd=>true) (l:=[(4,ky),(5,yS),(6,sn),(7,yN),(8,CT),(9,wI),(10,yR)]) ⟨yv,JB,OL,aas,OH,ED,JA,aa⟩ Tryz.func3 ?_
 rintro (c:List Int) _ (hp:yd c)
 show vc _ _ _ _ (entry [.s (.vw nJ c)] []) _
 have hb:ap3 c:=hp
 refine⟨λw1=>?_,λw2=>⟨⟨tv2,?_⟩,λx3 w4=>⟨⟨⟨tv9,tv8,aa⟩,?_,?_⟩,λx5 w6=>⟨⟨⟨tv9,tv8,aa⟩,?_,?_⟩,λx7 w8=>⟨⟨tv3,?_,?_⟩,λx9 dB=>⟨aa,λiP=>⟨aa,λdW=>?_,λiL=>⟨λgY=>?_,λnG=>⟨⟨⟨tv9,tv8,aa⟩,⟨?_,?_⟩,?_⟩,λx16 xh=>⟨⟨⟨tv9,tv8,aa⟩,?_,?_⟩,λsA o9=>?_⟩⟩⟩⟩,λtl=>⟨aa,λFW=>?_,λDB=>⟨λzi=>?_,λtZ=>⟨⟨⟨tv9,tv8,aa⟩,⟨?_,?_⟩,?_⟩,λx25 w26=>⟨⟨⟨tv9,tv8,aa⟩,?_,?_⟩,λx27 w28=>?_⟩⟩⟩⟩⟩⟩⟩⟩⟩⟩
 all_goals first|refine aw ?_|refine ax ?_|exact bb|(dsimp only [ky,kK,sn,qt,yN,vE];omega)|exact ba|exact ZA9 w4.1.1 (by decide)|exact ZA9 w4.1.2 (by decide)|skip
 ·refine⟨[],[],_,_,_,ζ,aC,(),aa,?_,?_,ζ⟩
  ·(show _=gF c);unfold gF;first|rfl
  ·rfl
 ·have h:=aD (p:=(c.length:Int)>1048576) w2
  exact (akU.mk (l:=c) (by omega) hb.jX)
 ·exact adR x3.1 x3.2
 ·exact absurd (show (!((DF x3.1 x3.2).2==(DF x3.1 x3.2).2))=true from dW) (by simp)
 ·refine⟨[],[],_,_,_,ζ,aC,(),aa,?_,?_,ζ⟩
  ·show AV.q _=gF c;unfold gF;refine congrArg AV.q ?_;simp
  ·rfl
 ·exact ahr ((ahv x3.1 x3.2).symm.trans (cr nG))
 ·have hT:cU x3.1 x3.2=true:=(ahv x3.1 x3.2).symm.trans (cr nG)
  have hL:=xu hT
  refine jq (l:=[(4,ky),(5,yS),(6,sn),(7,yN),(8,CT),(9,wI),(10,yR)]) (ex:=zT) (wr:=zF) (pt:=λd=>true) ⟨yv,JB,OL,aas,OH,ED,JA,aa⟩ [.s 3,.s 4,.b 1003,.b 1004,.s 5,.s 12] (λy:Nat×List Pt=>[(.s 14,.int y.1),(.s 10,.s (.xs 1080 5 0 y.2.length)),(.b 1080,.rs ae y.2)]) (λy=>WtI x3.1 x3.2 y.1 y.2) (λy=>(eI x3.1 x3.2).1.length-y.1) (0,allM x3.1 x3.2) [(1080,580000)] (WtI.z hT) dP ?_
  rintro⟨a,wt⟩ (hI:WtI x3.1 x3.2 a wt)
  refine⟨λw1=>⟨[.s 3,.b 1003],Sq73,ζ,[.s 4,.b 1004],Sq74,ζ,Sq12,Sq75,ζ,Sq14,Sq76,ζ,[.s 75,.s 76],Sq77,ζ,⟨?_,?_⟩,Sq77,Sq78,ζ,[.s 73,.s 74,.s 78],Sq79,ζ,⟨⟨tv9,tv8,tv2⟩,?_,?_⟩,?_,λx2 w3=>⟨Sq79,Sq72,ζ,Sq72,Sq80,ζ,Sq72,Sq81,ζ,[.b 1015],[.s 15,.b 1015],ζ,[.s 15,.s 80,.b 1015],[.b 1015],ζ,Sq81,Sq16,ζ,⟨⟨tv9,tv8,aa⟩,⟨?_,?_⟩,?_⟩,λx4 w5=>⟨⟨⟨?_,?_⟩,?_⟩,⟨?_,?_⟩,?_⟩⟩⟩,λw6=>⟨⟨⟨aa,?_,aa⟩,?_,?_⟩,λx7 w8=>?_⟩⟩
  all_goals first|refine aw ?_|refine ax ?_|exact bb|(dsimp only [ky,kK,sn,qt,yN,vE];omega)|exact ba|exact ZA9 (show x3.1.gone.length<=20001 from w4.1.1) (by decide)|exact ZA9 (show x3.1.dead.length<=20001 from w4.1.2) (by decide)|skip
  ·exact aF w1
  ·exact XO (fZ hT).1 (hI.ok (v7 w1))
  ·have h1:=hI.len.1
   have h2:=(iq (hI.ok (v7 w1))).2.1
   show wt.length+(List.take _ (List.drop 0 (allM x3.1 (cK (k9 x3.1 x3.2 (nth ag (eI x3.1 x3.2).1 a)).1)))).length<=1048576
   rw [ZB6,ZC8];omega
  ·have h1:=hI.len.2
   have h2:=hI.le
   show (a:Int)+1<=9223372036854775807
   omega
  ·have zO:=hI.next (v7 w1)
   have eT:List.take (allM x3.1 (cK (k9 x3.1 x3.2 (nth ag (eI x3.1 x3.2).1 a)).1)).length (List.drop 0 (allM x3.1 (cK (k9 x3.1 x3.2 (nth ag (eI x3.1 x3.2).1 a)).1)))=allM x3.1 (cK (k9 x3.1 x3.2 (nth ag (eI x3.1 x3.2).1 a)).1):=by rw [ZD8];exact ZC4 (ZB0 _)
   refine⟨(a+1,wt++List.take (allM x3.1 (cK (k9 x3.1 x3.2 (nth ag (eI x3.1 x3.2).1 a)).1)).length (List.drop 0 (allM x3.1 (cK (k9 x3.1 x3.2 (nth ag (eI x3.1 x3.2).1 a)).1)))),[(1080,1091)],?_,?_,?_⟩
   rotate_right
   ·exact bY
   ·show WtI x3.1 x3.2 (a+1) (wt++List.take (allM x3.1 (cK (k9 x3.1 x3.2 (nth ag (eI x3.1 x3.2).1 a)).1)).length (List.drop 0 (allM x3.1 (cK (k9 x3.1 x3.2 (nth ag (eI x3.1 x3.2).1 a)).1))));rw [eT];exact zO
   ·show (eI x3.1 x3.2).1.length-(a+1)<(eI x3.1 x3.2).1.length-a;have h1:a<(eI x3.1 x3.2).1.length:=v7 w1;omega
  ·have e:=hI.f (λh=>aD w6 (Int.ofNat_lt.2 h))
   show (DF x3.1 x3.2).1=List.take wt.length (List.drop 0 wt)
   rw [ZD8,ZC4 (ZB0 _)];exact e
  ·exact adR x3.1 x3.2
  ·refine⟨[],[],_,_,_,ζ,aC,(),aa,?_,?_,ζ⟩
   ·(show _=gF c);unfold gF;first|rfl
   ·rfl
 ·exact absurd tl (by decide)
 ·exact absurd tl (by decide)
 ·exact absurd tl (by decide)
 ·exact absurd tl (by decide)
