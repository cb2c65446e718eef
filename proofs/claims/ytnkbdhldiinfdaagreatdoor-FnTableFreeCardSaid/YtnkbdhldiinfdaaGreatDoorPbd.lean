/- Part 30 of the proof of a drawn law. -/
import Derived.Laws.ResultCell
import Derived.Test.YtnkbdhldiinfdaaGreatDoorPbb
import Derived.Test.YtnkbdhldiinfdaaGreatDoorPbc
set_option maxHeartbeats 20000000
set_option maxRecDepth 100000
set_option linter.all false
namespace Go.Proofs.YtnkbdhldiinfdaaGreatDoor
namespace GL
noncomputable section
def am5 (n:fu):Prop:=True
def ang (n:fu):AV:=.s (.str (aC n))
def apy (n:fu):List AV:=[]
def ana:cn where
 A:=[.a [.int,.int,.int,.int,.int,.int,.int,.int,.int,.int]]
 B:=[]
 pre:=λx b=>am5 x
 r:=λx b _=>ang x
 o:=λx b _=>apy x
theorem aoK:Has Tryz.prog 52 ana:=by
 refine Has.zB zT zF zF (l:=[(27,aog),(84,anz),(85,anB),(83,an8)]) ⟨ap6,aoJ,aoR,ape,aa⟩ Tryz.func52 ?_
 rintro⟨(n1:Int),(n2:Int),(n3:Int),(n4:Int),(n5:Int),(n6:Int),(n7:Int),(n8:Int),(n9:Int),(cw:Int)⟩ _ (hp:am5 (n1,n2,n3,n4,n5,n6,n7,n8,n9,cw))
 show vc _ _ _ _ (entry [.a [.int n1,.int n2,.int n3,.int n4,.int n5,.int n6,.int n7,.int n8,.int n9,.int cw]] []) _
 let g':=(n1,n2,n3,n4,n5,n6,n7,n8,n9,cw)
 let A':=(n4,n5,n6,n7,n8)
 have uH:∀x∈[cj n1,cj n2,cj n3,bc A',cj n9,cj cw,⟨#[101,110,100]⟩],x.size≤1000000:=λx hx=>by
  simp only [ZB8,ZF6,or_false] at hx
  rcases hx with rfl |rfl |rfl |rfl |rfl |rfl |rfl
  ·exact ZB0 (nU _) (by decide)
  ·exact ZB0 (nU _) (by decide)
  ·exact ZB0 (nU _) (by decide)
  ·have:=gu A';omega
  ·exact ZB0 (nU _) (by decide)
  ·exact ZB0 (nU _) (by decide)
  ·decide
 refine⟨⟨⟨tv11,aa⟩,aa⟩,λx1 w2=>⟨λw3=>?_,λw4=>⟨Sq1,Sq9,ζ,[.s 9,.b 1001],Sq10,ζ,Sq1,Sq11,ζ,[.s 11,.b 1001],Sq12,ζ,Sq1,Sq13,ζ,[.s 13,.b 1001],Sq14,ζ,[.s 10,.s 12,.s 14,.b 1015],[.s 15,.b 1015],ζ,aa,[.s 15,.b 1015,.b 170000],[.s 16,.b 170000],ζ,⟨⟨⟨?_,?_⟩,aa⟩,?_⟩,?_,λx5 w6=>⟨Sq1,Sq17,ζ,[.s 17,.b 1001],Sq18,ζ,[.s 18,.b 200000],[.s 19,.b 200000],ζ,⟨⟨tv8,aa⟩,aa⟩,?_,λx7 w8=>⟨[.s 16,.s 19,.b 170000,.b 200000,.b 1020],[.s 20,.b 1020,.b 170000],ζ,⟨⟨?_,?_⟩,?_,?_⟩,[.b 1021],[.s 21,.b 1021],ζ,aa,[.s 20,.s 21,.b 1020,.b 1021,.b 1022],[.s 22,.b 1022,.b 1020],ζ,⟨⟨?_,?_⟩,?_,?_⟩,[.s 22,.b 1022],Sq23,ζ,⟨⟨⟨?_,?_⟩,aa⟩,?_,λx9 dy=>?_⟩,?_,λkz dJ=>⟨Sq23,Sq8,ζ,Sq8,Sq24,ζ,Sq8,Sq25,ζ,Sq24,Sq3,ζ,Sq25,Sq4,ζ,?_⟩⟩⟩⟩⟩⟩
 all_goals first|refine aw ?_|refine ax ?_|exact a8|(dsimp only [aog,anN,anz,ans,anB,anp];omega)|exact a7|exact .inl ⟨_,_,rfl⟩|exact .inr ⟨_,_,_,rfl⟩|(show 3+3≤1048576;decide)|(show 6+1≤1048576;decide)|skip
 ·have e:aC g'=⟨#[]⟩:=by unfold aC;rw [show cy g'=false from xm w3];rfl
  refine⟨[],[],_,_,_,ζ,az,(),aa,?_,?_,ζ⟩
  ·(show _=ang g');unfold ang;first|(rw [e];rfl)|rfl
  ·rfl
 ·show (7:Nat)≤60;decide
 ·exact uH _ dy
 ·have cG:cy g'=true:=cL w4
  have hb:=lh cG
  have b1:1≤n1∧n1≤2:=hb.1
  have b2:1≤n2∧n2≤9:=hb.2.1
  have b3:0≤n3∧n3≤2048:=hb.2.2.1
  have b4:0≤n9∧n9≤2:=hb.2.2.2.1
  have b5:0≤cw∧cw≤16:=hb.2.2.2.2.1
  have e:aC g'=(cE [cj n1,cj n2,cj n3,bc A',cj n9,cj cw,⟨#[101,110,100]⟩]).1:=by
   unfold aC
   rw [cG,su (n:=n1) (by omega) (by omega),su (n:=n2) (by omega) (by omega),su (n:=n3) (by omega) (by omega),su (n:=n9) (by omega) (by omega),su (n:=cw) (by omega) (by omega)];rfl
  refine⟨[],[],_,_,_,ζ,az,(),aa,?_,?_,ζ⟩
  ·(show _=ang g');unfold ang;first|(rw [e];rfl)|rfl
  ·rfl
end
end GL
namespace GL
noncomputable section
abbrev apb (n:fu):List ByteArray:=[bX n.1,bX n.2.1,bX n.2.2.1,bc n.root,bX n.2.2.2.2.2.2.2.2.1,bX n.2.2.2.2.2.2.2.2.2,⟨#[101,110,100]⟩]
theorem apE {n:fu}(h:cy n=true):bq (aC n)=(apb n,true):=by
 have hb:=lh h
 have hp:aC n=(cE (apb n)).1:=by unfold aC;rw [h];rfl
 have hf:(cE (apb n)).2=true:=by
  rw [gE rfl]
  refine D8 ?_
  have d1:=db (n:=n.1) (by omega)
  have d2:=db (n:=n.2.1) (by omega)
  have d3:=db (n:=n.2.2.1) (by omega)
  have d4:=gu n.root
  have d5:=db (n:=n.2.2.2.2.2.2.2.2.1) (by omega)
  have d6:=db (n:=n.2.2.2.2.2.2.2.2.2) (by omega)
  simp only [ZE7,List.map_nil,List.sum_cons,List.sum_nil]
  rw [show (⟨#[101,110,100]⟩:ByteArray).size=3 from rfl,show (⟨#[]⟩:ByteArray).size=0 from rfl]
  omega
 rw [hp];exact I9 hf
theorem anl {s:ByteArray}(h:(bz s).2=true):(aD (nth ab (bq s).1 0)).2=true∧(aD (nth ab (bq s).1 1)).2=true∧(aD (nth ab (bq s).1 2)).2=true∧(bP (nth ab (bq s).1 3)).2=true∧(aD (nth ab (bq s).1 4)).2=true∧(aD (nth ab (bq s).1 5)).2=true:=by
 cases h1: !(bq s).2 with
 |true=>rw [yu h1] at h;cases h
 |false=>
  cases h2:decide (((bq s).1.length:Int)≠7) with
  |true=>rw [tC h2] at h;cases h
  |false=>
   cases h3: !(cy (mS (bq s).1)) with
   |true=>rw [yt h3] at h;cases h
   |false=>
    cases h4:decide (aC (mS (bq s).1)≠s) with
    |true=>rw [yr h4] at h;cases h
    |false=>
     have cG:=cL h3
     have e:aC (mS (bq s).1)=s:=Classical.not_not.1 (aA h4)
     have hf:=apE cG
     rw [e] at hf
     generalize mS (bq s).1=n at *
     have hb:=lh cG
     rw [hf]
     have g1:=eu (n:=n.1) (by omega) (by omega)
     have g2:=eu (n:=n.2.1) (by omega) (by omega)
     have g3:=eu (n:=n.2.2.1) (by omega) (by omega)
     have g4:=nK hb.2.2.2.2.2.1
     have g5:=eu (n:=n.2.2.2.2.2.2.2.2.1) (by omega) (by omega)
     have g6:=eu (n:=n.2.2.2.2.2.2.2.2.2) (by omega) (by omega)
     refine⟨?_,?_,?_,?_,?_,?_⟩
     ·show (aD (bX n.1)).2=true;rw [g1]
     ·show (aD (bX n.2.1)).2=true;rw [g2]
     ·show (aD (bX n.2.2.1)).2=true;rw [g3]
     ·show (bP (bc n.root)).2=true;rw [g4]
     ·show (aD (bX n.2.2.2.2.2.2.2.2.1)).2=true;rw [g5]
     ·show (aD (bX n.2.2.2.2.2.2.2.2.2)).2=true;rw [g6]
theorem anA {s:ByteArray}(h:(bz s).2=true→False):bz s=(nz,false):=by
 cases h1:(bz s).2 with
 |true=>exact (h h1).elim
 |false=>exact Prod.ext (WY h1) h1
theorem apa {s:ByteArray}(h1:(!(bq s).2)=false) (h2:decide (((bq s).1.length:Int)≠7)=false) (h4:decide (aC (mS (bq s).1)≠s)=false):bz s=(mS (bq s).1,true):=by
 cases h3: !(cy (mS (bq s).1)) with
 |false=>exact yv h1 h2 h3 h4
 |true=>
  have e:aC (mS (bq s).1)=s:=Classical.not_not.1 (aA h4)
  have e2:s=⟨#[]⟩:=by rw [←e];unfold aC;rw [xm h3];rfl
  subst e2
  exact absurd h2 (by decide+kernel)
def aq4 (l:List ByteArray) (n:Nat):List SV:=[.int (bif Nat.blt 0 n then (aD (nth ab l 0)).1 else 0),.int (bif Nat.blt 1 n then (aD (nth ab l 1)).1 else 0),.int (bif Nat.blt 2 n then (aD (nth ab l 2)).1 else 0),.int 0,.int 0,.int 0,.int 0,.int 0,.int 0,.int 0]
def anG (s:ByteArray):Prop:=s.size≤1000000
def amX (s:ByteArray):AV:=.t [ndA (bz s).1,.s (.q (bz s).2)]
def apz (s:ByteArray):List AV:=[]
def apS:cn where
 A:=[.s .str]
 B:=[]
 pre:=λx b=>anG x
 r:=λx b _=>amX x
 o:=λx b _=>apz x
theorem apP:Has Tryz.prog 119 apS:=by
 refine Has.zB zT zF zF (l:=[(163,am3),(164,iT),(165,anf),(52,ana)]) ⟨an4,MG,ao0,aoK,aa⟩ Tryz.func119 ?_
 rintro (s:ByteArray) _ (hp:anG s)
 show vc _ _ _ _ (entry [.str s] []) _
 unfold anG at hp
 have dj:∀k,(nth ab (bq s).1 k).size≤1000000:=λk=>by
  by_cases h:k<(bq s).1.length
  ·exact ZB0 (K4 _ (bR (ek:=ab) h)) hp
  ·unfold nth;rw [ZD8 (by omega)];exact ZA7 _
 refine⟨⟨tv2,?_⟩,λx1 w2=>⟨aa,λw3=>?_,λw4=>⟨λw5=>?_,λw6=>?_⟩⟩⟩
 all_goals first|refine aw ?_|refine ax ?_|exact a8|(dsimp only [am3,am1,iT,gw,anf,am9,ana,am5];omega)|exact a7|skip
 ·refine⟨[],[],_,_,_,ζ,az,(),aa,?_,?_,ζ⟩
  ·(show _=amX s);unfold amX;first|(rw [yu w3];rfl)|rfl
  ·rfl
 ·refine⟨[],[],_,_,_,ζ,az,(),aa,?_,?_,ζ⟩
  ·(show _=amX s);unfold amX;first|(rw [tC w5];rfl)|rfl
  ·rfl
 ·have hfy:(!(bq s).2)=false:=w4
  have hf7:=w6
  have hl7:(bq s).1.length=7:=by have:=Classical.not_not.1 (aA w6);omega
  have cO:∀n,(∀j,j<n→(aD (nth ab (bq s).1 j)).2=true)→(!(aD (nth ab (bq s).1 n)).2)=false→∀j,j<n+1→(aD (nth ab (bq s).1 j)).2=true:=λn h h2 j hj=>by
   by_cases hjn:j=n
   ·rw [hjn];exact cL h2
   ·exact h j (by omega)
  have hnt:∀k,k<3→nth ab (List.take 3 (List.drop 3 (bq s).1)) k=nth ab (bq s).1 (3+k):=λk hk=>by
   unfold nth;rw [List.getElem?_take_of_lt hk,List.getElem?_drop]
  have aqZ:nth ab (List.take 3 (List.drop 3 (bq s).1)) 0=nth ab (bq s).1 3:=hnt 0 (by omega)
  have aqY:nth ab (List.take 3 (List.drop 3 (bq s).1)) 1=nth ab (bq s).1 4:=hnt 1 (by omega)
  have aqX:nth ab (List.take 3 (List.drop 3 (bq s).1)) 2=nth ab (bq s).1 5:=hnt 2 (by omega)
  have aq7:∀k,(nth ab (List.take 3 (List.drop 3 (bq s).1)) k).size≤1000000:=λk=>by
   by_cases hk:k<3
   ·rw [hnt k hk];exact dj _
   ·unfold nth;rw [ZD8 (by rw [ZB9];omega)];exact ZA7 _
  have uy:mS (bq s).1=((aD (nth ab (bq s).1 0)).1,(aD (nth ab (bq s).1 1)).1,(aD (nth ab (bq s).1 2)).1,(bP (nth ab (List.take 3 (List.drop 3 (bq s).1)) 0)).1.1,(bP (nth ab (List.take 3 (List.drop 3 (bq s).1)) 0)).1.2.1,(bP (nth ab (List.take 3 (List.drop 3 (bq s).1)) 0)).1.2.2.1,(bP (nth ab (List.take 3 (List.drop 3 (bq s).1)) 0)).1.2.2.2.1,(bP (nth ab (List.take 3 (List.drop 3 (bq s).1)) 0)).1.2.2.2.2,(aD (nth ab (List.take 3 (List.drop 3 (bq s).1)) 1)).1,(aD (nth ab (List.take 3 (List.drop 3 (bq s).1)) 2)).1):=by rw [aqZ,aqY,aqX];rfl
  have h7:((bq s).1.length:Int)=7:=Classical.not_not.1 (aA w6)
  refine lW (l:=[(163,am3),(164,iT),(165,anf),(52,ana)]) (ex:=zT) (wr:=zF) (pt:=zF) ⟨an4,MG,ao0,aoK,trivial⟩ [.s 0,.s 2,.b 1002,.s 4,.s 6,.s 25,.b 1025,.s 26] (λn:Nat=>[(.s 27,.int n),(.b 1006,.a (aq4 (bq s).1 n))]) (λn=>n≤3∧∀j,j<n→(aD (nth ab (bq s).1 j)).2=true) (λn=>3-n) 0 [] ⟨ZA7 _,λj hj=>absurd hj (by omega)⟩ dM ?_
  rintro n ⟨(hn:n≤3),hk⟩
  have h6:n=0∨n=1∨n=2∨n=3:=by omega
  rcases h6 with rfl |rfl |rfl |rfl
  ·refine⟨λw1=>⟨⟨?_,?_⟩,⟨?_,?_⟩,⟨tv2,?_⟩,λx2 w3=>⟨λw4=>?_,λw5=>⟨⟨?_,?_⟩,?_⟩⟩⟩,λw6=>⟨⟨?_,?_,?_⟩,⟨tv2,?_,λx7=>?_⟩,λx8 w9=>⟨aa,λdy=>?_,λkA=>⟨⟨⟨tv11,aa⟩,aa⟩,λx12 iU=>⟨λgO=>?_,λqK=>?_⟩⟩⟩⟩⟩
   all_goals first|(exfalso;simp only [decide_eq_true_eq,decide_eq_false_iff_not] at *;omega)|refine aw ?_|refine ax ?_|exact a8|(dsimp only [am3,am1,iT,gw,anf,am9,ana,am5];omega)|exact a7|exact dj _|(show (0:Int)<((bq s).1.length:Int);omega)|skip
   ·have e:=anA (s:=s) (λh=>absurd ((xm w4).symm.trans (anl h).1) Bool.noConfusion)
    refine⟨[],[],_,_,_,ζ,az,(),aa,?_,?_,ζ⟩
    ·(show _=amX s);unfold amX;first|(rw [e];rfl)|rfl
    ·rfl
   ·refine⟨(1),[],?_,?_,?_⟩
    rotate_right
    ·exact bV
    ·exact⟨by omega,cO 0 hk w5⟩
    ·show 3-1<3-0;omega
  ·refine⟨λw1=>⟨⟨?_,?_⟩,⟨?_,?_⟩,⟨tv2,?_⟩,λx2 w3=>⟨λw4=>?_,λw5=>⟨⟨?_,?_⟩,?_⟩⟩⟩,λw6=>⟨⟨?_,?_,?_⟩,⟨tv2,?_,λx7=>?_⟩,λx8 w9=>⟨aa,λdy=>?_,λkA=>⟨⟨⟨tv11,aa⟩,aa⟩,λx12 iU=>⟨λgO=>?_,λqK=>?_⟩⟩⟩⟩⟩
   all_goals first|(exfalso;simp only [decide_eq_true_eq,decide_eq_false_iff_not] at *;omega)|refine aw ?_|refine ax ?_|exact a8|(dsimp only [am3,am1,iT,gw,anf,am9,ana,am5];omega)|exact a7|exact dj _|(show (1:Int)<((bq s).1.length:Int);omega)|skip
   ·have e:=anA (s:=s) (λh=>absurd ((xm w4).symm.trans (anl h).2.1) Bool.noConfusion)
    refine⟨[],[],_,_,_,ζ,az,(),aa,?_,?_,ζ⟩
    ·(show _=amX s);unfold amX;first|(rw [e];rfl)|rfl
    ·rfl
   ·refine⟨(2),[],?_,?_,?_⟩
    rotate_right
    ·exact bV
    ·exact⟨by omega,cO 1 hk w5⟩
    ·show 3-2<3-1;omega
  ·refine⟨λw1=>⟨⟨?_,?_⟩,⟨?_,?_⟩,⟨tv2,?_⟩,λx2 w3=>⟨λw4=>?_,λw5=>⟨⟨?_,?_⟩,?_⟩⟩⟩,λw6=>⟨⟨?_,?_,?_⟩,⟨tv2,?_,λx7=>?_⟩,λx8 w9=>⟨aa,λdy=>?_,λkA=>⟨⟨⟨tv11,aa⟩,aa⟩,λx12 iU=>⟨λgO=>?_,λqK=>?_⟩⟩⟩⟩⟩
   all_goals first|(exfalso;simp only [decide_eq_true_eq,decide_eq_false_iff_not] at *;omega)|refine aw ?_|refine ax ?_|exact a8|(dsimp only [am3,am1,iT,gw,anf,am9,ana,am5];omega)|exact a7|exact dj _|(show (2:Int)<((bq s).1.length:Int);omega)|skip
   ·have e:=anA (s:=s) (λh=>absurd ((xm w4).symm.trans (anl h).2.2.1) Bool.noConfusion)
    refine⟨[],[],_,_,_,ζ,az,(),aa,?_,?_,ζ⟩
    ·(show _=amX s);unfold amX;first|(rw [e];rfl)|rfl
    ·rfl
   ·refine⟨(3),[],?_,?_,?_⟩
    rotate_right
    ·exact bV
    ·exact⟨by omega,cO 2 hk w5⟩
    ·show 3-3<3-2;omega
  ·refine⟨λw1=>⟨⟨?_,?_⟩,?_⟩,λw2=>⟨⟨?_,?_,?_⟩,⟨tv2,?_,λx3=>?_⟩,λx4 w5=>⟨aa,λw6=>?_,λw7=>⟨⟨⟨tv11,aa⟩,aa⟩,λx8 w9=>⟨λdy=>?_,λkA=>?_⟩⟩⟩⟩⟩
   all_goals first|(exfalso;simp only [decide_eq_true_eq,decide_eq_false_iff_not] at *;omega)|refine aw ?_|refine ax ?_|exact a8|(dsimp only [am3,am1,iT,gw,anf,am9,ana,am5];omega)|exact a7|exact dj _|skip
   ·show (List.take 3 (List.drop 3 (bq s).1)).length=3
    rw [ZB9,ZC8];omega
   ·exact aq7 _
   ·have w6':(!((bP (nth ab (List.take 3 (List.drop 3 (bq s).1)) 0)).2&&(aD (nth ab (List.take 3 (List.drop 3 (bq s).1)) 1)).2&&(aD (nth ab (List.take 3 (List.drop 3 (bq s).1)) 2)).2))=true:=w6
    have e:=anA (s:=s) (λh=>by
     have hp:=anl h
     rw [aqZ,aqY,aqX,hp.2.2.2.1,hp.2.2.2.2.1,hp.2.2.2.2.2] at w6'
     cases w6')
    refine⟨[],[],_,_,_,ζ,az,(),aa,?_,?_,ζ⟩
    ·(show _=amX s);unfold amX;first|(rw [e];rfl)|rfl
    ·rfl
   ·have e:=yr (s:=s) (by rw [uy];exact dy)
    refine⟨[],[],_,_,_,ζ,az,(),aa,?_,?_,ζ⟩
    ·(show _=amX s);unfold amX;first|(rw [e];rfl)|rfl
    ·rfl
   ·have e:=(apa (s:=s) hfy hf7 (by rw [uy];exact kA)).trans (congrArg (λx=>(x,true)) uy)
    refine⟨[],[],_,_,_,ζ,az,(),aa,?_,?_,ζ⟩
    ·(show _=amX s);unfold amX;first|(rw [e];rfl)|rfl
    ·rfl
end
end GL
namespace GL
noncomputable section
def anJ (c:List Int):Prop:=akb c
def aor (c:List Int) (z:ay×bf):Prop:=(z.1.gone.length≤20001∧z.1.dead.length≤20001)∧-1≤z.2.2.2.2.2.2.2∧z.2.2.2.2.2.2.2≤18
def aoq (c:List Int) (z:ay×bf):AV:=.t [.a [.vw ab z.1.rows,.vw ag z.1.refs,.vw ag z.1.last,.int z.1.cg,.vw ae z.1.gone,.int z.1.bZ,.vw ae z.1.dead,.q z.1.same],trA z.2]
def aoD (c:List Int) (z:ay×bf):List AV:=[]
def aoY:cn where
 A:=[.s (.vw mf)]
 B:=[]
 pre:=λx b=>anJ x
 α:=λ_ _=>ay×bf
 φ:=λx b z=>aor x z
 r:=λx b z=>aoq x z
 o:=λx b z=>aoD x z
theorem aqp:Has Tryz.prog 13 aoY:=by
 refine Has.fm zT zF zF (l:=[(28,afg),(43,anx)]) ⟨ai5,aoI,aa⟩ Tryz.func13 ?_
 rintro (c:List Int) _ (hp:anJ c)
 show vc _ _ _ _ (entry [.s (.vw mf c)] []) _
 have hb:akb c:=hp
 refine⟨⟨tv2,?_⟩,λx1 w2=>⟨⟨tv2,?_⟩,λx3 w4=>⟨[.s 5,.b 1005],Sq14,ζ,[.s 6,.b 1006],Sq15,ζ,[.s 2,.s 14,.b 1002],[.b 1002],ζ,[.s 3,.s 15,.b 1003],[.b 1003],ζ,?_⟩⟩⟩
 all_goals first|refine aw ?_|refine ax ?_|exact a8|(dsimp only [afg,G7,anx,anr];omega)|exact a7|exact hb|exact Rdr.at (show Rdr (x1,0) 0 from w2) (ZC1 _) (by decide)|(show x3.2.2.1+(x3.1.rows.length-x3.2.2.1)≤x3.1.rows.length;have h:x3.2.2.1≤x3.1.rows.length:=w4.2.2.1;omega)|skip
 ·have hg:x3.1.gone.length≤20001:=w4.1.1
  have hd:x3.1.dead.length≤20001:=w4.1.2
  have ho:x3.2.2.1+(x3.1.rows.length-x3.2.2.1)≤x3.1.rows.length:=by have h:x3.2.2.1≤x3.1.rows.length:=w4.2.2.1;omega
  refine⟨[],[],_,_,_,ζ,(by repeat' (first|exact trivial|apply And.intro|exact ZA8 (ZA6 _)|assumption|(simp only [ZA2,ZA3,dC,lx,ZA0,ZA1,ZA4];omega))),(((List.drop x3.2.2.1 x3.1.rows).take (x3.1.rows.length-x3.2.2.1),(List.drop 0 x3.1.refs).take (List.length x3.1.refs),(List.drop 0 x3.1.last).take (List.length x3.1.last),x3.1.cg,(List.drop 0 x3.1.gone).take (List.length x3.1.gone),x3.1.bZ,(List.drop 0 x3.1.dead).take (List.length x3.1.dead),x3.1.same),x3.2.1),⟨⟨by show (((List.drop 0 x3.1.gone).take (List.length x3.1.gone)).length)≤20001;rw [ZB9];exact ZB0 (Nat.min_le_left _ _) hg,by show (((List.drop 0 x3.1.dead).take (List.length x3.1.dead)).length)≤20001;rw [ZB9];exact ZB0 (Nat.min_le_left _ _) hd⟩,w4.2.2.2⟩,ζ,ζ,ζ⟩
def am7 (c:List Int):Prop:=akb c
def an1 (c:List Int) (z:ay×bf):Prop:=(z.1.gone.length≤20001∧z.1.dead.length≤20001)∧-1≤z.2.2.2.2.2.2.2∧z.2.2.2.2.2.2.2≤18
def anY (c:List Int) (z:ay×bf):AV:=.t [.a [.vw ab z.1.rows,.vw ag z.1.refs,.vw ag z.1.last,.int z.1.cg,.vw ae z.1.gone,.int z.1.bZ,.vw ae z.1.dead,.q z.1.same],trA z.2]
def aoe (c:List Int) (z:ay×bf):List AV:=[]
def am6:cn where
 A:=[.s (.vw mf)]
 B:=[]
 pre:=λx b=>am7 x
 α:=λ_ _=>ay×bf
 φ:=λx b z=>an1 x z
 r:=λx b z=>anY x z
 o:=λx b z=>aoe x z
theorem anK:Has Tryz.prog 18 am6:=by
 refine Has.fm zT zF zF (l:=[(28,afg),(43,anx)]) ⟨ai5,aoI,aa⟩ Tryz.func18 ?_
 rintro (c:List Int) _ (hp:am7 c)
 show vc _ _ _ _ (entry [.s (.vw mf c)] []) _
 have hb:akb c:=hp
 refine⟨⟨tv2,?_⟩,λx1 w2=>⟨⟨tv2,?_⟩,λx3 w4=>⟨[.s 5,.b 1005],Sq14,ζ,[.s 6,.b 1006],Sq15,ζ,[.s 2,.s 14,.b 1002],[.b 1002],ζ,[.s 3,.s 15,.b 1003],[.b 1003],ζ,?_⟩⟩⟩
 all_goals first|refine aw ?_|refine ax ?_|exact a8|(dsimp only [afg,G7,anx,anr];omega)|exact a7|exact hb|exact Rdr.at (show Rdr (x1,0) 0 from w2) (ZC1 _) (by decide)|(show x3.2.2.1+(x3.1.rows.length-x3.2.2.1)≤x3.1.rows.length;have h:x3.2.2.1≤x3.1.rows.length:=w4.2.2.1;omega)|skip
 ·have hg:x3.1.gone.length≤20001:=w4.1.1
  have hd:x3.1.dead.length≤20001:=w4.1.2
  have ho:x3.2.2.1+(x3.1.rows.length-x3.2.2.1)≤x3.1.rows.length:=by have h:x3.2.2.1≤x3.1.rows.length:=w4.2.2.1;omega
  refine⟨[],[],_,_,_,ζ,(by repeat' (first|exact trivial|apply And.intro|exact ZA8 (ZA6 _)|assumption|(simp only [ZA2,ZA3,dC,lx,ZA0,ZA1,ZA4];omega))),(((List.drop x3.2.2.1 x3.1.rows).take (x3.1.rows.length-x3.2.2.1),(List.drop 0 x3.1.refs).take (List.length x3.1.refs),(List.drop 0 x3.1.last).take (List.length x3.1.last),x3.1.cg,(List.drop 0 x3.1.gone).take (List.length x3.1.gone),x3.1.bZ,(List.drop 0 x3.1.dead).take (List.length x3.1.dead),x3.1.same),x3.2.1),⟨⟨by show (((List.drop 0 x3.1.gone).take (List.length x3.1.gone)).length)≤20001;rw [ZB9];exact ZB0 (Nat.min_le_left _ _) hg,by show (((List.drop 0 x3.1.dead).take (List.length x3.1.dead)).length)≤20001;rw [ZB9];exact ZB0 (Nat.min_le_left _ _) hd⟩,w4.2.2.2⟩,ζ,ζ,ζ⟩
end
end GL
namespace GL
open Go.RowKit
theorem aot (W:World) (A B:Obj):((W.alloc A).alloc B).heap[W.heap.size]?=some A∧W.heap.size<((W.alloc A).alloc B).heap.size:=by
 have h1:W.heap.size<(W.alloc A).heap.size:=by show _<(W.heap.push A).size;rw [Array.size_push];omega
 have h2:(W.alloc A).heap.size<((W.alloc A).alloc B).heap.size:=by show _<((W.alloc A).heap.push B).size;rw [Array.size_push];omega
 exact⟨(heap_alloc_old (W.alloc A) B h1).trans (heap_alloc_new W A),by omega⟩
theorem ap0 (W:World) (s0 s1 s2 amF amG amH amI amJ t0 t1 t2 t3 t4 t5 t6:Value) (sok nok:Bool) (n:Nat) (X:Nat→Option fu)
   (hSO:∀w,Below W.heap.size W w→Calls Tryz.prog 65 #[.agg #[s0,s1,s2,amF,amG,amH,amI,amJ]] w λe w'=>e= .returned (.bool sok)∧Below w.heap.size w w')
   (hND:∀w b,sok=true→Below W.heap.size W w→W.heap.size≤b→w.heap[b]?=some (.cells #[s0,s1,s2,amF,amG,amH,amI,amJ] 29 (0,0))→Calls Tryz.prog 78 #[.pointer (some ⟨b,0,none⟩),.agg #[t0,t1,t2,t3,t4,t5,t6]] w λe w'=>∃v,e= .returned (.tuple #[v,.bool nok])∧Below w.heap.size w w'∧(nok=true→anu w' v n X)):
   Calls Tryz.prog 44 #[.agg #[s0,s1,s2,amF,amG,amH,amI,amJ],.agg #[t0,t1,t2,t3,t4,t5,t6]] W λe w'=>∃v,e= .returned (.tuple #[v,.bool (sok&&nok)])∧Below W.heap.size W w'∧((sok&&nok)=true→anu w' v n X):=by
 go_enter Tryz.func44,Tryz.ntmps44
 have b0:Below W.heap.size W (W.alloc (.cells #[s0,s1,s2,amF,amG,amH,amI,amJ] 29)):=(Below.refl _ W).alloc (ZB5 _) _
 have b1:Below W.heap.size W ((W.alloc (.cells #[s0,s1,s2,amF,amG,amH,amI,amJ] 29)).alloc (.cells #[t0,t1,t2,t3,t4,t5,t6] 33)):=b0.alloc b0.size _
 go_wp2_with (go_at_call 65;refine (hSO _ b1).mono ?_)
 rintro e w1 ⟨rfl,c1⟩
 have b2:Below W.heap.size W w1:=b1.trans (c1.mono b1.size)
 cases sok with
 |false=>
  go_wp2
  go_ret2
  exact⟨_,rfl,b2,λh=>by cases h⟩
 |true=>
  have hst:w1.heap[W.heap.size]?=some (.cells #[s0,s1,s2,amF,amG,amH,amI,amJ] 29 (0,0)):=by
   rw [c1.block _ (aot _ _ _).2];exact (aot _ _ _).1
  have sS:w1.heap[(W.alloc (.cells #[s0,s1,s2,amF,amG,amH,amI,amJ] 29)).heap.size]?=some (Obj.cells #[t0,t1,t2,t3,t4,t5,t6] 33 (0,0)):=by
   rw [c1.block _ (by show _<((W.alloc _).heap.push _).size;rw [Array.size_push];omega)];exact heap_alloc_new _ _
  have dj:(W.alloc (.cells #[s0,s1,s2,amF,amG,amH,amI,amJ] 29)).heap.size=W.heap.size+1:=by show (W.heap.push _).size=_;rw [Array.size_push]
  rw [dj] at sS
  have f0:w1.cell? ⟨W.heap.size+1,0,none⟩=some t0:=by rw [rr sS];rfl
  have f1:w1.cell? ⟨W.heap.size+1,1,none⟩=some t1:=by rw [rr sS];rfl
  have f2:w1.cell? ⟨W.heap.size+1,2,none⟩=some t2:=by rw [rr sS];rfl
  have f3:w1.cell? ⟨W.heap.size+1,3,none⟩=some t3:=by rw [rr sS];rfl
  have f4:w1.cell? ⟨W.heap.size+1,4,none⟩=some t4:=by rw [rr sS];rfl
  have f5:w1.cell? ⟨W.heap.size+1,5,none⟩=some t5:=by rw [rr sS];rfl
  have f6:w1.cell? ⟨W.heap.size+1,6,none⟩=some t6:=by rw [rr sS];rfl
  go_wp2_with (go_at_call 78;refine (hND w1 W.heap.size (by simp) b2 (ZB5 _) hst).mono ?_)
  rintro e w2 ⟨v,rfl,c2,hv⟩
  go_wp2
  go_ret2
  exact⟨_,by cases nok<;>rfl,b2.trans (c2.mono b2.size),λh=>hv (by cases nok with |true=>rfl |false=>cases h)⟩
def atO (n:Nat) (X:Nat→Option fu) (k:Int):fu×Bool:=bif ik k 0 ((n:Int)-1) then (match X k.toNat with |some m=>(m,true) |none=>(nz,false)) else (nz,false)
theorem aqA {n:Nat}{X:Nat→Option fu}{k:Int}(h:ik k 0 ((n:Int)-1)=false):atO n X k=(nz,false):=by unfold atO;rw [h];rfl
theorem aqn {n:Nat}{X:Nat→Option fu}{k:Int}(h:X k.toNat=none):atO n X k=(nz,false):=by unfold atO;rw [h];cases ik k 0 ((n:Int)-1)<;>rfl
theorem aqm {n:Nat}{X:Nat→Option fu}{k:Int}{m:fu}(hi:ik k 0 ((n:Int)-1)=true) (h:X k.toNat=some m):atO n X k=(m,true):=by unfold atO;rw [hi,h];rfl
theorem anD {w:World}{b:Nat}{n:fu}(h:w.heap[b]?=some (Obj.cells (am0 n) 49 (0,0))):
  w.cell? ⟨b,0,none⟩=some (.int .i64 n.1)∧w.cell? ⟨b,1,none⟩=some (.int .i64 n.2.1)∧w.cell? ⟨b,2,none⟩=some (.int .i64 n.2.2.1)∧w.cell? ⟨b,3,none⟩=some (.int .i64 n.2.2.2.1)∧w.cell? ⟨b,4,none⟩=some (.int .i64 n.2.2.2.2.1)∧
  w.cell? ⟨b,5,none⟩=some (.int .i64 n.2.2.2.2.2.1)∧w.cell? ⟨b,6,none⟩=some (.int .i64 n.2.2.2.2.2.2.1)∧w.cell? ⟨b,7,none⟩=some (.int .i64 n.2.2.2.2.2.2.2.1)∧w.cell? ⟨b,8,none⟩=some (.int .i64 n.2.2.2.2.2.2.2.2.1)∧w.cell? ⟨b,9,none⟩=some (.int .i64 n.2.2.2.2.2.2.2.2.2):=
 ⟨rr h 0,rr h 1,rr h 2,rr h 3,rr h 4,rr h 5,rr h 6,rr h 7,rr h 8,rr h 9⟩
theorem anE {B b:Nat}{w w':World}(h:Below B w w') (hb:B≤b) (cs:Array Value):Below B w (w'.setRow b cs) where
 os:=h.os
 tape:=h.tape
 output:=h.output
 size:=by
  show w.heap.size≤(World.setRow w' b cs).heap.size
  unfold World.setRow
  simpa using h.size
 block:=λk hk=>(setRow_other w' b k cs (by omega)).trans (h.block k hk)
theorem aoE (w:World) (v:Value) (n:Nat) (X:Nat→Option fu) (k:Int) (hN:anu w v n X) (hn:n≤16)
   (hWI:∀w1 (a b c:Int),Below w.heap.size w w1→Calls Tryz.prog 32 #[.int .i64 a,.int .i64 b,.int .i64 c] w1 λe w'=>e= .returned (.bool (ik a b c))∧Below w1.heap.size w1 w'):
   Calls Tryz.prog 49 #[v,.int .i64 k] w λe w'=>e= .returned (.tuple #[ndV (atO n X k).1,.bool (atO n X k).2])∧Below w.heap.size w w':=by
 obtain⟨B,rfl,f,hf,_,hX⟩:=hN
 have hB:B<w.heap.size:=by obtain⟨c,hc,_⟩:=hf;exact anQ hc
 go_enter Tryz.func49,Tryz.ntmps49
 have b0:Below w.heap.size w (w.alloc (.cells (am0 nz) 49)):=(Below.refl _ w).alloc (ZB5 _) _
 have vE:∀w1,Below (w.alloc (.cells (am0 nz) 49)).heap.size (w.alloc (.cells (am0 nz) 49)) w1→w1.heap[w.heap.size]?=some (Obj.cells (am0 nz) 49 (0,0)):=λw1 c1=>(c1.block _ (by show _<(w.heap.push _).size;rw [Array.size_push];omega)).trans (heap_alloc_new w _)
 go_wp2_with (go_at_call 32;refine (hWI _ _ _ _ b0).mono ?_)
 rintro e w1 ⟨rfl,c1⟩
 have b1:Below w.heap.size w w1:=b0.trans (c1.mono b0.size)
 have hbx:=vE w1 c1
 have hW:(w1.setRow w.heap.size (am0 nz)).heap[w.heap.size]?=some (Obj.cells (am0 nz) 49 (0,0)):=setRow_heap _ _ (am0 nz) _ 49 (0,0) hbx
 cases hi:ik k 0 ((n:Int)-1) with
 |false=>
  go_wp2_with (refine wpList_store_row rfl _ _ _ rfl w.heap.size (am0 nz) rfl rfl 49 (am0 nz) hbx (by kernel_rfl) rfl (by simp [am0,Value.oneCell']) ?_)
  obtain⟨f0,f1,f2,f3,f4,f5,f6,f7,f8,f9⟩:=anD hW
  (try simp only [Exit.inBlock,Exit.then])
  refine bodyPost_ret (v:=.tuple #[ndV nz,.bool false]) ?_ rfl ?_
  ·rw [results_cell_tmp rfl]
   go_simp
  ·rw [aqA hi]
   exact⟨rfl,anE b1 (ZB5 _) _⟩
 |true=>
  have hb:0≤k∧k≤(n:Int)-1:=by simpa [ik] using hi
  obtain⟨j,rfl⟩:∃j:Nat,k=(j:Int):=⟨k.toNat,by omega⟩
  have hj:j<n:=by omega
  have agU:w1.cell? ⟨B,j,none⟩=some (f j):=(b1.cell (p:=⟨B,j,none⟩) hB).trans (hf.cell hj)
  have hXj:=hX j hj
  cases hx:X j with
  |none=>
   rw [hx] at hXj
   have hfj:f j= .pointer none:=hXj
   rw [hfj] at agU
   go_wp2_with (refine wpList_store_row rfl _ _ _ rfl w.heap.size (am0 nz) rfl rfl 49 (am0 nz) hbx (by kernel_rfl) rfl (by simp [am0,Value.oneCell']) ?_)
   obtain⟨f0,f1,f2,f3,f4,f5,f6,f7,f8,f9⟩:=anD hW
   (try simp only [Exit.inBlock,Exit.then])
   refine bodyPost_ret (v:=.tuple #[ndV nz,.bool false]) ?_ rfl ?_
   ·rw [results_cell_tmp rfl]
    go_simp
   ·rw [aqn (by rw [ZA5];exact hx)]
    exact⟨rfl,anE b1 (ZB5 _) _⟩
  |some m=>
   rw [hx] at hXj
   obtain⟨b,hfj,hbm⟩:=hXj
   rw [hfj] at agU
   have arc:w1.heap[b]?=some (Obj.cells (am0 m) 49 (0,0)):=(b1.block b (anQ hbm)).trans hbm
   obtain⟨g0,g1,g2,g3,g4,g5,g6,g7,g8,g9⟩:=anD arc
   have hWm:(w1.setRow w.heap.size (am0 m)).heap[w.heap.size]?=some (Obj.cells (am0 m) 49 (0,0)):=setRow_heap _ _ (am0 nz) _ 49 (0,0) hbx
   go_wp2_with (refine wpList_store_row rfl _ _ _ rfl w.heap.size (am0 m) rfl rfl 49 (am0 nz) hbx (by kernel_rfl) rfl (by simp [am0,Value.oneCell']) ?_)
   obtain⟨f0,f1,f2,f3,f4,f5,f6,f7,f8,f9⟩:=anD hWm
   (try simp only [Exit.inBlock,Exit.then])
   refine bodyPost_ret (v:=.tuple #[ndV m,.bool true]) ?_ rfl ?_
   ·rw [results_cell_tmp rfl]
    go_simp
   ·rw [aqm hi (by rw [ZA5];exact hx)]
    exact⟨rfl,anE b1 (ZB5 _) _⟩
theorem anu.later {w w':World}{v:Value}{n:Nat}{X:Nat→Option fu}(h:anu w v n X) (hb:Below w.heap.size w w'):anu w' v n X:=by
 obtain⟨B,h1,h2⟩:=h
 exact⟨B,h1,h2.grow hb⟩
def ani (n:Nat) (X:Nat→Option fu):Nat→Nat→Int
 |0,_=> -1
 |f+1,k=>bif (atO n X (k:Int)).2 then ani n X f (k+1) else (k:Int)
theorem anF (W:World) (o:Obj):(W.alloc o).heap.size=W.heap.size+1:=by show (W.heap.push o).size=_;rw [Array.size_push]
theorem apg (w:World) (v:Value) (n:Nat) (X:Nat→Option fu) (hN:anu w v n X) (hn:n≤16)
   (hWI:∀w1 (a b c:Int),Below w.heap.size w w1→Calls Tryz.prog 32 #[.int .i64 a,.int .i64 b,.int .i64 c] w1 λe w'=>e= .returned (.bool (ik a b c))∧Below w1.heap.size w1 w'):
   Calls Tryz.prog 47 #[v] w λe w'=>e= .returned (.int .i64 (ani n X 16 0))∧Below w.heap.size w w':=by
 have hNA:=λw1 (b:Below w.heap.size w w1) k=>aoE w1 v n X k (hN.later b) hn (λw2 a b' c c2=>hWI w2 a b' c (b.trans (c2.mono b.size)))
 go_enter Tryz.func47,Tryz.ntmps47
 go_wp2
 go_loopw [6] (λi wr=>∃k:Nat,k≤16∧i= .int .i64 k∧Below w.heap.size w wr∧ani n X (16-k) k=ani n X 16 0) (λi _=>16-(intOf i).toNat)
 case atStart=>exact⟨0,ZA7 _,rfl,Below.refl _ _,rfl⟩
 case round=>
  obtain⟨k,hk,rfl,hnx,hg⟩:=hrel
  by_cases bU:k<16
  ·rw [show 16-k=(16-(k+1))+1 by omega,ani] at hg
   go_wp2_with (go_at_call 49;refine (hNA wr hnx k).mono ?_)
   rintro e w1 ⟨rfl,c1⟩
   have b1:Below w.heap.size w w1:=hnx.trans (c1.mono hnx.size)
   have b2:Below w.heap.size w (w1.alloc (.cells (am0 nz) 49)):=b1.alloc b1.size _
   have b3:∀cs,Below w.heap.size w ((w1.alloc (.cells (am0 nz) 49)).setRow w1.heap.size cs):=λcs=>anE b2 b1.size cs
   have hbx:(w1.alloc (.cells (am0 nz) 49)).heap[w1.heap.size]?=some (Obj.cells (am0 nz) 49 (0,0)):=heap_alloc_new w1 _
   cases hv:(atO n X (k:Int)).2 with
   |true=>
    rw [hv,cond_true] at hg
    go_wp2_with (refine wpList_store_row rfl _ _ _ rfl w1.heap.size (am0 (atO n X (k:Int)).1) rfl rfl 49 (am0 nz) hbx (by kernel_rfl) rfl (by simp [am0,Value.oneCell']) ?_)
    refine⟨⟨k+1,bU,ζ,b3 _,hg⟩,?_⟩
    show 16-((k:Int)+1).toNat<16-((k:Int)).toNat
    omega
   |false=>
    rw [hv,cond_false] at hg
    go_wp2_with (refine wpList_store_row rfl _ _ _ rfl w1.heap.size (am0 (atO n X (k:Int)).1) rfl rfl 49 (am0 nz) hbx (by kernel_rfl) rfl (by simp [am0,Value.oneCell']) ?_)
    go_ret
    exact⟨by rw [←hg];rfl,by first|exact b3 _|exact b1.alloc b1.size _⟩
  ·have hkk:k=16:=by omega
   subst hkk
   go_wp2
   go_ret
   exact⟨by rw [←hg];rfl,hnx⟩
section
variable (W:World) (s0 s1 s2 amF amG amH amI amJ t0 t1 t2 t3 t4 t5 t6:Value) (ok:Bool) (n:Nat) (X:Nat→Option fu)
def apm:Prop:=∀w,Below W.heap.size W w→Calls Tryz.prog 44 #[.agg #[s0,s1,s2,amF,amG,amH,amI,amJ],.agg #[t0,t1,t2,t3,t4,t5,t6]] w λe w'=>∃v,e= .returned (.tuple #[v,.bool ok])∧Below w.heap.size w w'∧(ok=true→anu w' v n X)
def apk:Prop:=∀w1 (a b c:Int),Below W.heap.size W w1→Calls Tryz.prog 32 #[.int .i64 a,.int .i64 b,.int .i64 c] w1 λe w'=>e= .returned (.bool (ik a b c))∧Below w1.heap.size w1 w'
theorem aoO (hn:ok=true→n≤16) (hT:apm W s0 s1 s2 amF amG amH amI amJ t0 t1 t2 t3 t4 t5 t6 ok n X) (hWI:apk W):Calls Tryz.prog 17 #[.agg #[s0,s1,s2,amF,amG,amH,amI,amJ],.agg #[t0,t1,t2,t3,t4,t5,t6]] W λe w'=>e= .returned (.int .i64 (bif ok then ani n X 16 0 else -1))∧Below W.heap.size W w':=by
 go_enter Tryz.func17,Tryz.ntmps17
 have b0:Below W.heap.size W (W.alloc (.cells #[s0,s1,s2,amF,amG,amH,amI,amJ] 29)):=(Below.refl _ W).alloc (ZB5 _) _
 have b1:Below W.heap.size W ((W.alloc (.cells #[s0,s1,s2,amF,amG,amH,amI,amJ] 29)).alloc (.cells #[t0,t1,t2,t3,t4,t5,t6] 33)):=b0.alloc b0.size _
 go_wp2_with (go_at_call 44;refine (hT _ b1).mono ?_)
 rintro e w1 ⟨v,rfl,c1,hN⟩
 have b2:Below W.heap.size W w1:=b1.trans (c1.mono b1.size)
 cases ok with
 |false=>
  go_wp2
  go_ret
  exact⟨rfl,b2⟩
 |true=>
  have hNt:=hN rfl
  have hnt:=hn rfl
  clear hN hn
  go_wp2_with (go_at_call 47;refine (apg w1 v n X hNt hnt λw2 a b c c2=>hWI w2 a b c (b2.trans (c2.mono b2.size))).mono ?_)
  rintro e w2 ⟨rfl,c2⟩
  go_wp2
  go_ret
  exact⟨rfl,b2.trans (c2.mono b2.size)⟩
theorem ao3 (k:Int) (hn:ok=true→n≤16) (hT:apm W s0 s1 s2 amF amG amH amI amJ t0 t1 t2 t3 t4 t5 t6 ok n X) (hWI:apk W):Calls Tryz.prog 20 #[.agg #[s0,s1,s2,amF,amG,amH,amI,amJ],.agg #[t0,t1,t2,t3,t4,t5,t6],.int .i64 k] W λe w'=>e= .returned (.tuple #[ndV (bif ok then atO n X k else (nz,false)).1,.bool (bif ok then atO n X k else (nz,false)).2])∧Below W.heap.size W w':=by
 go_enter Tryz.func20,Tryz.ntmps20
 have b0:Below W.heap.size W (W.alloc (.cells #[s0,s1,s2,amF,amG,amH,amI,amJ] 29)):=(Below.refl _ W).alloc (ZB5 _) _
 have b1:Below W.heap.size W ((W.alloc (.cells #[s0,s1,s2,amF,amG,amH,amI,amJ] 29)).alloc (.cells #[t0,t1,t2,t3,t4,t5,t6] 33)):=b0.alloc b0.size _
 have b2:Below W.heap.size W (((W.alloc (.cells #[s0,s1,s2,amF,amG,amH,amI,amJ] 29)).alloc (.cells #[t0,t1,t2,t3,t4,t5,t6] 33)).alloc (.cells (am0 nz) 49)):=b1.alloc b1.size _
 have vE:∀w1,Below (((W.alloc (.cells #[s0,s1,s2,amF,amG,amH,amI,amJ] 29)).alloc (.cells #[t0,t1,t2,t3,t4,t5,t6] 33)).alloc (.cells (am0 nz) 49)).heap.size (((W.alloc (.cells #[s0,s1,s2,amF,amG,amH,amI,amJ] 29)).alloc (.cells #[t0,t1,t2,t3,t4,t5,t6] 33)).alloc (.cells (am0 nz) 49)) w1→w1.heap[W.heap.size+1+1]?=some (Obj.cells (am0 nz) 49 (0,0)):=λw1 c1=>by
  have h0:=heap_alloc_new ((W.alloc (.cells #[s0,s1,s2,amF,amG,amH,amI,amJ] 29)).alloc (.cells #[t0,t1,t2,t3,t4,t5,t6] 33)) (.cells (am0 nz) 49)
  rw [anF,anF] at h0
  exact (c1.block _ (by rw [anF,anF,anF];omega)).trans h0
 go_wp2_with (go_at_call 44;refine (hT _ b2).mono ?_)
 rintro e w1 ⟨v,rfl,c1,hN⟩
 have b3:Below W.heap.size W w1:=b2.trans (c1.mono b2.size)
 have hbx:=vE w1 c1
 have bU:W.heap.size+1+1<w1.heap.size:=anQ hbx
 cases ok with
 |false=>
  have hW:(w1.setRow (W.heap.size+1+1) (am0 nz)).heap[W.heap.size+1+1]?=some (Obj.cells (am0 nz) 49 (0,0)):=setRow_heap _ _ (am0 nz) _ 49 (0,0) hbx
  go_wp2_with (refine wpList_store_row rfl _ _ _ rfl (W.heap.size+1+1) (am0 nz) rfl rfl 49 (am0 nz) hbx (by kernel_rfl) rfl (by simp [am0,Value.oneCell']) ?_)
  obtain⟨f0,f1,f2,f3,f4,f5,f6,f7,f8,f9⟩:=anD hW
  (try simp only [Exit.inBlock,Exit.then])
  refine bodyPost_ret (v:=.tuple #[ndV nz,.bool false]) ?_ rfl ?_
  ·rw [results_cell_tmp rfl]
   go_simp
  ·exact⟨rfl,anE b3 (by omega) _⟩
 |true=>
  have hNt:=hN rfl
  have hnt:=hn rfl
  clear hN hn
  go_wp2_with (go_at_call 49;refine (aoE w1 v n X k hNt hnt λw2 a b c c2=>hWI w2 a b c (b3.trans (c2.mono b3.size))).mono ?_)
  rintro e w2 ⟨rfl,c2⟩
  have b4:Below W.heap.size W w2:=b3.trans (c2.mono b3.size)
  have aq1:w2.heap[W.heap.size+1+1]?=some (Obj.cells (am0 nz) 49 (0,0)):=(c2.block _ bU).trans hbx
  have hW:(w2.setRow (W.heap.size+1+1) (am0 (atO n X k).1)).heap[W.heap.size+1+1]?=some (Obj.cells (am0 (atO n X k).1) 49 (0,0)):=setRow_heap _ _ (am0 nz) _ 49 (0,0) aq1
  go_wp2_with (refine wpList_store_row rfl _ _ _ rfl (W.heap.size+1+1) (am0 (atO n X k).1) rfl rfl 49 (am0 nz) aq1 (by kernel_rfl) rfl (by simp [am0,Value.oneCell']) ?_)
  obtain⟨f0,f1,f2,f3,f4,f5,f6,f7,f8,f9⟩:=anD hW
  (try simp only [Exit.inBlock,Exit.then])
  refine bodyPost_ret (v:=.tuple #[ndV (atO n X k).1,.bool (atO n X k).2]) ?_ rfl ?_
  ·rw [results_cell_tmp rfl]
   go_simp
  ·exact⟨rfl,anE b4 (by omega) _⟩
end
end GL
namespace GL
abbrev txA (S:ay) (t:bf) (k:Nat):ByteArray:=nth ab (bo S t) k
def ndX (S:ay) (t:bf) (k:Nat):Option fu:=bif decide (txA S t k=⟨#[]⟩) then none else some (bz (txA S t k)).1
theorem aqa {s:ay}{X:List ByteArray}:∀{f k:Nat},k+f=X.length→aow (λk=>decide (nth ab X k=⟨#[]⟩)) (λk=>(bz (nth ab X k)).2) (λk=>qJ s (cT (bz (nth ab X k)).1)) f k=anh s (X.drop k)
 |0,k,h=>by rw [ZB3 (by omega)];rfl
 |f+1,k,h=>by
  rw [bW (ek:=ab) (show k<X.length by omega),aow,anh,aqa (f:=f) (k:=k+1) (by omega)]
theorem aox {s:ay}:∀{l:List ByteArray},anh s l=true→∀x∈l,x≠⟨#[]⟩→(bz x).2=true∧qJ s (cT (bz x).1)=true
 |y::l,h,x,hx,fA=>by
  rw [anh] at h
  cases h1:decide (y=⟨#[]⟩) with
  |true=>
   rw [h1,cond_true] at h
   rcases ZB8.1 hx with rfl |hx
   ·exact absurd (aJ h1) fA
   ·exact aox h x hx fA
  |false=>
   rw [h1,cond_false] at h
   cases h2:(bz y).2 with
   |false=>rw [h2] at h;cases h
   |true=>
    rw [h2,Bool.not_true,cond_false] at h
    cases h3:qJ s (cT (bz y).1) with
    |false=>rw [h3] at h;cases h
    |true=>
     rw [h3,Bool.not_true,cond_false] at h
     rcases ZB8.1 hx with rfl |hx
     ·exact⟨h2,h3⟩
     ·exact aox h x hx fA
section
variable {S:ay}{t:bf}
theorem ao4 (h:amZ S t=true):(bo S t).length=t.many.toNat∧0≤t.many∧t.many≤16:=by
 have h2:=(anR h).2.1
 exact⟨fq (anS h2),(apA h2).1⟩
theorem aqI (h:amZ S t=true) (k:Int):atO t.many.toNat (ndX S t) k=cK S t k:=by
 obtain⟨_,h2,h3⟩:=anR h
 obtain⟨hl,h0,h1⟩:=ao4 h
 have e:((t.many.toNat:Int)-1)=t.many-1:=by omega
 unfold atO
 rw [e]
 cases hi:ik k 0 (t.many-1) with
 |false=>rw [aet (by rw [hi];rfl)];rfl
 |true=>
  have hb:=cC.1 hi
  rw [aes (by rw [hi];rfl),cond_true,←xO (anS h2) (by omega)]
  unfold ndX txA
  cases hx:decide (nth ab (bo S t) k.toNat=⟨#[]⟩) with
  |true=>rw [aJ hx,fH];rfl
  |false=>
   have hg:=(aox h3 _ (bR (ek:=ab) (l:=bo S t) (k:=k.toNat) (by omega)) (aA hx)).1
   exact Prod.ext rfl hg.symm
theorem ard (h:amZ S t=true) (k:Nat):(atO t.many.toNat (ndX S t) (k:Int)).2= !(decide ((k:Int)≥((bo S t).length:Int))||decide (nth ab (bo S t) k=⟨#[]⟩)):=by
 obtain⟨hl,h0,h1⟩:=ao4 h
 unfold atO
 cases hi:ik (k:Int) 0 ((t.many.toNat:Int)-1) with
 |false=>
  have:decide ((k:Int)≥((bo S t).length:Int))=true:=by
   refine decide_eq_true ?_
   refine Decidable.byContradiction λhc=>?_
   rw [cC.2 ⟨by omega,by omega⟩] at hi;cases hi
  rw [this];rfl
 |true=>
  have hb:=cC.1 hi
  have:decide ((k:Int)≥((bo S t).length:Int))=false:=decide_eq_false (by omega)
  rw [this,cond_true,ZA5,Bool.false_or]
  unfold ndX txA
  cases hx:decide (nth ab (bo S t) k=⟨#[]⟩)<;>rfl
theorem apf (h:amZ S t=true):∀f k:Nat,ani t.many.toNat (ndX S t) f k=frF f (bo S t) k
 |0,_=>rfl
 |f+1,k=>by
  rw [ani,frF,ard h,apf h f (k+1)]
  cases (decide ((k:Int)≥((bo S t).length:Int))||decide (nth ab (bo S t) k=⟨#[]⟩))<;>rfl
theorem aqj (h:amZ S t=true) (h0:0≤xo S t):xo S t<16∧∀k:Nat,(k:Int)≤xo S t→(cK S t (k:Int)).2=decide ((k:Int)<xo S t):=by
 have key:∀f j:Nat,0≤ani t.many.toNat (ndX S t) f j→ani t.many.toNat (ndX S t) f j<((j+f:Nat):Int)∧∀k:Nat,j≤k→(k:Int)≤ani t.many.toNat (ndX S t) f j→(atO t.many.toNat (ndX S t) (k:Int)).2=decide ((k:Int)<ani t.many.toNat (ndX S t) f j):=by
  intro f
  induction f with
  |zero=>intro j h;exact absurd (show (0:Int)≤-1 from h) (by decide)
  |succ f ih=>
   intro j hj
   rw [ani] at hj ⊢
   cases ha:(atO t.many.toNat (ndX S t) (j:Int)).2 with
   |true=>
    rw [ha,cond_true] at hj
    rw [cond_true]
    obtain⟨h1,h2⟩:=ih (j+1) hj
    refine⟨by omega,λk hk hk2=>?_⟩
    by_cases hjk:k=j
    ·subst hjk
     rw [ha]
     have:((k+1:Nat):Int)≤ani t.many.toNat (ndX S t) f (k+1):=by
      have hg:∀f j:Nat,0≤ani t.many.toNat (ndX S t) f j→(j:Int)≤ani t.many.toNat (ndX S t) f j:=by
       intro f
       induction f with
       |zero=>intro j h;exact absurd (show (0:Int)≤-1 from h) (by decide)
       |succ f ih2=>
        intro j h
        rw [ani] at h ⊢
        cases ha:(atO t.many.toNat (ndX S t) (j:Int)).2 with
        |true=>rw [ha,cond_true] at h;rw [cond_true];have:=ih2 (j+1) h;omega
        |false=>exact ZC1 _
      exact hg f (k+1) hj
     exact (decide_eq_true (by omega)).symm
    ·exact h2 k (by omega) hk2
   |false=>
    rw [cond_false]
    refine⟨by omega,λk hk hk2=>?_⟩
    have:k=j:=by omega
    subst this
    rw [ha];exact (decide_eq_false (by omega)).symm
 have e:ani t.many.toNat (ndX S t) 16 0=xo S t:=apf h 16 0
 rw [←e] at h0 ⊢
 obtain⟨h1,h2⟩:=key 16 0 h0
 refine⟨by simpa using h1,λk hk=>?_⟩
 rw [←aqI h]
 exact h2 k (ZA7 _) hk
end
end GL
namespace GL
open Go.RowKit
abbrev stV (S:ay):List SV:=[.vz ab S.rows,.vz ag S.refs,.vz ag S.last,.int S.cg,.vz ae S.gone,.int S.bZ,.vz ae S.dead,.q S.same]
theorem ao1 {S:ay}{t:bf}(h:(py S t).2=true) {k:Nat}(hk:k<(py S t).1.length):txA S t k=(bF S (py S t).1[k]).1∧decide (txA S t k=⟨#[]⟩)=au (py S t).1[k]:=by
 have hn:nth ae (py S t).1 k=(py S t).1[k]:=by unfold nth;rw [ZB1 hk]
 have e:txA S t k=(bF S (py S t).1[k]).1:=by
  unfold txA bo sW
  rw [apI h]
  unfold nth
  rw [List.getElem?_map,ZB1 hk];rfl
 refine⟨e,?_⟩
 rw [e]
 have h2:=(apo h).2 _ (List.getElem_mem hk)
 generalize (py S t).1[k]=p at *
 cases hh:au p with
 |true=>rw [fT hh];exact decide_eq_true rfl
 |false=>
  cases hf:iX p (nth ab S.rows p.1.toNat) with
  |false=>rw [LP hh hf] at h2;cases h2.2
  |true=>
   rw [yc hh hf]
   have hb:=pT h2.1.1
   unfold iX at hf
   simp only [ZA9,decide_eq_true_eq] at hf
   have hp:=h2.1.1
   unfold aZ at hp
   rw [hh,Bool.false_or] at hp
   simp only [ZA9] at hp
   have h1:=cC.1 hp.1.1.2
   refine decide_eq_false λhe=>?_
   have he:nth ab S.rows p.1.toNat=⟨#[]⟩:=he
   rw [he] at hf
   have h3:p.2.2.1=((⟨#[]⟩:ByteArray).size:Int):=hf.2.2.1
   have h4:((⟨#[]⟩:ByteArray).size:Int)=0:=rfl
   omega
theorem aqJ {S:ay}{t:bf}(h:ay.rd S) (k:Nat):(txA S t k).size≤1000000:=WS (wv h) k
theorem aqP {T:bb}{β:Nat→Nat}{n:fu}{y:Value}(h:A0.rel T β (ndA n) y):y=ndV n:=by
 obtain⟨n1,n2,n3,n4,n5,n6,n7,n8,n9,cw⟩:=n
 obtain⟨⟨l⟩,rfl,g⟩:=(show A0.rel T β (.a [.int n1,.int n2,.int n3,.int n4,.int n5,.int n6,.int n7,.int n8,.int n9,.int cw]) y from h)
 have g:dN T β [.int n1,.int n2,.int n3,.int n4,.int n5,.int n6,.int n7,.int n8,.int n9,.int cw] l:=g
 obtain⟨amK,l1,rfl,e1,h1⟩:=amW g
 obtain⟨amL,l2,rfl,e2,h2⟩:=amW h1
 obtain⟨amM,l3,rfl,e3,h3⟩:=amW h2
 obtain⟨amN,amx,rfl,e4,h4⟩:=amW h3
 obtain⟨amO,amy,rfl,e5,h5⟩:=amW h4
 obtain⟨amP,amz,rfl,e6,h6⟩:=amW h5
 obtain⟨amQ,amA,rfl,e7,h7⟩:=amW h6
 obtain⟨u8,amB,rfl,e8,h8⟩:=amW h7
 obtain⟨amR,amC,rfl,e9,h9⟩:=amW h8
 obtain⟨u10,l10,rfl,e10,h10⟩:=amW h9
 obtain rfl:=aoy h10
 have e1:amK= .int .i64 n1:=e1
 have e2:amL= .int .i64 n2:=e2
 have e3:amM= .int .i64 n3:=e3
 have e4:amN= .int .i64 n4:=e4
 have e5:amO= .int .i64 n5:=e5
 have e6:amP= .int .i64 n6:=e6
 have e7:amQ= .int .i64 n7:=e7
 have e8:u8= .int .i64 n8:=e8
 have e9:amR= .int .i64 n9:=e9
 have e10:u10= .int .i64 cw:=e10
 subst e1 e2 e3 e4 e5 e6 e7 e8 e9 e10
 rfl
section
variable {T:bb}{W:World}{β:Nat→Nat}{S:ay}{t:bf}{s0 s1 s2 amF amG amH amI amJ:Value}
theorem aoi (hT:WT T W) (hN:UQ T):apk W:=by
 intro w a b c hb
 refine ((fM.1 (a,b,c) () aa).lib (β:=λi=>i) (vs:=[.int .i64 a,.int .i64 b,.int .i64 c]) rfl hT hN ⟨rfl,rfl,rfl,aa⟩ hb).mono ?_
 rintro e w' ⟨v,r,os,T',β',rfl,⟨z,_,rfl,_⟩,hv,hB,_⟩
 have hv:v= .bool (ik a b c):=hv
 subst hv
 exact⟨rfl,hB⟩
theorem apq (hT:WT T W) (hN:UQ T) (hs:dN T β (stV S) [s0,s1,s2,amF,amG,amH,amI,amJ]) (hg:S.gone.length≤1000000) (hd:S.dead.length≤1000000):
  apm W s0 s1 s2 amF amG amH amI amJ (.int .i64 t.1) (.int .i64 t.2.1) (.int .i64 t.2.2.1) (.int .i64 t.2.2.2.1) (.int .i64 t.2.2.2.2.1) (.int .i64 t.2.2.2.2.2.1) (.int .i64 t.2.2.2.2.2.2) (amZ S t) t.many.toNat (ndX S t):=by
 intro w hb
 refine (ap0 w s0 s1 s2 amF amG amH amI amJ _ _ _ _ _ _ _ (iI S) (aoo S t) t.many.toNat (ndX S t) ?_ ?_)
 ·intro w1 c1
  refine ((W7.1 S () ⟨hg,hd⟩).lib (β:=β) (vs:=[.agg #[s0,s1,s2,amF,amG,amH,amI,amJ]]) rfl hT hN ⟨⟨_,rfl,hs⟩,aa⟩ (hb.trans (c1.mono hb.size))).mono ?_
  rintro e w' ⟨v,r,os,T',β',rfl,⟨z,_,rfl,_⟩,hv,hB,_⟩
  have hv:v= .bool (iI S):=hv
  subst hv
  exact⟨rfl,hB⟩
 ·intro w1 b cG c1 FL hc
  obtain⟨amq,hA⟩:=apG.boxed (S:=S) (β:=β) hT hN hs (hb.trans (c1.mono hb.size)) (ZB0 hb.size FL) hc
  have hst:KK S:=QM.1 cG
  have htl:(py S t).2=qJ S t:=by rw [YI,cG];rfl
  have ahN:∀u:bf,vh S u:=λu=>⟨hst.rd,by have:=hst.cg;omega⟩
  have hL:qJ S t=true→(py S t).1=(bA S t).1.take t.many.toNat:=λh=>by rw [K9 cG h]
  have hlen:(py S t).1.length≤16:=by
   cases h:(py S t).2 with
   |true=>exact apZ h
   |false=>rw [YI] at h;rw [apn h];exact ZA7 _
  have aqR:∀k,k<(py S t).1.length→(py S t).2=true:=λk hk=>by
   cases h:(py S t).2 with
   |true=>rfl
   |false=>rw [YI] at h;rw [apn h] at hk;cases hk
  have key:=ap3 w1 (.pointer (some ⟨b,0,none⟩)) (.int .i64 t.1) (.int .i64 t.2.1) (.int .i64 t.2.2.1) (.int .i64 t.2.2.2.1) (.int .i64 t.2.2.2.2.1) (.int .i64 t.2.2.2.2.2.1) (.int .i64 t.2.2.2.2.2.2) (qJ S t) (py S t).1 (λk=>decide (txA S t k=⟨#[]⟩)) (λk=>(bz (txA S t k)).2) (λk=>qJ S (cT (bz (txA S t k)).1)) (λk=>txA S t k) (λk=>(bz (txA S t k)).1) hlen ?_ ?_ ?_ ?_ ?_
  ·have htab:(bif qJ S t then aow (λk=>decide (txA S t k=⟨#[]⟩)) (λk=>(bz (txA S t k)).2) (λk=>qJ S (cT (bz (txA S t k)).1)) (py S t).1.length 0 else false)=aoo S t:=by
    cases h:qJ S t with
    |false=>rw [apK h];rfl
    |true=>
     have hm:=anW (htl.trans h)
     have hl:=fq (s:=S) (anS h)
     rw [apJ h,cond_true]
     exact aqa (s:=S) (X:=bo S t) (f:=(py S t).1.length) (k:=0) (by rw [hl];omega)
   rw [htab] at key
   refine key.mono ?_
   rintro e w' ⟨v,rfl,hB,hv⟩
   refine⟨v,ζ,hB,λh=>?_⟩
   have h2:=hv h
   have hm:=anW (htl.trans (ao5 h))
   rw [show (py S t).1.length=t.many.toNat by omega] at h2
   exact h2
  ·intro w2 c2
   refine (an5 hA t (ahN t) (λh=>(apA h).2) c2).mono ?_
   rintro e w' ⟨v,rfl,hB,hv⟩
   exact⟨v,rfl,hB,λh=>by rw [hL h];exact hv h⟩
  ·intro w2 k hk c2
   rw [(ao1 (aqR k hk) hk).2]
   generalize (py S t).1[k]=p
   obtain⟨p1,p2,p3,p4,p5⟩:=p
   refine ((eO.1 (p1,p2,p3,p4,p5) () aa).lib (β:=β) (vs:=[ptV (p1,p2,p3,p4,p5)]) rfl hA.wt hA.no ⟨⟨_,rfl,rfl,rfl,rfl,rfl,rfl,aa⟩,aa⟩ c2).mono ?_
   rintro e w' ⟨v,r,os,T',β',rfl,⟨z,_,rfl,_⟩,hv,hB,_⟩
   have hv:v= .bool (au (p1,p2,p3,p4,p5)):=hv
   subst hv
   exact⟨rfl,hB⟩
  ·intro w2 k hk c2
   have h2:=((apo (aqR k hk)).2 _ (List.getElem_mem hk)).1.1
   refine (apR hA (py S t).1[k] ⟨hst.rd.sz,hst.len,h2⟩ c2).mono ?_
   rintro e w' ⟨rfl,hB⟩
   refine⟨⟨(bF S (py S t).1[k]).2,?_⟩,hB⟩
   rw [(ao1 (aqR k hk) hk).1]
  ·intro w2 k hk c2
   refine ((apP.1 (txA S t k) () (aqJ hst.rd k)).lib (β:=β) (vs:=[.string (txA S t k)]) rfl hA.wt hA.no ⟨rfl,aa⟩ c2).mono ?_
   rintro e w' ⟨v,r,os,T',β',rfl,⟨z,_,rfl,_⟩,hv,hB,_⟩
   have hv1:AV.rel T' β' (.t [ndA (bz (txA S t k)).1,.s (.q (bz (txA S t k)).2)]) v:=hv
   obtain⟨⟨vs⟩,rfl,hv2⟩:=hv1
   match vs,(show uD T' β' [ndA (bz (txA S t k)).1,.s (.q (bz (txA S t k)).2)] vs from hv2) with
   |[y,q],⟨hy,hq,_⟩=>
    have hq:q= .bool (bz (txA S t k)).2:=hq
    have hy:=aqP hy
    subst hq hy
    exact⟨rfl,hB⟩
  ·intro w2 k hk c2
   refine (an5 hA (cT (bz (txA S t k)).1) (ahN _) (λh=>(apA h).2) c2).mono ?_
   rintro e w' ⟨v,rfl,hB,_⟩
   exact⟨v,rfl,hB⟩
theorem apV {S:ay}{t:bf}{l:List AV}{vs:List Value}(h:r9 T β (.o (.a (stV S))::.o (.a [.int t.1,.int t.2.1,.int t.2.2.1,.int t.2.2.2.1,.int t.2.2.2.2.1,.int t.2.2.2.2.2.1,.int t.2.2.2.2.2.2])::l) vs):
  ∃s0 s1 s2 amF amG amH amI amJ r,vs= .agg #[s0,s1,s2,amF,amG,amH,amI,amJ]::trV t::r∧dN T β (stV S) [s0,s1,s2,amF,amG,amH,amI,amJ]∧r9 T β l r:=by
 obtain⟨v0,r0,rfl,⟨⟨l0⟩,rfl,hs⟩,hr⟩:=aoc h
 obtain⟨v1,r1,rfl,⟨⟨l1⟩,rfl,ht⟩,hr1⟩:=aoc hr
 have hs0:=hs
 obtain⟨s0,m0,rfl,g0,hs1⟩:=amW hs
 obtain⟨s1,m1,rfl,g1,hs2⟩:=amW hs1
 obtain⟨s2,m2,rfl,g2,hs3⟩:=amW hs2
 obtain⟨amF,m3,rfl,g3,hs4⟩:=amW hs3
 obtain⟨amG,m4,rfl,g4,hs5⟩:=amW hs4
 obtain⟨amH,m5,rfl,g5,hs6⟩:=amW hs5
 obtain⟨amI,m6,rfl,g6,hs7⟩:=amW hs6
 obtain⟨amJ,m7,rfl,g7,hs8⟩:=amW hs7
 obtain rfl:=aoy hs8
 obtain⟨amK,k1,rfl,f1,ht2⟩:=amW ht
 obtain⟨amL,k2,rfl,f2,ht3⟩:=amW ht2
 obtain⟨amM,k3,rfl,f3,ht4⟩:=amW ht3
 obtain⟨amN,k4,rfl,f4,ht5⟩:=amW ht4
 obtain⟨amO,k5,rfl,f5,ht6⟩:=amW ht5
 obtain⟨amP,amv,rfl,f6,ht7⟩:=amW ht6
 obtain⟨amQ,amw,rfl,f7,ht8⟩:=amW ht7
 obtain rfl:=aoy ht8
 have f1:amK= .int .i64 t.1:=f1
 have f2:amL= .int .i64 t.2.1:=f2
 have f3:amM= .int .i64 t.2.2.1:=f3
 have f4:amN= .int .i64 t.2.2.2.1:=f4
 have f5:amO= .int .i64 t.2.2.2.2.1:=f5
 have f6:amP= .int .i64 t.2.2.2.2.2.1:=f6
 have f7:amQ= .int .i64 t.2.2.2.2.2.2:=f7
 subst f1 f2 f3 f4 f5 f6 f7
 exact⟨s0,s1,s2,amF,amG,amH,amI,amJ,r1,rfl,hs0,hr1⟩
theorem apU (h:amZ S t=true):t.many.toNat≤16:=by have:=(ao4 h).2;omega
end
abbrev trP:AP:=.a [.int,.int,.int,.int,.int,.int,.int]
noncomputable def anH:cn:=X3 [.a xv,trP] (λx=>an0 x.1 x.2) λx=>.s (.int (am4 x.1 x.2))
theorem an3:Has Tryz.prog 17 anH:=by
 refine Has.lib ⟨_,Tryz.func17,by rfl,by decide⟩ (λx=>⟨rfl,rfl⟩) λ(x:ay×bf) (hp:an0 x.1 x.2) W T β vs hT hN c6=>?_
 obtain⟨s0,s1,s2,amF,amG,amH,amI,amJ,r,rfl,hs,hr⟩:=apV (l:=[]) c6
 obtain rfl:=apt hr
 refine (aoO W s0 s1 s2 amF amG amH amI amJ _ _ _ _ _ _ _ (amZ x.1 x.2) x.2.many.toNat (ndX x.1 x.2) apU (apq hT hN hs hp.1 hp.2) (aoi hT hN)).mono ?_
 rintro e w' ⟨rfl,hB⟩
 refine⟨_,ζ,hB,?_⟩
 show Value.int .i64 _= .int .i64 (am4 x.1 x.2)
 cases h:amZ x.1 x.2 with
 |false=>rw [aov h];rfl
 |true=>rw [aou h,cond_true,apf h];rfl
theorem aqs {T:bb}{β:Nat→Nat}(n:fu):(A0.rel T β (ndA n) (ndV n)):=by
 obtain⟨n1,n2,n3,n4,n5,n6,n7,n8,n9,cw⟩:=n
 exact⟨_,rfl,rfl,rfl,rfl,rfl,rfl,rfl,rfl,rfl,rfl,rfl,trivial⟩
noncomputable def anP:cn:=X3 [.a xv,trP,.s .int] (λx=>an0 x.1 x.2.1) λx=>.t [ndA (anX x.1 x.2.1 x.2.2).1,.s (.q (anX x.1 x.2.1 x.2.2).2)]
theorem aok:Has Tryz.prog 20 anP:=by
 refine Has.lib ⟨_,Tryz.func20,by rfl,by decide⟩ (λx=>⟨rfl,rfl⟩) λ(x:ay×bf×Int) (hp:an0 x.1 x.2.1) W T β vs hT hN c6=>?_
 obtain⟨s0,s1,s2,amF,amG,amH,amI,amJ,r,rfl,hs,hr⟩:=apV (l:=[.o (.s (.int x.2.2))]) c6
 obtain⟨v,r1,rfl,hv,hr⟩:=aoc hr
 obtain rfl:=apt hr
 have hv:v= .int .i64 x.2.2:=hv
 subst hv
 refine (ao3 W s0 s1 s2 amF amG amH amI amJ _ _ _ _ _ _ _ (amZ x.1 x.2.1) x.2.1.many.toNat (ndX x.1 x.2.1) x.2.2 apU (apq hT hN hs hp.1 hp.2) (aoi hT hN)).mono ?_
 rintro e w' ⟨rfl,hB⟩
 refine⟨_,ζ,hB,?_⟩
 have e:(bif amZ x.1 x.2.1 then atO x.2.1.many.toNat (ndX x.1 x.2.1) x.2.2 else (nz,false))=anX x.1 x.2.1 x.2.2:=by
  cases h:amZ x.1 x.2.1 with
  |false=>rw [aqq h];rfl
  |true=>rw [apT h,cond_true,aqI h]
 rw [e]
 exact⟨_,rfl,aqs _,rfl,trivial⟩
end GL
namespace GL
noncomputable section
theorem ap9 {S:ay}{t:bf}(h:0≤am4 S t):amZ S t=true:=by
 cases h2:amZ S t with
 |true=>rfl
 |false=>rw [aov h2] at h;exact absurd h (by decide)
def anI (c:List Int):Prop:=aq2 c
def am2 (c:List Int):AV:=.s (.q true)
def aoC (c:List Int):List AV:=[]
def aoX:cn where
 A:=[.s (.vw mf)]
 B:=[]
 pre:=λx b=>anI x
 r:=λx b _=>am2 x
 o:=λx b _=>aoC x
theorem aoT:Has Tryz.prog 5 aoX:=by
 refine Has.zB zT zF zF (l:=[(18,am6),(17,anH),(19,ano),(20,anP)]) ⟨anK,an3,aol,aok,aa⟩ Tryz.func5 ?_
 rintro (c:List Int) _ (hp:anI c)
 show vc _ _ _ _ (entry [.s (.vw mf c)] []) _
 have hb:aq2 c:=hp
 refine⟨λw1=>?_,λw2=>⟨⟨tv2,?_⟩,λx3 w4=>⟨⟨⟨tv9,tv8,aa⟩,?_,?_⟩,λx5 w6=>⟨⟨⟨tv9,tv8,aa⟩,?_,?_⟩,λx7 w8=>⟨aa,λw9=>?_,λdy=>⟨λkA=>?_,λdJ=>?_⟩⟩⟩⟩⟩⟩
 all_goals first|refine aw ?_|refine ax ?_|exact a8|(dsimp only [am6,am7,ano,ank];omega)|exact a7|exact ZB0 w4.1.1 (by decide)|exact ZB0 w4.1.2 (by decide)|skip
 ·refine⟨[],[],_,_,_,ζ,az,(),aa,?_,?_,ζ⟩
  ·(show _=am2 c);unfold am2;first|rfl
  ·rfl
 ·have h:=aA (p:=(c.length:Int)>1048576) w2
  exact (akb.mk (l:=c) (by omega) hb.jK)
 ·exact absurd (show (!decide (am4 x3.1 x3.2=am4 x3.1 x3.2))=true from w9) (by simp)
 ·refine⟨[],[],_,_,_,ζ,az,(),aa,?_,?_,ζ⟩
  ·show AV.q _=am2 c;unfold am2;refine congrArg AV.q ?_;simp
  ·rfl
 ·have h0:0≤am4 x3.1 x3.2:=aJ (cL dJ)
  have cG:=ap9 h0
  have he:=aou cG
  have h0':0≤xo x3.1 x3.2:=he ▸ h0
  have I3:=aqj cG h0'
  rw [←he] at I3
  have hs:∀k:Nat,(k:Int)≤am4 x3.1 x3.2→(anX x3.1 x3.2 (k:Int)).2=decide ((k:Int)<am4 x3.1 x3.2):=λk hk=>by rw [apT cG];exact I3.2 k hk
  have h16:=I3.1
  refine lW (l:=[(18,am6),(17,anH),(19,ano),(20,anP)]) (ex:=zT) (wr:=zF) (pt:=zF) ⟨anK,an3,aol,aok,trivial⟩ [.s 3,.s 4,.b 1003,.b 1004,.s 5] (λk:Nat=>[(.s 8,.int k)]) (λk=>(k:Int)≤am4 x3.1 x3.2+1) (λk=>17-k) 0 [] (show ((0:Nat):Int)≤am4 x3.1 x3.2+1 by omega) dM ?_
  rintro k (hk:(k:Int)≤am4 x3.1 x3.2+1)
  have cm:decide ((k:Int)≤am4 x3.1 x3.2)=true→(k:Int)≤am4 x3.1 x3.2:=aJ
  refine⟨λw1=>⟨⟨⟨tv9,tv8,tv2⟩,?_,?_⟩,λx2 w3=>⟨λw4=>?_,λw5=>⟨⟨?_,?_⟩,?_⟩⟩⟩,λw6=>?_⟩
  all_goals first|refine aw ?_|refine ax ?_|exact a8|(dsimp only [am6,am7,ano,ank];omega)|exact a7|exact ZB0 w4.1.1 (by decide)|exact ZB0 w4.1.2 (by decide)|(unfold imax;have:=cm w1;omega)|skip
  ·exact absurd (show ((anX x3.1 x3.2 (k:Int)).2 !=decide ((k:Int)<am4 x3.1 x3.2))=true from w4) (by rw [hs k (cm w1)];simp)
  ·refine⟨(k+1),[],?_,?_,?_⟩
   rotate_right
   ·exact bV
   ·show ((k+1:Nat):Int)≤am4 x3.1 x3.2+1;have:=cm w1;omega
   ·show 17-(k+1)<17-k;have:=cm w1;omega
  ·refine⟨[],[],_,_,_,ζ,az,(),aa,?_,?_,ζ⟩
   ·show AV.q _=am2 c;unfold am2;refine congrArg AV.q ?_;exact decide_eq_true h16
   ·rfl
