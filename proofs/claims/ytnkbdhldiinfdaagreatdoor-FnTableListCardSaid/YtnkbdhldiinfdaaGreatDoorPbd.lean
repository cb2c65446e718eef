/- Part 30 of the proof of a drawn law. -/
import Derived.Laws.ResultCell
import Derived.Test.YtnkbdhldiinfdaaGreatDoorPbb
import Derived.Test.YtnkbdhldiinfdaaGreatDoorPbc
set_option maxHeartbeats 20000000
set_option maxRecDepth 100000
set_option linter.all false
namespace Go.Proofs.YtnkbdhldiinfdaaGreatDoor
namespace GL
noncomputable section
def am5 (n:fu):Prop:=True
def ang (n:fu):AV:=.s (.str (aC n))
def apB (n:fu):List AV:=[]
def ana:cn where
 A:=[.a [.int,.int,.int,.int,.int,.int,.int,.int,.int,.int]]
 B:=[]
 pre:=λx b=>am5 x
 r:=λx b _=>ang x
 o:=λx b _=>apB x
theorem aoO:Has Tryz.prog 52 ana:=by
 refine Has.zB zT zF zF (l:=[(27,aon),(84,anx),(85,anC),(83,aoe)]) ⟨aqe,aoN,aoU,api,aa⟩ Tryz.func52 ?_
 rintro⟨(n1:Int),(n2:Int),(n3:Int),(n4:Int),(n5:Int),(n6:Int),(n7:Int),(n8:Int),(n9:Int),(cw:Int)⟩ _ (hp:am5 (n1,n2,n3,n4,n5,n6,n7,n8,n9,cw))
 show vc _ _ _ _ (entry [.a [.int n1,.int n2,.int n3,.int n4,.int n5,.int n6,.int n7,.int n8,.int n9,.int cw]] []) _
 let g':=(n1,n2,n3,n4,n5,n6,n7,n8,n9,cw)
 let A':=(n4,n5,n6,n7,n8)
 have uH:∀x∈[cj n1,cj n2,cj n3,bc A',cj n9,cj cw,⟨#[101,110,100]⟩],x.size≤1000000:=λx hx=>by
  simp only [ZB8,ZF6,or_false] at hx
  rcases hx with rfl |rfl |rfl |rfl |rfl |rfl |rfl
  ·exact ZB0 (nU _) (by decide)
  ·exact ZB0 (nU _) (by decide)
  ·exact ZB0 (nU _) (by decide)
  ·have:=gu A';omega
  ·exact ZB0 (nU _) (by decide)
  ·exact ZB0 (nU _) (by decide)
  ·decide
 refine⟨⟨⟨tv11,aa⟩,aa⟩,λx1 w2=>⟨λw3=>?_,λw4=>⟨Sq1,Sq9,ζ,[.s 9,.b 1001],Sq10,ζ,Sq1,Sq11,ζ,[.s 11,.b 1001],Sq12,ζ,Sq1,Sq13,ζ,[.s 13,.b 1001],Sq14,ζ,[.s 10,.s 12,.s 14,.b 1015],[.s 15,.b 1015],ζ,aa,[.s 15,.b 1015,.b 170000],[.s 16,.b 170000],ζ,⟨⟨⟨?_,?_⟩,aa⟩,?_⟩,?_,λx5 w6=>⟨Sq1,Sq17,ζ,[.s 17,.b 1001],Sq18,ζ,[.s 18,.b 200000],[.s 19,.b 200000],ζ,⟨⟨tv8,aa⟩,aa⟩,?_,λx7 w8=>⟨[.s 16,.s 19,.b 170000,.b 200000,.b 1020],[.s 20,.b 1020,.b 170000],ζ,⟨⟨?_,?_⟩,?_,?_⟩,[.b 1021],[.s 21,.b 1021],ζ,aa,[.s 20,.s 21,.b 1020,.b 1021,.b 1022],[.s 22,.b 1022,.b 1020],ζ,⟨⟨?_,?_⟩,?_,?_⟩,[.s 22,.b 1022],Sq23,ζ,⟨⟨⟨?_,?_⟩,aa⟩,?_,λx9 dy=>?_⟩,?_,λkz dJ=>⟨Sq23,Sq8,ζ,Sq8,Sq24,ζ,Sq8,Sq25,ζ,Sq24,Sq3,ζ,Sq25,Sq4,ζ,?_⟩⟩⟩⟩⟩⟩
 all_goals first|refine aw ?_|refine ax ?_|exact a8|(dsimp only [aon,anS,anx,anr,anC,ano];omega)|exact a7|exact .inl ⟨_,_,rfl⟩|exact .inr ⟨_,_,_,rfl⟩|(show 3+3≤1048576;decide)|(show 6+1≤1048576;decide)|skip
 ·have e:aC g'=⟨#[]⟩:=by unfold aC;rw [show cy g'=false from xm w3];rfl
  refine⟨[],[],_,_,_,ζ,az,(),aa,?_,?_,ζ⟩
  ·(show _=ang g');unfold ang;first|(rw [e];rfl)|rfl
  ·rfl
 ·show (7:Nat)≤60;decide
 ·exact uH _ dy
 ·have cG:cy g'=true:=cL w4
  have hb:=lh cG
  have b1:1≤n1∧n1≤2:=hb.1
  have b2:1≤n2∧n2≤9:=hb.2.1
  have b3:0≤n3∧n3≤2048:=hb.2.2.1
  have b4:0≤n9∧n9≤2:=hb.2.2.2.1
  have b5:0≤cw∧cw≤16:=hb.2.2.2.2.1
  have e:aC g'=(cE [cj n1,cj n2,cj n3,bc A',cj n9,cj cw,⟨#[101,110,100]⟩]).1:=by
   unfold aC
   rw [cG,su (n:=n1) (by omega) (by omega),su (n:=n2) (by omega) (by omega),su (n:=n3) (by omega) (by omega),su (n:=n9) (by omega) (by omega),su (n:=cw) (by omega) (by omega)];rfl
  refine⟨[],[],_,_,_,ζ,az,(),aa,?_,?_,ζ⟩
  ·(show _=ang g');unfold ang;first|(rw [e];rfl)|rfl
  ·rfl
end
end GL
namespace GL
noncomputable section
abbrev apf (n:fu):List ByteArray:=[bX n.1,bX n.2.1,bX n.2.2.1,bc n.root,bX n.2.2.2.2.2.2.2.2.1,bX n.2.2.2.2.2.2.2.2.2,⟨#[101,110,100]⟩]
theorem apG {n:fu}(h:cy n=true):bq (aC n)=(apf n,true):=by
 have hb:=lh h
 have hp:aC n=(cE (apf n)).1:=by unfold aC;rw [h];rfl
 have hf:(cE (apf n)).2=true:=by
  rw [gE rfl]
  refine D8 ?_
  have d1:=db (n:=n.1) (by omega)
  have d2:=db (n:=n.2.1) (by omega)
  have d3:=db (n:=n.2.2.1) (by omega)
  have d4:=gu n.root
  have d5:=db (n:=n.2.2.2.2.2.2.2.2.1) (by omega)
  have d6:=db (n:=n.2.2.2.2.2.2.2.2.2) (by omega)
  simp only [ZE7,List.map_nil,List.sum_cons,List.sum_nil]
  rw [show (⟨#[101,110,100]⟩:ByteArray).size=3 from rfl,show (⟨#[]⟩:ByteArray).size=0 from rfl]
  omega
 rw [hp];exact I9 hf
theorem ank {s:ByteArray}(h:(bz s).2=true):(aD (nth ab (bq s).1 0)).2=true∧(aD (nth ab (bq s).1 1)).2=true∧(aD (nth ab (bq s).1 2)).2=true∧(bP (nth ab (bq s).1 3)).2=true∧(aD (nth ab (bq s).1 4)).2=true∧(aD (nth ab (bq s).1 5)).2=true:=by
 cases h1: !(bq s).2 with
 |true=>rw [yu h1] at h;cases h
 |false=>
  cases h2:decide (((bq s).1.length:Int)≠7) with
  |true=>rw [tC h2] at h;cases h
  |false=>
   cases h3: !(cy (mS (bq s).1)) with
   |true=>rw [yt h3] at h;cases h
   |false=>
    cases h4:decide (aC (mS (bq s).1)≠s) with
    |true=>rw [yr h4] at h;cases h
    |false=>
     have cG:=cL h3
     have e:aC (mS (bq s).1)=s:=Classical.not_not.1 (aA h4)
     have hf:=apG cG
     rw [e] at hf
     generalize mS (bq s).1=n at *
     have hb:=lh cG
     rw [hf]
     have g1:=eu (n:=n.1) (by omega) (by omega)
     have g2:=eu (n:=n.2.1) (by omega) (by omega)
     have g3:=eu (n:=n.2.2.1) (by omega) (by omega)
     have g4:=nK hb.2.2.2.2.2.1
     have g5:=eu (n:=n.2.2.2.2.2.2.2.2.1) (by omega) (by omega)
     have g6:=eu (n:=n.2.2.2.2.2.2.2.2.2) (by omega) (by omega)
     refine⟨?_,?_,?_,?_,?_,?_⟩
     ·show (aD (bX n.1)).2=true;rw [g1]
     ·show (aD (bX n.2.1)).2=true;rw [g2]
     ·show (aD (bX n.2.2.1)).2=true;rw [g3]
     ·show (bP (bc n.root)).2=true;rw [g4]
     ·show (aD (bX n.2.2.2.2.2.2.2.2.1)).2=true;rw [g5]
     ·show (aD (bX n.2.2.2.2.2.2.2.2.2)).2=true;rw [g6]
theorem anA {s:ByteArray}(h:(bz s).2=true→False):bz s=(nz,false):=by
 cases h1:(bz s).2 with
 |true=>exact (h h1).elim
 |false=>exact Prod.ext (WY h1) h1
theorem ape {s:ByteArray}(h1:(!(bq s).2)=false) (h2:decide (((bq s).1.length:Int)≠7)=false) (h4:decide (aC (mS (bq s).1)≠s)=false):bz s=(mS (bq s).1,true):=by
 cases h3: !(cy (mS (bq s).1)) with
 |false=>exact yv h1 h2 h3 h4
 |true=>
  have e:aC (mS (bq s).1)=s:=Classical.not_not.1 (aA h4)
  have e2:s=⟨#[]⟩:=by rw [←e];unfold aC;rw [xm h3];rfl
  subst e2
  exact absurd h2 (by decide+kernel)
def ark (l:List ByteArray) (n:Nat):List SV:=[.int (bif Nat.blt 0 n then (aD (nth ab l 0)).1 else 0),.int (bif Nat.blt 1 n then (aD (nth ab l 1)).1 else 0),.int (bif Nat.blt 2 n then (aD (nth ab l 2)).1 else 0),.int 0,.int 0,.int 0,.int 0,.int 0,.int 0,.int 0]
def anI (s:ByteArray):Prop:=s.size≤1000000
def amX (s:ByteArray):AV:=.t [ndA (bz s).1,.s (.q (bz s).2)]
def apC (s:ByteArray):List AV:=[]
def apV:cn where
 A:=[.s .str]
 B:=[]
 pre:=λx b=>anI x
 r:=λx b _=>amX x
 o:=λx b _=>apC x
theorem apS:Has Tryz.prog 119 apV:=by
 refine Has.zB zT zF zF (l:=[(163,am4),(164,iT),(165,anf),(52,ana)]) ⟨aoa,MG,ao4,aoO,aa⟩ Tryz.func119 ?_
 rintro (s:ByteArray) _ (hp:anI s)
 show vc _ _ _ _ (entry [.str s] []) _
 unfold anI at hp
 have dj:∀k,(nth ab (bq s).1 k).size≤1000000:=λk=>by
  by_cases h:k<(bq s).1.length
  ·exact ZB0 (K4 _ (bR (ek:=ab) h)) hp
  ·unfold nth;rw [ZD8 (by omega)];exact ZA7 _
 refine⟨⟨tv2,?_⟩,λx1 w2=>⟨aa,λw3=>?_,λw4=>⟨λw5=>?_,λw6=>?_⟩⟩⟩
 all_goals first|refine aw ?_|refine ax ?_|exact a8|(dsimp only [am4,am0,iT,gw,anf,am9,ana,am5];omega)|exact a7|skip
 ·refine⟨[],[],_,_,_,ζ,az,(),aa,?_,?_,ζ⟩
  ·(show _=amX s);unfold amX;first|(rw [yu w3];rfl)|rfl
  ·rfl
 ·refine⟨[],[],_,_,_,ζ,az,(),aa,?_,?_,ζ⟩
  ·(show _=amX s);unfold amX;first|(rw [tC w5];rfl)|rfl
  ·rfl
 ·have hfy:(!(bq s).2)=false:=w4
  have hf7:=w6
  have hl7:(bq s).1.length=7:=by have:=Classical.not_not.1 (aA w6);omega
  have cO:∀n,(∀j,j<n→(aD (nth ab (bq s).1 j)).2=true)→(!(aD (nth ab (bq s).1 n)).2)=false→∀j,j<n+1→(aD (nth ab (bq s).1 j)).2=true:=λn h h2 j hj=>by
   by_cases hjn:j=n
   ·rw [hjn];exact cL h2
   ·exact h j (by omega)
  have hnt:∀k,k<3→nth ab (List.take 3 (List.drop 3 (bq s).1)) k=nth ab (bq s).1 (3+k):=λk hk=>by
   unfold nth;rw [List.getElem?_take_of_lt hk,List.getElem?_drop]
  have ard:nth ab (List.take 3 (List.drop 3 (bq s).1)) 0=nth ab (bq s).1 3:=hnt 0 (by omega)
  have arc:nth ab (List.take 3 (List.drop 3 (bq s).1)) 1=nth ab (bq s).1 4:=hnt 1 (by omega)
  have arb:nth ab (List.take 3 (List.drop 3 (bq s).1)) 2=nth ab (bq s).1 5:=hnt 2 (by omega)
  have arp:∀k,(nth ab (List.take 3 (List.drop 3 (bq s).1)) k).size≤1000000:=λk=>by
   by_cases hk:k<3
   ·rw [hnt k hk];exact dj _
   ·unfold nth;rw [ZD8 (by rw [ZB9];omega)];exact ZA7 _
  have uy:mS (bq s).1=((aD (nth ab (bq s).1 0)).1,(aD (nth ab (bq s).1 1)).1,(aD (nth ab (bq s).1 2)).1,(bP (nth ab (List.take 3 (List.drop 3 (bq s).1)) 0)).1.1,(bP (nth ab (List.take 3 (List.drop 3 (bq s).1)) 0)).1.2.1,(bP (nth ab (List.take 3 (List.drop 3 (bq s).1)) 0)).1.2.2.1,(bP (nth ab (List.take 3 (List.drop 3 (bq s).1)) 0)).1.2.2.2.1,(bP (nth ab (List.take 3 (List.drop 3 (bq s).1)) 0)).1.2.2.2.2,(aD (nth ab (List.take 3 (List.drop 3 (bq s).1)) 1)).1,(aD (nth ab (List.take 3 (List.drop 3 (bq s).1)) 2)).1):=by rw [ard,arc,arb];rfl
  have h7:((bq s).1.length:Int)=7:=Classical.not_not.1 (aA w6)
  refine lW (l:=[(163,am4),(164,iT),(165,anf),(52,ana)]) (ex:=zT) (wr:=zF) (pt:=zF) ⟨aoa,MG,ao4,aoO,trivial⟩ [.s 0,.s 2,.b 1002,.s 4,.s 6,.s 25,.b 1025,.s 26] (λn:Nat=>[(.s 27,.int n),(.b 1006,.a (ark (bq s).1 n))]) (λn=>n≤3∧∀j,j<n→(aD (nth ab (bq s).1 j)).2=true) (λn=>3-n) 0 [] ⟨ZA7 _,λj hj=>absurd hj (by omega)⟩ dM ?_
  rintro n ⟨(hn:n≤3),hk⟩
  have h6:n=0∨n=1∨n=2∨n=3:=by omega
  rcases h6 with rfl |rfl |rfl |rfl
  ·refine⟨λw1=>⟨⟨?_,?_⟩,⟨?_,?_⟩,⟨tv2,?_⟩,λx2 w3=>⟨λw4=>?_,λw5=>⟨⟨?_,?_⟩,?_⟩⟩⟩,λw6=>⟨⟨?_,?_,?_⟩,⟨tv2,?_,λx7=>?_⟩,λx8 w9=>⟨aa,λdy=>?_,λkA=>⟨⟨⟨tv11,aa⟩,aa⟩,λx12 iU=>⟨λgO=>?_,λqK=>?_⟩⟩⟩⟩⟩
   all_goals first|(exfalso;simp only [decide_eq_true_eq,decide_eq_false_iff_not] at *;omega)|refine aw ?_|refine ax ?_|exact a8|(dsimp only [am4,am0,iT,gw,anf,am9,ana,am5];omega)|exact a7|exact dj _|(show (0:Int)<((bq s).1.length:Int);omega)|skip
   ·have e:=anA (s:=s) (λh=>absurd ((xm w4).symm.trans (ank h).1) Bool.noConfusion)
    refine⟨[],[],_,_,_,ζ,az,(),aa,?_,?_,ζ⟩
    ·(show _=amX s);unfold amX;first|(rw [e];rfl)|rfl
    ·rfl
   ·refine⟨(1),[],?_,?_,?_⟩
    rotate_right
    ·exact bV
    ·exact⟨by omega,cO 0 hk w5⟩
    ·show 3-1<3-0;omega
  ·refine⟨λw1=>⟨⟨?_,?_⟩,⟨?_,?_⟩,⟨tv2,?_⟩,λx2 w3=>⟨λw4=>?_,λw5=>⟨⟨?_,?_⟩,?_⟩⟩⟩,λw6=>⟨⟨?_,?_,?_⟩,⟨tv2,?_,λx7=>?_⟩,λx8 w9=>⟨aa,λdy=>?_,λkA=>⟨⟨⟨tv11,aa⟩,aa⟩,λx12 iU=>⟨λgO=>?_,λqK=>?_⟩⟩⟩⟩⟩
   all_goals first|(exfalso;simp only [decide_eq_true_eq,decide_eq_false_iff_not] at *;omega)|refine aw ?_|refine ax ?_|exact a8|(dsimp only [am4,am0,iT,gw,anf,am9,ana,am5];omega)|exact a7|exact dj _|(show (1:Int)<((bq s).1.length:Int);omega)|skip
   ·have e:=anA (s:=s) (λh=>absurd ((xm w4).symm.trans (ank h).2.1) Bool.noConfusion)
    refine⟨[],[],_,_,_,ζ,az,(),aa,?_,?_,ζ⟩
    ·(show _=amX s);unfold amX;first|(rw [e];rfl)|rfl
    ·rfl
   ·refine⟨(2),[],?_,?_,?_⟩
    rotate_right
    ·exact bV
    ·exact⟨by omega,cO 1 hk w5⟩
    ·show 3-2<3-1;omega
  ·refine⟨λw1=>⟨⟨?_,?_⟩,⟨?_,?_⟩,⟨tv2,?_⟩,λx2 w3=>⟨λw4=>?_,λw5=>⟨⟨?_,?_⟩,?_⟩⟩⟩,λw6=>⟨⟨?_,?_,?_⟩,⟨tv2,?_,λx7=>?_⟩,λx8 w9=>⟨aa,λdy=>?_,λkA=>⟨⟨⟨tv11,aa⟩,aa⟩,λx12 iU=>⟨λgO=>?_,λqK=>?_⟩⟩⟩⟩⟩
   all_goals first|(exfalso;simp only [decide_eq_true_eq,decide_eq_false_iff_not] at *;omega)|refine aw ?_|refine ax ?_|exact a8|(dsimp only [am4,am0,iT,gw,anf,am9,ana,am5];omega)|exact a7|exact dj _|(show (2:Int)<((bq s).1.length:Int);omega)|skip
   ·have e:=anA (s:=s) (λh=>absurd ((xm w4).symm.trans (ank h).2.2.1) Bool.noConfusion)
    refine⟨[],[],_,_,_,ζ,az,(),aa,?_,?_,ζ⟩
    ·(show _=amX s);unfold amX;first|(rw [e];rfl)|rfl
    ·rfl
   ·refine⟨(3),[],?_,?_,?_⟩
    rotate_right
    ·exact bV
    ·exact⟨by omega,cO 2 hk w5⟩
    ·show 3-3<3-2;omega
  ·refine⟨λw1=>⟨⟨?_,?_⟩,?_⟩,λw2=>⟨⟨?_,?_,?_⟩,⟨tv2,?_,λx3=>?_⟩,λx4 w5=>⟨aa,λw6=>?_,λw7=>⟨⟨⟨tv11,aa⟩,aa⟩,λx8 w9=>⟨λdy=>?_,λkA=>?_⟩⟩⟩⟩⟩
   all_goals first|(exfalso;simp only [decide_eq_true_eq,decide_eq_false_iff_not] at *;omega)|refine aw ?_|refine ax ?_|exact a8|(dsimp only [am4,am0,iT,gw,anf,am9,ana,am5];omega)|exact a7|exact dj _|skip
   ·show (List.take 3 (List.drop 3 (bq s).1)).length=3
    rw [ZB9,ZC8];omega
   ·exact arp _
   ·have w6':(!((bP (nth ab (List.take 3 (List.drop 3 (bq s).1)) 0)).2&&(aD (nth ab (List.take 3 (List.drop 3 (bq s).1)) 1)).2&&(aD (nth ab (List.take 3 (List.drop 3 (bq s).1)) 2)).2))=true:=w6
    have e:=anA (s:=s) (λh=>by
     have hp:=ank h
     rw [ard,arc,arb,hp.2.2.2.1,hp.2.2.2.2.1,hp.2.2.2.2.2] at w6'
     cases w6')
    refine⟨[],[],_,_,_,ζ,az,(),aa,?_,?_,ζ⟩
    ·(show _=amX s);unfold amX;first|(rw [e];rfl)|rfl
    ·rfl
   ·have e:=yr (s:=s) (by rw [uy];exact dy)
    refine⟨[],[],_,_,_,ζ,az,(),aa,?_,?_,ζ⟩
    ·(show _=amX s);unfold amX;first|(rw [e];rfl)|rfl
    ·rfl
   ·have e:=(ape (s:=s) hfy hf7 (by rw [uy];exact kA)).trans (congrArg (λx=>(x,true)) uy)
    refine⟨[],[],_,_,_,ζ,az,(),aa,?_,?_,ζ⟩
    ·(show _=amX s);unfold amX;first|(rw [e];rfl)|rfl
    ·rfl
end
end GL
namespace GL
noncomputable section
def anM (c:List Int):Prop:=akb c
def aow (c:List Int) (z:ay×bf):Prop:=(z.1.gone.length≤20001∧z.1.dead.length≤20001)∧-1≤z.2.2.2.2.2.2.2∧z.2.2.2.2.2.2.2≤18
def aov (c:List Int) (z:ay×bf):AV:=.t [.a [.vw ab z.1.rows,.vw ag z.1.refs,.vw ag z.1.last,.int z.1.cg,.vw ae z.1.gone,.int z.1.bZ,.vw ae z.1.dead,.q z.1.same],trA z.2]
def aoG (c:List Int) (z:ay×bf):List AV:=[]
def ao1:cn where
 A:=[.s (.vw mf)]
 B:=[]
 pre:=λx b=>anM x
 α:=λ_ _=>ay×bf
 φ:=λx b z=>aow x z
 r:=λx b z=>aov x z
 o:=λx b z=>aoG x z
theorem aqy:Has Tryz.prog 13 ao1:=by
 refine Has.fm zT zF zF (l:=[(28,afg),(43,anw)]) ⟨ai5,aoM,aa⟩ Tryz.func13 ?_
 rintro (c:List Int) _ (hp:anM c)
 show vc _ _ _ _ (entry [.s (.vw mf c)] []) _
 have hb:akb c:=hp
 refine⟨⟨tv2,?_⟩,λx1 w2=>⟨⟨tv2,?_⟩,λx3 w4=>⟨[.s 5,.b 1005],Sq14,ζ,[.s 6,.b 1006],Sq15,ζ,[.s 2,.s 14,.b 1002],[.b 1002],ζ,[.s 3,.s 15,.b 1003],[.b 1003],ζ,?_⟩⟩⟩
 all_goals first|refine aw ?_|refine ax ?_|exact a8|(dsimp only [afg,G7,anw,anq];omega)|exact a7|exact hb|exact Rdr.at (show Rdr (x1,0) 0 from w2) (ZC1 _) (by decide)|(show x3.2.2.1+(x3.1.rows.length-x3.2.2.1)≤x3.1.rows.length;have h:x3.2.2.1≤x3.1.rows.length:=w4.2.2.1;omega)|skip
 ·have hg:x3.1.gone.length≤20001:=w4.1.1
  have hd:x3.1.dead.length≤20001:=w4.1.2
  have ho:x3.2.2.1+(x3.1.rows.length-x3.2.2.1)≤x3.1.rows.length:=by have h:x3.2.2.1≤x3.1.rows.length:=w4.2.2.1;omega
  refine⟨[],[],_,_,_,ζ,(by repeat' (first|exact trivial|apply And.intro|exact ZA8 (ZA6 _)|assumption|(simp only [ZA2,ZA3,dC,lx,ZA0,ZA1,ZA4];omega))),(((List.drop x3.2.2.1 x3.1.rows).take (x3.1.rows.length-x3.2.2.1),(List.drop 0 x3.1.refs).take (List.length x3.1.refs),(List.drop 0 x3.1.last).take (List.length x3.1.last),x3.1.cg,(List.drop 0 x3.1.gone).take (List.length x3.1.gone),x3.1.bZ,(List.drop 0 x3.1.dead).take (List.length x3.1.dead),x3.1.same),x3.2.1),⟨⟨by show (((List.drop 0 x3.1.gone).take (List.length x3.1.gone)).length)≤20001;rw [ZB9];exact ZB0 (Nat.min_le_left _ _) hg,by show (((List.drop 0 x3.1.dead).take (List.length x3.1.dead)).length)≤20001;rw [ZB9];exact ZB0 (Nat.min_le_left _ _) hd⟩,w4.2.2.2⟩,ζ,ζ,ζ⟩
def am7 (c:List Int):Prop:=akb c
def an7 (c:List Int) (z:ay×bf):Prop:=(z.1.gone.length≤20001∧z.1.dead.length≤20001)∧-1≤z.2.2.2.2.2.2.2∧z.2.2.2.2.2.2.2≤18
def an4 (c:List Int) (z:ay×bf):AV:=.t [.a [.vw ab z.1.rows,.vw ag z.1.refs,.vw ag z.1.last,.int z.1.cg,.vw ae z.1.gone,.int z.1.bZ,.vw ae z.1.dead,.q z.1.same],trA z.2]
def aol (c:List Int) (z:ay×bf):List AV:=[]
def am6:cn where
 A:=[.s (.vw mf)]
 B:=[]
 pre:=λx b=>am7 x
 α:=λ_ _=>ay×bf
 φ:=λx b z=>an7 x z
 r:=λx b z=>an4 x z
 o:=λx b z=>aol x z
theorem anN:Has Tryz.prog 21 am6:=by
 refine Has.fm zT zF zF (l:=[(28,afg),(43,anw)]) ⟨ai5,aoM,aa⟩ Tryz.func21 ?_
 rintro (c:List Int) _ (hp:am7 c)
 show vc _ _ _ _ (entry [.s (.vw mf c)] []) _
 have hb:akb c:=hp
 refine⟨⟨tv2,?_⟩,λx1 w2=>⟨⟨tv2,?_⟩,λx3 w4=>⟨[.s 5,.b 1005],Sq14,ζ,[.s 6,.b 1006],Sq15,ζ,[.s 2,.s 14,.b 1002],[.b 1002],ζ,[.s 3,.s 15,.b 1003],[.b 1003],ζ,?_⟩⟩⟩
 all_goals first|refine aw ?_|refine ax ?_|exact a8|(dsimp only [afg,G7,anw,anq];omega)|exact a7|exact hb|exact Rdr.at (show Rdr (x1,0) 0 from w2) (ZC1 _) (by decide)|(show x3.2.2.1+(x3.1.rows.length-x3.2.2.1)≤x3.1.rows.length;have h:x3.2.2.1≤x3.1.rows.length:=w4.2.2.1;omega)|skip
 ·have hg:x3.1.gone.length≤20001:=w4.1.1
  have hd:x3.1.dead.length≤20001:=w4.1.2
  have ho:x3.2.2.1+(x3.1.rows.length-x3.2.2.1)≤x3.1.rows.length:=by have h:x3.2.2.1≤x3.1.rows.length:=w4.2.2.1;omega
  refine⟨[],[],_,_,_,ζ,(by repeat' (first|exact trivial|apply And.intro|exact ZA8 (ZA6 _)|assumption|(simp only [ZA2,ZA3,dC,lx,ZA0,ZA1,ZA4];omega))),(((List.drop x3.2.2.1 x3.1.rows).take (x3.1.rows.length-x3.2.2.1),(List.drop 0 x3.1.refs).take (List.length x3.1.refs),(List.drop 0 x3.1.last).take (List.length x3.1.last),x3.1.cg,(List.drop 0 x3.1.gone).take (List.length x3.1.gone),x3.1.bZ,(List.drop 0 x3.1.dead).take (List.length x3.1.dead),x3.1.same),x3.2.1),⟨⟨by show (((List.drop 0 x3.1.gone).take (List.length x3.1.gone)).length)≤20001;rw [ZB9];exact ZB0 (Nat.min_le_left _ _) hg,by show (((List.drop 0 x3.1.dead).take (List.length x3.1.dead)).length)≤20001;rw [ZB9];exact ZB0 (Nat.min_le_left _ _) hd⟩,w4.2.2.2⟩,ζ,ζ,ζ⟩
end
end GL
namespace GL
open Go.RowKit
theorem aoy (W:World) (A B:Obj):((W.alloc A).alloc B).heap[W.heap.size]?=some A∧W.heap.size<((W.alloc A).alloc B).heap.size:=by
 have h1:W.heap.size<(W.alloc A).heap.size:=by show _<(W.heap.push A).size;rw [Array.size_push];omega
 have h2:(W.alloc A).heap.size<((W.alloc A).alloc B).heap.size:=by show _<((W.alloc A).heap.push B).size;rw [Array.size_push];omega
 exact⟨(heap_alloc_old (W.alloc A) B h1).trans (heap_alloc_new W A),by omega⟩
theorem ap7 (W:World) (s0 s1 s2 amF amG amH amI amJ t0 t1 t2 t3 t4 t5 t6:Value) (sok nok:Bool) (n:Nat) (X:Nat→Option fu)
   (hSO:∀w,Below W.heap.size W w→Calls Tryz.prog 65 #[.agg #[s0,s1,s2,amF,amG,amH,amI,amJ]] w λe w'=>e= .returned (.bool sok)∧Below w.heap.size w w')
   (hND:∀w b,sok=true→Below W.heap.size W w→W.heap.size≤b→w.heap[b]?=some (.cells #[s0,s1,s2,amF,amG,amH,amI,amJ] 29 (0,0))→Calls Tryz.prog 78 #[.pointer (some ⟨b,0,none⟩),.agg #[t0,t1,t2,t3,t4,t5,t6]] w λe w'=>∃v,e= .returned (.tuple #[v,.bool nok])∧Below w.heap.size w w'∧(nok=true→anB w' v n X)):
   Calls Tryz.prog 44 #[.agg #[s0,s1,s2,amF,amG,amH,amI,amJ],.agg #[t0,t1,t2,t3,t4,t5,t6]] W λe w'=>∃v,e= .returned (.tuple #[v,.bool (sok&&nok)])∧Below W.heap.size W w'∧((sok&&nok)=true→anB w' v n X):=by
 go_enter Tryz.func44,Tryz.ntmps44
 have b0:Below W.heap.size W (W.alloc (.cells #[s0,s1,s2,amF,amG,amH,amI,amJ] 29)):=(Below.refl _ W).alloc (ZB5 _) _
 have b1:Below W.heap.size W ((W.alloc (.cells #[s0,s1,s2,amF,amG,amH,amI,amJ] 29)).alloc (.cells #[t0,t1,t2,t3,t4,t5,t6] 33)):=b0.alloc b0.size _
 go_wp2_with (go_at_call 65;refine (hSO _ b1).mono ?_)
 rintro e w1 ⟨rfl,c1⟩
 have b2:Below W.heap.size W w1:=b1.trans (c1.mono b1.size)
 cases sok with
 |false=>
  go_wp2
  go_ret2
  exact⟨_,rfl,b2,λh=>by cases h⟩
 |true=>
  have hst:w1.heap[W.heap.size]?=some (.cells #[s0,s1,s2,amF,amG,amH,amI,amJ] 29 (0,0)):=by
   rw [c1.block _ (aoy _ _ _).2];exact (aoy _ _ _).1
  have sS:w1.heap[(W.alloc (.cells #[s0,s1,s2,amF,amG,amH,amI,amJ] 29)).heap.size]?=some (Obj.cells #[t0,t1,t2,t3,t4,t5,t6] 33 (0,0)):=by
   rw [c1.block _ (by show _<((W.alloc _).heap.push _).size;rw [Array.size_push];omega)];exact heap_alloc_new _ _
  have dj:(W.alloc (.cells #[s0,s1,s2,amF,amG,amH,amI,amJ] 29)).heap.size=W.heap.size+1:=by show (W.heap.push _).size=_;rw [Array.size_push]
  rw [dj] at sS
  have f0:w1.cell? ⟨W.heap.size+1,0,none⟩=some t0:=by rw [rr sS];rfl
  have f1:w1.cell? ⟨W.heap.size+1,1,none⟩=some t1:=by rw [rr sS];rfl
  have f2:w1.cell? ⟨W.heap.size+1,2,none⟩=some t2:=by rw [rr sS];rfl
  have f3:w1.cell? ⟨W.heap.size+1,3,none⟩=some t3:=by rw [rr sS];rfl
  have f4:w1.cell? ⟨W.heap.size+1,4,none⟩=some t4:=by rw [rr sS];rfl
  have f5:w1.cell? ⟨W.heap.size+1,5,none⟩=some t5:=by rw [rr sS];rfl
  have f6:w1.cell? ⟨W.heap.size+1,6,none⟩=some t6:=by rw [rr sS];rfl
  go_wp2_with (go_at_call 78;refine (hND w1 W.heap.size (by simp) b2 (ZB5 _) hst).mono ?_)
  rintro e w2 ⟨v,rfl,c2,hv⟩
  go_wp2
  go_ret2
  exact⟨_,by cases nok<;>rfl,b2.trans (c2.mono b2.size),λh=>hv (by cases nok with |true=>rfl |false=>cases h)⟩
def atO (n:Nat) (X:Nat→Option fu) (k:Int):fu×Bool:=bif ik k 0 ((n:Int)-1) then (match X k.toNat with |some m=>(m,true) |none=>(nz,false)) else (nz,false)
theorem aqK {n:Nat}{X:Nat→Option fu}{k:Int}(h:ik k 0 ((n:Int)-1)=false):atO n X k=(nz,false):=by unfold atO;rw [h];rfl
theorem aqw {n:Nat}{X:Nat→Option fu}{k:Int}(h:X k.toNat=none):atO n X k=(nz,false):=by unfold atO;rw [h];cases ik k 0 ((n:Int)-1)<;>rfl
theorem aqv {n:Nat}{X:Nat→Option fu}{k:Int}{m:fu}(hi:ik k 0 ((n:Int)-1)=true) (h:X k.toNat=some m):atO n X k=(m,true):=by unfold atO;rw [hi,h];rfl
theorem anE {w:World}{b:Nat}{n:fu}(h:w.heap[b]?=some (Obj.cells (am3 n) 49 (0,0))):
  w.cell? ⟨b,0,none⟩=some (.int .i64 n.1)∧w.cell? ⟨b,1,none⟩=some (.int .i64 n.2.1)∧w.cell? ⟨b,2,none⟩=some (.int .i64 n.2.2.1)∧w.cell? ⟨b,3,none⟩=some (.int .i64 n.2.2.2.1)∧w.cell? ⟨b,4,none⟩=some (.int .i64 n.2.2.2.2.1)∧
  w.cell? ⟨b,5,none⟩=some (.int .i64 n.2.2.2.2.2.1)∧w.cell? ⟨b,6,none⟩=some (.int .i64 n.2.2.2.2.2.2.1)∧w.cell? ⟨b,7,none⟩=some (.int .i64 n.2.2.2.2.2.2.2.1)∧w.cell? ⟨b,8,none⟩=some (.int .i64 n.2.2.2.2.2.2.2.2.1)∧w.cell? ⟨b,9,none⟩=some (.int .i64 n.2.2.2.2.2.2.2.2.2):=
 ⟨rr h 0,rr h 1,rr h 2,rr h 3,rr h 4,rr h 5,rr h 6,rr h 7,rr h 8,rr h 9⟩
theorem anV {B b:Nat}{w w':World}(h:Below B w w') (hb:B≤b) (cs:Array Value):Below B w (w'.setRow b cs) where
 os:=h.os
 tape:=h.tape
 output:=h.output
 size:=by
  show w.heap.size≤(World.setRow w' b cs).heap.size
  unfold World.setRow
  simpa using h.size
 block:=λk hk=>(setRow_other w' b k cs (by omega)).trans (h.block k hk)
theorem apR (w:World) (v:Value) (n:Nat) (X:Nat→Option fu) (k:Int) (hN:anB w v n X) (hn:n≤16)
   (hWI:∀w1 (a b c:Int),Below w.heap.size w w1→Calls Tryz.prog 32 #[.int .i64 a,.int .i64 b,.int .i64 c] w1 λe w'=>e= .returned (.bool (ik a b c))∧Below w1.heap.size w1 w'):
   Calls Tryz.prog 49 #[v,.int .i64 k] w λe w'=>e= .returned (.tuple #[ndV (atO n X k).1,.bool (atO n X k).2])∧Below w.heap.size w w':=by
 obtain⟨B,rfl,f,hf,_,hX⟩:=hN
 have hB:B<w.heap.size:=by obtain⟨c,hc,_⟩:=hf;exact anG hc
 go_enter Tryz.func49,Tryz.ntmps49
 have b0:Below w.heap.size w (w.alloc (.cells (am3 nz) 49)):=(Below.refl _ w).alloc (ZB5 _) _
 have vE:∀w1,Below (w.alloc (.cells (am3 nz) 49)).heap.size (w.alloc (.cells (am3 nz) 49)) w1→w1.heap[w.heap.size]?=some (Obj.cells (am3 nz) 49 (0,0)):=λw1 c1=>(c1.block _ (by show _<(w.heap.push _).size;rw [Array.size_push];omega)).trans (heap_alloc_new w _)
 go_wp2_with (go_at_call 32;refine (hWI _ _ _ _ b0).mono ?_)
 rintro e w1 ⟨rfl,c1⟩
 have b1:Below w.heap.size w w1:=b0.trans (c1.mono b0.size)
 have hbx:=vE w1 c1
 have hW:(w1.setRow w.heap.size (am3 nz)).heap[w.heap.size]?=some (Obj.cells (am3 nz) 49 (0,0)):=setRow_heap _ _ (am3 nz) _ 49 (0,0) hbx
 cases hi:ik k 0 ((n:Int)-1) with
 |false=>
  go_wp2_with (refine wpList_store_row rfl _ _ _ rfl w.heap.size (am3 nz) rfl rfl 49 (am3 nz) hbx (by kernel_rfl) rfl (by simp [am3,Value.oneCell']) ?_)
  obtain⟨f0,f1,f2,f3,f4,f5,f6,f7,f8,f9⟩:=anE hW
  (try simp only [Exit.inBlock,Exit.then])
  refine bodyPost_ret (v:=.tuple #[ndV nz,.bool false]) ?_ rfl ?_
  ·rw [results_cell_tmp rfl]
   go_simp
  ·rw [aqK hi]
   exact⟨rfl,anV b1 (ZB5 _) _⟩
 |true=>
  have hb:0≤k∧k≤(n:Int)-1:=by simpa [ik] using hi
  obtain⟨j,rfl⟩:∃j:Nat,k=(j:Int):=⟨k.toNat,by omega⟩
  have hj:j<n:=by omega
  have agU:w1.cell? ⟨B,j,none⟩=some (f j):=(b1.cell (p:=⟨B,j,none⟩) hB).trans (hf.cell hj)
  have hXj:=hX j hj
  cases hx:X j with
  |none=>
   rw [hx] at hXj
   have hfj:f j= .pointer none:=hXj
   rw [hfj] at agU
   go_wp2_with (refine wpList_store_row rfl _ _ _ rfl w.heap.size (am3 nz) rfl rfl 49 (am3 nz) hbx (by kernel_rfl) rfl (by simp [am3,Value.oneCell']) ?_)
   obtain⟨f0,f1,f2,f3,f4,f5,f6,f7,f8,f9⟩:=anE hW
   (try simp only [Exit.inBlock,Exit.then])
   refine bodyPost_ret (v:=.tuple #[ndV nz,.bool false]) ?_ rfl ?_
   ·rw [results_cell_tmp rfl]
    go_simp
   ·rw [aqw (by rw [ZA5];exact hx)]
    exact⟨rfl,anV b1 (ZB5 _) _⟩
  |some m=>
   rw [hx] at hXj
   obtain⟨b,hfj,hbm⟩:=hXj
   rw [hfj] at agU
   have arv:w1.heap[b]?=some (Obj.cells (am3 m) 49 (0,0)):=(b1.block b (anG hbm)).trans hbm
   obtain⟨g0,g1,g2,g3,g4,g5,g6,g7,g8,g9⟩:=anE arv
   have hWm:(w1.setRow w.heap.size (am3 m)).heap[w.heap.size]?=some (Obj.cells (am3 m) 49 (0,0)):=setRow_heap _ _ (am3 nz) _ 49 (0,0) hbx
   go_wp2_with (refine wpList_store_row rfl _ _ _ rfl w.heap.size (am3 m) rfl rfl 49 (am3 nz) hbx (by kernel_rfl) rfl (by simp [am3,Value.oneCell']) ?_)
   obtain⟨f0,f1,f2,f3,f4,f5,f6,f7,f8,f9⟩:=anE hWm
   (try simp only [Exit.inBlock,Exit.then])
   refine bodyPost_ret (v:=.tuple #[ndV m,.bool true]) ?_ rfl ?_
   ·rw [results_cell_tmp rfl]
    go_simp
   ·rw [aqv hi (by rw [ZA5];exact hx)]
    exact⟨rfl,anV b1 (ZB5 _) _⟩
theorem anB.later {w w':World}{v:Value}{n:Nat}{X:Nat→Option fu}(h:anB w v n X) (hb:Below w.heap.size w w'):anB w' v n X:=by
 obtain⟨B,h1,h2⟩:=h
 exact⟨B,h1,h2.grow hb⟩
def arh (n:Nat) (X:Nat→Option fu):Nat→Nat→Int
 |0,_=> -1
 |f+1,k=>bif (atO n X (k:Int)).2 then arh n X f (k+1) else (k:Int)
theorem ant (W:World) (o:Obj):(W.alloc o).heap.size=W.heap.size+1:=by show (W.heap.push o).size=_;rw [Array.size_push]
section
variable (W:World) (s0 s1 s2 amF amG amH amI amJ t0 t1 t2 t3 t4 t5 t6:Value) (ok:Bool) (n:Nat) (X:Nat→Option fu)
def apn:Prop:=∀w,Below W.heap.size W w→Calls Tryz.prog 44 #[.agg #[s0,s1,s2,amF,amG,amH,amI,amJ],.agg #[t0,t1,t2,t3,t4,t5,t6]] w λe w'=>∃v,e= .returned (.tuple #[v,.bool ok])∧Below w.heap.size w w'∧(ok=true→anB w' v n X)
def ap5:Prop:=∀w1 (a b c:Int),Below W.heap.size W w1→Calls Tryz.prog 32 #[.int .i64 a,.int .i64 b,.int .i64 c] w1 λe w'=>e= .returned (.bool (ik a b c))∧Below w1.heap.size w1 w'
theorem ao8 (k:Int) (hn:ok=true→n≤16) (hT:apn W s0 s1 s2 amF amG amH amI amJ t0 t1 t2 t3 t4 t5 t6 ok n X) (hWI:ap5 W):Calls Tryz.prog 20 #[.agg #[s0,s1,s2,amF,amG,amH,amI,amJ],.agg #[t0,t1,t2,t3,t4,t5,t6],.int .i64 k] W λe w'=>e= .returned (.tuple #[ndV (bif ok then atO n X k else (nz,false)).1,.bool (bif ok then atO n X k else (nz,false)).2])∧Below W.heap.size W w':=by
 go_enter Tryz.func20,Tryz.ntmps20
 have b0:Below W.heap.size W (W.alloc (.cells #[s0,s1,s2,amF,amG,amH,amI,amJ] 29)):=(Below.refl _ W).alloc (ZB5 _) _
 have b1:Below W.heap.size W ((W.alloc (.cells #[s0,s1,s2,amF,amG,amH,amI,amJ] 29)).alloc (.cells #[t0,t1,t2,t3,t4,t5,t6] 33)):=b0.alloc b0.size _
 have b2:Below W.heap.size W (((W.alloc (.cells #[s0,s1,s2,amF,amG,amH,amI,amJ] 29)).alloc (.cells #[t0,t1,t2,t3,t4,t5,t6] 33)).alloc (.cells (am3 nz) 49)):=b1.alloc b1.size _
 have vE:∀w1,Below (((W.alloc (.cells #[s0,s1,s2,amF,amG,amH,amI,amJ] 29)).alloc (.cells #[t0,t1,t2,t3,t4,t5,t6] 33)).alloc (.cells (am3 nz) 49)).heap.size (((W.alloc (.cells #[s0,s1,s2,amF,amG,amH,amI,amJ] 29)).alloc (.cells #[t0,t1,t2,t3,t4,t5,t6] 33)).alloc (.cells (am3 nz) 49)) w1→w1.heap[W.heap.size+1+1]?=some (Obj.cells (am3 nz) 49 (0,0)):=λw1 c1=>by
  have h0:=heap_alloc_new ((W.alloc (.cells #[s0,s1,s2,amF,amG,amH,amI,amJ] 29)).alloc (.cells #[t0,t1,t2,t3,t4,t5,t6] 33)) (.cells (am3 nz) 49)
  rw [ant,ant] at h0
  exact (c1.block _ (by rw [ant,ant,ant];omega)).trans h0
 go_wp2_with (go_at_call 44;refine (hT _ b2).mono ?_)
 rintro e w1 ⟨v,rfl,c1,hN⟩
 have b3:Below W.heap.size W w1:=b2.trans (c1.mono b2.size)
 have hbx:=vE w1 c1
 have bU:W.heap.size+1+1<w1.heap.size:=anG hbx
 cases ok with
 |false=>
  have hW:(w1.setRow (W.heap.size+1+1) (am3 nz)).heap[W.heap.size+1+1]?=some (Obj.cells (am3 nz) 49 (0,0)):=setRow_heap _ _ (am3 nz) _ 49 (0,0) hbx
  go_wp2_with (refine wpList_store_row rfl _ _ _ rfl (W.heap.size+1+1) (am3 nz) rfl rfl 49 (am3 nz) hbx (by kernel_rfl) rfl (by simp [am3,Value.oneCell']) ?_)
  obtain⟨f0,f1,f2,f3,f4,f5,f6,f7,f8,f9⟩:=anE hW
  (try simp only [Exit.inBlock,Exit.then])
  refine bodyPost_ret (v:=.tuple #[ndV nz,.bool false]) ?_ rfl ?_
  ·rw [results_cell_tmp rfl]
   go_simp
  ·exact⟨rfl,anV b3 (by omega) _⟩
 |true=>
  have hNt:=hN rfl
  have hnt:=hn rfl
  clear hN hn
  go_wp2_with (go_at_call 49;refine (apR w1 v n X k hNt hnt λw2 a b c c2=>hWI w2 a b c (b3.trans (c2.mono b3.size))).mono ?_)
  rintro e w2 ⟨rfl,c2⟩
  have b4:Below W.heap.size W w2:=b3.trans (c2.mono b3.size)
  have arf:w2.heap[W.heap.size+1+1]?=some (Obj.cells (am3 nz) 49 (0,0)):=(c2.block _ bU).trans hbx
  have hW:(w2.setRow (W.heap.size+1+1) (am3 (atO n X k).1)).heap[W.heap.size+1+1]?=some (Obj.cells (am3 (atO n X k).1) 49 (0,0)):=setRow_heap _ _ (am3 nz) _ 49 (0,0) arf
  go_wp2_with (refine wpList_store_row rfl _ _ _ rfl (W.heap.size+1+1) (am3 (atO n X k).1) rfl rfl 49 (am3 nz) arf (by kernel_rfl) rfl (by simp [am3,Value.oneCell']) ?_)
  obtain⟨f0,f1,f2,f3,f4,f5,f6,f7,f8,f9⟩:=anE hW
  (try simp only [Exit.inBlock,Exit.then])
  refine bodyPost_ret (v:=.tuple #[ndV (atO n X k).1,.bool (atO n X k).2]) ?_ rfl ?_
  ·rw [results_cell_tmp rfl]
   go_simp
  ·exact⟨rfl,anV b4 (by omega) _⟩
def lsX (X:Nat→Option fu):Nat→Nat→List Int
 |0,_=>[]
 |f+1,k=>match X k with
  |none=>lsX X f (k+1)
  |some _=>(k:Int)::lsX X f (k+1)
structure aq7 (B:Nat) (ok:Bool) (l:List Int) (w:World) (v:Value):Prop where
 yes:ok=true→w.ownsRow B 3 1 v l.length (l.map (Value.int .i64))
 no:ok=false→v= .slice none 0 0
theorem ap9 {w:World}{B C:Nat}{e:TypeId}{v:Value}{n:Nat}{l:List Value}(h:w.ownsRow B e 1 v n l) (hb:C≤B):w.ownsRow C e 1 v n l:=by
 obtain⟨h1,h2 |⟨g,cap,cur,h2,h3,h4⟩⟩:=h
 ·exact⟨h1,.inl h2⟩
 ·exact⟨h1,.inr ⟨g,cap,cur,h2,ZB0 hb h3,h4⟩⟩
theorem aqn {w:World}{B:Nat}{e:TypeId}{v:Value}{n:Nat}{l:List Value}(h:w.ownsRow B e 1 v n l):∀k,v.ownBlock=some k→B≤k:=by
 obtain⟨h1,⟨rfl,_⟩ |⟨g,cap,cur,rfl,h3,h4⟩⟩:=h
 ·intro k hk;cases hk
 ·intro k hk;cases hk;exact h3
theorem aqC {w1 wr w2:World}{o:Obj}{B:Nat}{e:TypeId}{u v':Value}{out:List Int}{k:Int}(oa:wr.ownsRow B e 1 u out.length (out.map (Value.int .i64))) (hnx:Below B w1 wr) (hB:B≤wr.heap.size) (ap2:w2.ownsRow B e 1 v' (out.length+1) (out.map (Value.int .i64)++[.int .i64 k])) (ap3:(wr.alloc o).grownBy w2 u.ownBlock):
  w2.ownsRow B e 1 v' (out++[k]).length ((out++[k]).map (Value.int .i64))∧Below B w1 w2:=by
 refine⟨?_,?_⟩
 ·rw [ZA0,List.map_append];exact ap2
 ·exact Below.grown (hnx.alloc hB o) ap3 (by rw [ant];omega) (aqn oa)
theorem aoS (hn:ok=true→n≤16) (hT:apn W s0 s1 s2 amF amG amH amI amJ t0 t1 t2 t3 t4 t5 t6 ok n X):Calls Tryz.prog 16 #[.agg #[s0,s1,s2,amF,amG,amH,amI,amJ],.agg #[t0,t1,t2,t3,t4,t5,t6]] W λe w'=>∃v,e= .returned (.tuple #[v,.bool ok])∧Below W.heap.size W w'∧aq7 W.heap.size ok (lsX X n 0) w' v:=by
 have aqR:(Tryz.prog.info? 3).map (λi=>(i.zero,i.size,i.bytes))=some (some (.int .i64 0),1,8):=by kernel_rfl
 obtain⟨i0,hi,hz0,hz1,hz2⟩:=info_parts aqR
 have aro:Tryz.prog.underlying 24=some (.slice 3):=by kernel_rfl
 clear aqR
 go_enter Tryz.func16,Tryz.ntmps16
 have b0:Below W.heap.size W (W.alloc (.cells #[s0,s1,s2,amF,amG,amH,amI,amJ] 29)):=(Below.refl _ W).alloc (ZB5 _) _
 have b1:Below W.heap.size W ((W.alloc (.cells #[s0,s1,s2,amF,amG,amH,amI,amJ] 29)).alloc (.cells #[t0,t1,t2,t3,t4,t5,t6] 33)):=b0.alloc b0.size _
 go_wp2_with (go_at_call 44;refine (hT _ b1).mono ?_)
 rintro e w1 ⟨v,rfl,c1,hN⟩
 have b2:Below W.heap.size W w1:=b1.trans (c1.mono b1.size)
 cases ok with
 |false=>
  go_wp2
  go_ret2
  exact⟨_,rfl,b2,⟨λh=>(by cases h),λ_=>rfl⟩⟩
 |true=>
  have hnt:=hn rfl
  clear hn
  obtain⟨B,rfl,f,hf,_,hX⟩:=hN rfl
  have hB:B<w1.heap.size:=by obtain⟨c,hc,_⟩:=hf;exact anG hc
  go_wp2
  go_loopw [8,21] (λo i wr=>∃(k:Nat) (out:List Int),k≤n∧i= .int .i64 k∧out.length≤k∧out++lsX X (n-k) k=lsX X n 0∧wr.ownsRow w1.heap.size 3 1 o out.length (out.map (Value.int .i64))∧Below w1.heap.size w1 wr) (λ_ i _=>n-(intOf i).toNat)
  case atStart=>exact⟨0,[],ZA7 _,rfl,ZA7 _,rfl,World.ownsRow_nil _ _ _ _,Below.refl _ _⟩
  case round=>
   obtain⟨k,out,hk,rfl,hol,hg,oa,hnx⟩:=hrel
   by_cases bU:k<n
   ·have agU:wr.cell? ⟨B,k,none⟩=some (f k):=(hnx.cell (p:=⟨B,k,none⟩) hB).trans (hf.cell bU)
    have hXk:=hX k bU
    rw [show n-k=(n-(k+1))+1 by omega,lsX] at hg
    cases hx:X k with
    |none=>
     rw [hx] at hXk hg
     have hfk:f k= .pointer none:=hXk
     rw [hfk] at agU
     go_wp2
     refine⟨⟨k+1,out,bU,ζ,by omega,hg,oa,hnx⟩,?_⟩
     show n-((k:Int)+1).toNat<n-((k:Int)).toNat
     omega
    |some m=>
     rw [hx] at hXk hg
     obtain⟨b,hfk,_⟩:=hXk
     rw [hfk] at agU
     go_wp2_with (at_builtin;refine wpList_append_own _ rfl _ _ 24 rfl w1.heap.size 3 i0 (.int .i64 0) 1 8 aro hi hz0 hz1 hz2 rfl (by decide) _ _ _ rfl (oa.alloc _) ⟨wr.heap.size,0,none⟩ 1 1 [.int .i64 (k:Int)] rfl rfl ?c1 ?c2 ?c3 ?c4 ?c5 ?_)
     case c2=>rfl
     case c3=>unfold maxLen;omega
     case c4=>omega
     case c5=>have:=hnx.size;simp;omega
     ·intro v' w2 ap2 ap3 _
      have hr:=aqC oa hnx hnx.size ap2 ap3
      clear ap2 ap3 oa agU
      go_wp2
      refine⟨⟨k+1,out++[(k:Int)],bU,ζ,by rw [ZA0];exact Nat.succ_le_succ hol,by rw [ZD2];exact hg,hr.1,hr.2⟩,?_⟩
      show n-((k:Int)+1).toNat<n-((k:Int)).toNat
      omega
   ·have hkk:k=n:=by omega
    subst hkk
    rw [Nat.sub_self,lsX,ZE5] at hg
    go_wp2
    go_ret2
    exact⟨_,rfl,b2.trans (hnx.mono b2.size),⟨λ_=>by rw [←hg];exact ap9 oa b2.size,λh=>by cases h⟩⟩
end
end GL
namespace GL
abbrev txA (S:ay) (t:bf) (k:Nat):ByteArray:=nth ab (bo S t) k
def ndX (S:ay) (t:bf) (k:Nat):Option fu:=bif decide (txA S t k=⟨#[]⟩) then none else some (bz (txA S t k)).1
theorem aqj {s:ay}{X:List ByteArray}:∀{f k:Nat},k+f=X.length→aoz (λk=>decide (nth ab X k=⟨#[]⟩)) (λk=>(bz (nth ab X k)).2) (λk=>qJ s (cT (bz (nth ab X k)).1)) f k=anh s (X.drop k)
 |0,k,h=>by rw [ZB3 (by omega)];rfl
 |f+1,k,h=>by
  rw [bW (ek:=ab) (show k<X.length by omega),aoz,anh,aqj (f:=f) (k:=k+1) (by omega)]
theorem aoA {s:ay}:∀{l:List ByteArray},anh s l=true→∀x∈l,x≠⟨#[]⟩→(bz x).2=true∧qJ s (cT (bz x).1)=true
 |y::l,h,x,hx,fA=>by
  rw [anh] at h
  cases h1:decide (y=⟨#[]⟩) with
  |true=>
   rw [h1,cond_true] at h
   rcases ZB8.1 hx with rfl |hx
   ·exact absurd (aJ h1) fA
   ·exact aoA h x hx fA
  |false=>
   rw [h1,cond_false] at h
   cases h2:(bz y).2 with
   |false=>rw [h2] at h;cases h
   |true=>
    rw [h2,Bool.not_true,cond_false] at h
    cases h3:qJ s (cT (bz y).1) with
    |false=>rw [h3] at h;cases h
    |true=>
     rw [h3,Bool.not_true,cond_false] at h
     rcases ZB8.1 hx with rfl |hx
     ·exact⟨h2,h3⟩
     ·exact aoA h x hx fA
section
variable {S:ay}{t:bf}
theorem anW (h:amZ S t=true):(bo S t).length=t.many.toNat∧0≤t.many∧t.many≤16:=by
 have h2:=(aof h).2.1
 exact⟨fq (anX h2),(ao3 h2).1⟩
theorem aqV (h:amZ S t=true) (k:Int):atO t.many.toNat (ndX S t) k=cK S t k:=by
 obtain⟨_,h2,h3⟩:=aof h
 obtain⟨hl,h0,h1⟩:=anW h
 have e:((t.many.toNat:Int)-1)=t.many-1:=by omega
 unfold atO
 rw [e]
 cases hi:ik k 0 (t.many-1) with
 |false=>rw [aet (by rw [hi];rfl)];rfl
 |true=>
  have hb:=cC.1 hi
  rw [aes (by rw [hi];rfl),cond_true,←xO (anX h2) (by omega)]
  unfold ndX txA
  cases hx:decide (nth ab (bo S t) k.toNat=⟨#[]⟩) with
  |true=>rw [aJ hx,fH];rfl
  |false=>
   have hg:=(aoA h3 _ (bR (ek:=ab) (l:=bo S t) (k:=k.toNat) (by omega)) (aA hx)).1
   exact Prod.ext rfl hg.symm
theorem arw (h:amZ S t=true) (k:Nat):(atO t.many.toNat (ndX S t) (k:Int)).2= !(decide ((k:Int)≥((bo S t).length:Int))||decide (nth ab (bo S t) k=⟨#[]⟩)):=by
 obtain⟨hl,h0,h1⟩:=anW h
 unfold atO
 cases hi:ik (k:Int) 0 ((t.many.toNat:Int)-1) with
 |false=>
  have:decide ((k:Int)≥((bo S t).length:Int))=true:=by
   refine decide_eq_true ?_
   refine Decidable.byContradiction λhc=>?_
   rw [cC.2 ⟨by omega,by omega⟩] at hi;cases hi
  rw [this];rfl
 |true=>
  have hb:=cC.1 hi
  have:decide ((k:Int)≥((bo S t).length:Int))=false:=decide_eq_false (by omega)
  rw [this,cond_true,ZA5,Bool.false_or]
  unfold ndX txA
  cases hx:decide (nth ab (bo S t) k=⟨#[]⟩)<;>rfl
theorem aqO:∀{f k:Nat},k+f=(bo S t).length→lsX (ndX S t) f k=anJ ((bo S t).drop k) k
 |0,k,h=>by rw [ZB3 (by omega)];rfl
 |f+1,k,h=>by
  rw [bW (ek:=ab) (show k<(bo S t).length by omega),lsX,anJ,aqO (f:=f) (k:=k+1) (by omega)]
  have e:ndX S t k=bif decide (nth ab (bo S t) k=⟨#[]⟩) then none else some (bz (nth ab (bo S t) k)).1:=rfl
  rw [e]
  by_cases hx:nth ab (bo S t) k=⟨#[]⟩
  ·rw [decide_eq_true hx,decide_eq_false (p:=nth ab (bo S t) k≠⟨#[]⟩) (λh=>h hx)];rfl
  ·rw [decide_eq_false hx,decide_eq_true (p:=nth ab (bo S t) k≠⟨#[]⟩) hx];rfl
end
end GL
namespace GL
open Go.RowKit
abbrev stV (S:ay):List SV:=[.vz ab S.rows,.vz ag S.refs,.vz ag S.last,.int S.cg,.vz ae S.gone,.int S.bZ,.vz ae S.dead,.q S.same]
theorem ao6 {S:ay}{t:bf}(h:(py S t).2=true) {k:Nat}(hk:k<(py S t).1.length):txA S t k=(bF S (py S t).1[k]).1∧decide (txA S t k=⟨#[]⟩)=au (py S t).1[k]:=by
 have hn:nth ae (py S t).1 k=(py S t).1[k]:=by unfold nth;rw [ZB1 hk]
 have e:txA S t k=(bF S (py S t).1[k]).1:=by
  unfold txA bo sW
  rw [apK h]
  unfold nth
  rw [List.getElem?_map,ZB1 hk];rfl
 refine⟨e,?_⟩
 rw [e]
 have h2:=(apr h).2 _ (List.getElem_mem hk)
 generalize (py S t).1[k]=p at *
 cases hh:au p with
 |true=>rw [fT hh];exact decide_eq_true rfl
 |false=>
  cases hf:iX p (nth ab S.rows p.1.toNat) with
  |false=>rw [LP hh hf] at h2;cases h2.2
  |true=>
   rw [yc hh hf]
   have hb:=pT h2.1.1
   unfold iX at hf
   simp only [ZA9,decide_eq_true_eq] at hf
   have hp:=h2.1.1
   unfold aZ at hp
   rw [hh,Bool.false_or] at hp
   simp only [ZA9] at hp
   have h1:=cC.1 hp.1.1.2
   refine decide_eq_false λhe=>?_
   have he:nth ab S.rows p.1.toNat=⟨#[]⟩:=he
   rw [he] at hf
   have h3:p.2.2.1=((⟨#[]⟩:ByteArray).size:Int):=hf.2.2.1
   have h4:((⟨#[]⟩:ByteArray).size:Int)=0:=rfl
   omega
theorem aqW {S:ay}{t:bf}(h:ay.rd S) (k:Nat):(txA S t k).size≤1000000:=WS (wv h) k
theorem aq2 {T:bb}{β:Nat→Nat}{n:fu}{y:Value}(h:A0.rel T β (ndA n) y):y=ndV n:=by
 obtain⟨n1,n2,n3,n4,n5,n6,n7,n8,n9,cw⟩:=n
 obtain⟨⟨l⟩,rfl,g⟩:=(show A0.rel T β (.a [.int n1,.int n2,.int n3,.int n4,.int n5,.int n6,.int n7,.int n8,.int n9,.int cw]) y from h)
 have g:dN T β [.int n1,.int n2,.int n3,.int n4,.int n5,.int n6,.int n7,.int n8,.int n9,.int cw] l:=g
 obtain⟨amK,l1,rfl,e1,h1⟩:=amW g
 obtain⟨amL,l2,rfl,e2,h2⟩:=amW h1
 obtain⟨amM,l3,rfl,e3,h3⟩:=amW h2
 obtain⟨amN,amx,rfl,e4,h4⟩:=amW h3
 obtain⟨amO,amy,rfl,e5,h5⟩:=amW h4
 obtain⟨amP,amz,rfl,e6,h6⟩:=amW h5
 obtain⟨amQ,amA,rfl,e7,h7⟩:=amW h6
 obtain⟨u8,amB,rfl,e8,h8⟩:=amW h7
 obtain⟨amR,amC,rfl,e9,h9⟩:=amW h8
 obtain⟨u10,l10,rfl,e10,h10⟩:=amW h9
 obtain rfl:=aoB h10
 have e1:amK= .int .i64 n1:=e1
 have e2:amL= .int .i64 n2:=e2
 have e3:amM= .int .i64 n3:=e3
 have e4:amN= .int .i64 n4:=e4
 have e5:amO= .int .i64 n5:=e5
 have e6:amP= .int .i64 n6:=e6
 have e7:amQ= .int .i64 n7:=e7
 have e8:u8= .int .i64 n8:=e8
 have e9:amR= .int .i64 n9:=e9
 have e10:u10= .int .i64 cw:=e10
 subst e1 e2 e3 e4 e5 e6 e7 e8 e9 e10
 rfl
section
variable {T:bb}{W:World}{β:Nat→Nat}{S:ay}{t:bf}{s0 s1 s2 amF amG amH amI amJ:Value}
theorem apo (hT:WT T W) (hN:UQ T):ap5 W:=by
 intro w a b c hb
 refine ((fM.1 (a,b,c) () aa).lib (β:=λi=>i) (vs:=[.int .i64 a,.int .i64 b,.int .i64 c]) rfl hT hN ⟨rfl,rfl,rfl,aa⟩ hb).mono ?_
 rintro e w' ⟨v,r,os,T',β',rfl,⟨z,_,rfl,_⟩,hv,hB,_⟩
 have hv:v= .bool (ik a b c):=hv
 subst hv
 exact⟨rfl,hB⟩
theorem apt (hT:WT T W) (hN:UQ T) (hs:dN T β (stV S) [s0,s1,s2,amF,amG,amH,amI,amJ]) (hg:S.gone.length≤1000000) (hd:S.dead.length≤1000000):
  apn W s0 s1 s2 amF amG amH amI amJ (.int .i64 t.1) (.int .i64 t.2.1) (.int .i64 t.2.2.1) (.int .i64 t.2.2.2.1) (.int .i64 t.2.2.2.2.1) (.int .i64 t.2.2.2.2.2.1) (.int .i64 t.2.2.2.2.2.2) (amZ S t) t.many.toNat (ndX S t):=by
 intro w hb
 refine (ap7 w s0 s1 s2 amF amG amH amI amJ _ _ _ _ _ _ _ (iI S) (aot S t) t.many.toNat (ndX S t) ?_ ?_)
 ·intro w1 c1
  refine ((W7.1 S () ⟨hg,hd⟩).lib (β:=β) (vs:=[.agg #[s0,s1,s2,amF,amG,amH,amI,amJ]]) rfl hT hN ⟨⟨_,rfl,hs⟩,aa⟩ (hb.trans (c1.mono hb.size))).mono ?_
  rintro e w' ⟨v,r,os,T',β',rfl,⟨z,_,rfl,_⟩,hv,hB,_⟩
  have hv:v= .bool (iI S):=hv
  subst hv
  exact⟨rfl,hB⟩
 ·intro w1 b cG c1 FL hc
  obtain⟨amq,hA⟩:=apI.boxed (S:=S) (β:=β) hT hN hs (hb.trans (c1.mono hb.size)) (ZB0 hb.size FL) hc
  have hst:KK S:=QM.1 cG
  have htl:(py S t).2=qJ S t:=by rw [YI,cG];rfl
  have ahN:∀u:bf,vh S u:=λu=>⟨hst.rd,by have:=hst.cg;omega⟩
  have hL:qJ S t=true→(py S t).1=(bA S t).1.take t.many.toNat:=λh=>by rw [K9 cG h]
  have hlen:(py S t).1.length≤16:=by
   cases h:(py S t).2 with
   |true=>exact ap6 h
   |false=>rw [YI] at h;rw [apq h];exact ZA7 _
  have aq4:∀k,k<(py S t).1.length→(py S t).2=true:=λk hk=>by
   cases h:(py S t).2 with
   |true=>rfl
   |false=>rw [YI] at h;rw [apq h] at hk;cases hk
  have key:=aqb w1 (.pointer (some ⟨b,0,none⟩)) (.int .i64 t.1) (.int .i64 t.2.1) (.int .i64 t.2.2.1) (.int .i64 t.2.2.2.1) (.int .i64 t.2.2.2.2.1) (.int .i64 t.2.2.2.2.2.1) (.int .i64 t.2.2.2.2.2.2) (qJ S t) (py S t).1 (λk=>decide (txA S t k=⟨#[]⟩)) (λk=>(bz (txA S t k)).2) (λk=>qJ S (cT (bz (txA S t k)).1)) (λk=>txA S t k) (λk=>(bz (txA S t k)).1) hlen ?_ ?_ ?_ ?_ ?_
  ·have htab:(bif qJ S t then aoz (λk=>decide (txA S t k=⟨#[]⟩)) (λk=>(bz (txA S t k)).2) (λk=>qJ S (cT (bz (txA S t k)).1)) (py S t).1.length 0 else false)=aot S t:=by
    cases h:qJ S t with
    |false=>rw [apM h];rfl
    |true=>
     have hm:=an1 (htl.trans h)
     have hl:=fq (s:=S) (anX h)
     rw [apL h,cond_true]
     exact aqj (s:=S) (X:=bo S t) (f:=(py S t).1.length) (k:=0) (by rw [hl];omega)
   rw [htab] at key
   refine key.mono ?_
   rintro e w' ⟨v,rfl,hB,hv⟩
   refine⟨v,ζ,hB,λh=>?_⟩
   have h2:=hv h
   have hm:=an1 (htl.trans (ao9 h))
   rw [show (py S t).1.length=t.many.toNat by omega] at h2
   exact h2
  ·intro w2 c2
   refine (aob hA t (ahN t) (λh=>(ao3 h).2) c2).mono ?_
   rintro e w' ⟨v,rfl,hB,hv⟩
   exact⟨v,rfl,hB,λh=>by rw [hL h];exact hv h⟩
  ·intro w2 k hk c2
   rw [(ao6 (aq4 k hk) hk).2]
   generalize (py S t).1[k]=p
   obtain⟨p1,p2,p3,p4,p5⟩:=p
   refine ((eO.1 (p1,p2,p3,p4,p5) () aa).lib (β:=β) (vs:=[ptV (p1,p2,p3,p4,p5)]) rfl hA.wt hA.no ⟨⟨_,rfl,rfl,rfl,rfl,rfl,rfl,aa⟩,aa⟩ c2).mono ?_
   rintro e w' ⟨v,r,os,T',β',rfl,⟨z,_,rfl,_⟩,hv,hB,_⟩
   have hv:v= .bool (au (p1,p2,p3,p4,p5)):=hv
   subst hv
   exact⟨rfl,hB⟩
  ·intro w2 k hk c2
   have h2:=((apr (aq4 k hk)).2 _ (List.getElem_mem hk)).1.1
   refine (apU hA (py S t).1[k] ⟨hst.rd.sz,hst.len,h2⟩ c2).mono ?_
   rintro e w' ⟨rfl,hB⟩
   refine⟨⟨(bF S (py S t).1[k]).2,?_⟩,hB⟩
   rw [(ao6 (aq4 k hk) hk).1]
  ·intro w2 k hk c2
   refine ((apS.1 (txA S t k) () (aqW hst.rd k)).lib (β:=β) (vs:=[.string (txA S t k)]) rfl hA.wt hA.no ⟨rfl,aa⟩ c2).mono ?_
   rintro e w' ⟨v,r,os,T',β',rfl,⟨z,_,rfl,_⟩,hv,hB,_⟩
   have hv1:AV.rel T' β' (.t [ndA (bz (txA S t k)).1,.s (.q (bz (txA S t k)).2)]) v:=hv
   obtain⟨⟨vs⟩,rfl,hv2⟩:=hv1
   match vs,(show uD T' β' [ndA (bz (txA S t k)).1,.s (.q (bz (txA S t k)).2)] vs from hv2) with
   |[y,q],⟨hy,hq,_⟩=>
    have hq:q= .bool (bz (txA S t k)).2:=hq
    have hy:=aq2 hy
    subst hq hy
    exact⟨rfl,hB⟩
  ·intro w2 k hk c2
   refine (aob hA (cT (bz (txA S t k)).1) (ahN _) (λh=>(ao3 h).2) c2).mono ?_
   rintro e w' ⟨v,rfl,hB,_⟩
   exact⟨v,rfl,hB⟩
theorem apY {S:ay}{t:bf}{l:List AV}{vs:List Value}(h:r9 T β (.o (.a (stV S))::.o (.a [.int t.1,.int t.2.1,.int t.2.2.1,.int t.2.2.2.1,.int t.2.2.2.2.1,.int t.2.2.2.2.2.1,.int t.2.2.2.2.2.2])::l) vs):
  ∃s0 s1 s2 amF amG amH amI amJ r,vs= .agg #[s0,s1,s2,amF,amG,amH,amI,amJ]::trV t::r∧dN T β (stV S) [s0,s1,s2,amF,amG,amH,amI,amJ]∧r9 T β l r:=by
 obtain⟨v0,r0,rfl,⟨⟨l0⟩,rfl,hs⟩,hr⟩:=aoj h
 obtain⟨v1,r1,rfl,⟨⟨l1⟩,rfl,ht⟩,hr1⟩:=aoj hr
 have hs0:=hs
 obtain⟨s0,m0,rfl,g0,hs1⟩:=amW hs
 obtain⟨s1,m1,rfl,g1,hs2⟩:=amW hs1
 obtain⟨s2,m2,rfl,g2,hs3⟩:=amW hs2
 obtain⟨amF,m3,rfl,g3,hs4⟩:=amW hs3
 obtain⟨amG,m4,rfl,g4,hs5⟩:=amW hs4
 obtain⟨amH,m5,rfl,g5,hs6⟩:=amW hs5
 obtain⟨amI,m6,rfl,g6,hs7⟩:=amW hs6
 obtain⟨amJ,m7,rfl,g7,hs8⟩:=amW hs7
 obtain rfl:=aoB hs8
 obtain⟨amK,k1,rfl,f1,ht2⟩:=amW ht
 obtain⟨amL,k2,rfl,f2,ht3⟩:=amW ht2
 obtain⟨amM,k3,rfl,f3,ht4⟩:=amW ht3
 obtain⟨amN,k4,rfl,f4,ht5⟩:=amW ht4
 obtain⟨amO,k5,rfl,f5,ht6⟩:=amW ht5
 obtain⟨amP,amv,rfl,f6,ht7⟩:=amW ht6
 obtain⟨amQ,amw,rfl,f7,ht8⟩:=amW ht7
 obtain rfl:=aoB ht8
 have f1:amK= .int .i64 t.1:=f1
 have f2:amL= .int .i64 t.2.1:=f2
 have f3:amM= .int .i64 t.2.2.1:=f3
 have f4:amN= .int .i64 t.2.2.2.1:=f4
 have f5:amO= .int .i64 t.2.2.2.2.1:=f5
 have f6:amP= .int .i64 t.2.2.2.2.2.1:=f6
 have f7:amQ= .int .i64 t.2.2.2.2.2.2:=f7
 subst f1 f2 f3 f4 f5 f6 f7
 exact⟨s0,s1,s2,amF,amG,amH,amI,amJ,r1,rfl,hs0,hr1⟩
theorem apX (h:amZ S t=true):t.many.toNat≤16:=by have:=(anW h).2;omega
end
abbrev trP:AP:=.a [.int,.int,.int,.int,.int,.int,.int]
theorem aqB {T:bb}{β:Nat→Nat}(n:fu):(A0.rel T β (ndA n) (ndV n)):=by
 obtain⟨n1,n2,n3,n4,n5,n6,n7,n8,n9,cw⟩:=n
 exact⟨_,rfl,rfl,rfl,rfl,rfl,rfl,rfl,rfl,rfl,rfl,rfl,trivial⟩
noncomputable def anU:cn:=X3 [.a xv,trP,.s .int] (λx=>an6 x.1 x.2.1) λx=>.t [ndA (anP x.1 x.2.1 x.2.2).1,.s (.q (anP x.1 x.2.1 x.2.2).2)]
theorem aop:Has Tryz.prog 20 anU:=by
 refine Has.lib ⟨_,Tryz.func20,by rfl,by decide⟩ (λx=>⟨rfl,rfl⟩) λ(x:ay×bf×Int) (hp:an6 x.1 x.2.1) W T β vs hT hN c6=>?_
 obtain⟨s0,s1,s2,amF,amG,amH,amI,amJ,r,rfl,hs,hr⟩:=apY (l:=[.o (.s (.int x.2.2))]) c6
 obtain⟨v,r1,rfl,hv,hr⟩:=aoj hr
 obtain rfl:=apw hr
 have hv:v= .int .i64 x.2.2:=hv
 subst hv
 refine (ao8 W s0 s1 s2 amF amG amH amI amJ _ _ _ _ _ _ _ (amZ x.1 x.2.1) x.2.1.many.toNat (ndX x.1 x.2.1) x.2.2 apX (apt hT hN hs hp.1 hp.2) (apo hT hN)).mono ?_
 rintro e w' ⟨rfl,hB⟩
 refine⟨_,ζ,hB,?_⟩
 have e:(bif amZ x.1 x.2.1 then atO x.2.1.many.toNat (ndX x.1 x.2.1) x.2.2 else (nz,false))=anP x.1 x.2.1 x.2.2:=by
  cases h:amZ x.1 x.2.1 with
  |false=>rw [aqz h];rfl
  |true=>rw [apW h,cond_true,aqV h]
 rw [e]
 exact⟨_,rfl,aqB _,rfl,trivial⟩
theorem aqf (l:List Int):flat ag l=l.map (Value.int .i64):=by
 induction l with
 |nil=>rfl
 |cons x l ih=>rw [iS,ZE7,←ih];rfl
noncomputable def anK:cn:=X3 [.a xv,trP] (λx=>an6 x.1 x.2) λx=>.t [.s (.vw ag (am2 x.1 x.2).1),.s (.q (am2 x.1 x.2).2)]
theorem an9:Has Tryz.prog 16 anK:=by
 refine Has.lib ⟨_,Tryz.func16,by rfl,by decide⟩ (λx=>⟨rfl,rfl⟩) λ(x:ay×bf) (hp:an6 x.1 x.2) W T β vs hT hN c6=>?_
 obtain⟨s0,s1,s2,amF,amG,amH,amI,amJ,r,rfl,hs,hr⟩:=apY (l:=[]) c6
 obtain rfl:=apw hr
 refine (aoS W s0 s1 s2 amF amG amH amI amJ _ _ _ _ _ _ _ (amZ x.1 x.2) x.2.many.toNat (ndX x.1 x.2) apX (apt hT hN hs hp.1 hp.2)).mono ?_
 rintro e w' ⟨v,rfl,hB,hv⟩
 refine⟨_,ζ,hB,?_⟩
 cases h:amZ x.1 x.2 with
 |false=>
  have hv:=hv.no h
  subst hv
  rw [an3 h]
  exact⟨_,rfl,.inl ⟨rfl,none,0,rfl⟩,rfl,trivial⟩
 |true=>
  have hv:=hv.yes h
  rw [anO h]
  have hl:=anW h
  have e:=aqO (S:=x.1) (t:=x.2) (f:=x.2.many.toNat) (k:=0) (by rw [hl.1];omega)
  rw [ZF0] at e
  rw [e] at hv
  refine⟨_,ζ,?_,ζ,aa⟩
  obtain⟨_,⟨rfl,h0⟩ |⟨g,cap,cur,rfl,FL,hc,EY,_,_,ht⟩⟩:=hv
  ·exact .inl ⟨List.eq_nil_of_length_eq_zero h0,none,0,rfl⟩
  ·refine .inr ⟨g,0,cap,cur,_,_,rfl,EY,adw FL hc,?_⟩
   rw [aqf]
   refine FY ?_
   rw [ZF0,ZG5]
   rw [Nat.mul_one] at ht
   exact ht
end GL
namespace GL
noncomputable section
structure LsW (S:ay) (t:bf) (k a:Nat):Prop where
 k16:k≤16
 al:a≤(am2 S t).1.length
 e:(am2 S t).1.drop a=anJ ((bo S t).drop k) k
theorem LsW.z {S:ay}{t:bf}(h:amZ S t=true):LsW S t 0 0:=⟨ZA7 _,ZA7 _,by rw [anO h];rfl⟩
theorem aqQ {S:ay}{t:bf}(h:amZ S t=true) (k:Nat):(anP S t (k:Int)).2= !(decide ((k:Int)≥((bo S t).length:Int))||decide (nth ab (bo S t) k=⟨#[]⟩)):=by
 rw [apW h,←aqV h,arw h]
theorem LsW.yes {S:ay}{t:bf}{k a:Nat}(hT:amZ S t=true) (h:LsW S t k a) (hk:k<16) (hi:(anP S t (k:Int)).2=true):a<(am2 S t).1.length∧nth ag (am2 S t).1 a=(k:Int)∧LsW S t (k+1) (a+1):=by
 rw [aqQ hT] at hi
 obtain⟨h1,h2⟩:=ZE1.1 (uv hi)
 have hl:k<(bo S t).length:=by have:=aA h1;omega
 have he:=h.e
 rw [bW (ek:=ab) hl,anJ,decide_eq_true (p:=nth ab (bo S t) k≠⟨#[]⟩) (aA h2),cond_true] at he
 have ha:a<(am2 S t).1.length:=by
  refine Decidable.byContradiction λhc=>?_
  rw [ZB3 (by omega)] at he;cases he
 rw [bW (ek:=ag) ha] at he
 injection he with h3 h4
 exact⟨ha,h3,hk,ha,h4⟩
theorem LsW.no {S:ay}{t:bf}{k a:Nat}(hT:amZ S t=true) (h:LsW S t k a) (hk:k<16) (hi:(anP S t (k:Int)).2=false):LsW S t (k+1) a:=by
 rw [aqQ hT] at hi
 refine⟨hk,h.al,h.e.trans ?_⟩
 by_cases hl:k<(bo S t).length
 ·rw [bW (ek:=ab) hl,anJ]
  have h1:decide ((k:Int)≥((bo S t).length:Int))=false:=decide_eq_false (by omega)
  rw [h1,Bool.false_or,Bool.not_eq_false'] at hi
  rw [decide_eq_false (p:=nth ab (bo S t) k≠⟨#[]⟩) (λh=>h (aJ hi))];rfl
 ·rw [ZB3 (by omega),ZB3 (by omega)];rfl
theorem LsW.f {S:ay}{t:bf}{a:Nat}(hT:amZ S t=true) (h:LsW S t 16 a):a=(am2 S t).1.length:=by
 have hl:=anW hT
 have h1:=congrArg List.length h.e
 rw [ZB3 (show (bo S t).length≤16 by omega),ZC8] at h1
 have h2:=h.al
 have h3:(anJ [] 16).length=0:=rfl
 omega
theorem aqh {S:ay}{t:bf}:(am2 S t).2=amZ S t:=by
 cases h:amZ S t with
 |true=>rw [anO h]
 |false=>rw [an3 h]
theorem aps (S:ay) (t:bf):(am2 S t).1.length≤16:=by
 cases h:amZ S t with
 |true=>
  have h1:=anW h
  have h2:=aoJ (bo S t) 0
  rw [anO h];show (anJ (bo S t) 0).length≤16;omega
 |false=>rw [an3 h];exact ZA7 _
theorem aqi (S:ay) (t:bf):(am2 S t).1.length≤1000000:=ZB0 (aps S t) (by decide)
def anL (c:List Int):Prop:=ari c
def am1 (c:List Int):AV:=.s (.q true)
def aoF (c:List Int):List AV:=[]
def ao0:cn where
 A:=[.s (.vw mf)]
 B:=[]
 pre:=λx b=>anL x
 r:=λx b _=>am1 x
 o:=λx b _=>aoF x
theorem aoW:Has Tryz.prog 6 ao0:=by
 refine Has.zB zT zF zF (l:=[(21,am6),(16,anK),(22,ann),(20,anU),(23,anT)]) ⟨anN,an9,aoq,aop,apF,aa⟩ Tryz.func6 ?_
 rintro (c:List Int) _ (hp:anL c)
 show vc _ _ _ _ (entry [.s (.vw mf c)] []) _
 have hb:ari c:=hp
 refine⟨λw1=>?_,λw2=>⟨⟨tv2,?_⟩,λx3 w4=>⟨⟨⟨tv9,tv8,aa⟩,?_,?_⟩,λx5 w6=>⟨⟨⟨tv9,tv8,aa⟩,?_,?_⟩,λx7 w8=>⟨⟨tv3,?_,?_⟩,λx9 dy=>⟨aa,λkA=>⟨aa,λdJ=>?_,λiU=>⟨λgO=>?_,λqK=>?_⟩⟩,λkg=>⟨aa,λxh=>?_,λrS=>⟨λoL=>?_,λuI=>?_⟩⟩⟩⟩⟩⟩⟩⟩
 all_goals first|refine aw ?_|refine ax ?_|exact a8|(dsimp only [am6,am7,ann,anj,anT,anH];omega)|exact a7|exact ZB0 w4.1.1 (by decide)|exact ZB0 w4.1.2 (by decide)|skip
 ·refine⟨[],[],_,_,_,ζ,az,(),aa,?_,?_,ζ⟩
  ·(show _=am1 c);unfold am1;first|rfl
  ·rfl
 ·have h:=aA (p:=(c.length:Int)>1048576) w2
  exact (akb.mk (l:=c) (by omega) hb.jK)
 ·exact aqi x3.1 x3.2
 ·exact absurd (show (!((am2 x3.1 x3.2).2==(am2 x3.1 x3.2).2))=true from dJ) (by simp)
 ·refine⟨[],[],_,_,_,ζ,az,(),aa,?_,?_,ζ⟩
  ·show AV.q _=am1 c;unfold am1;refine congrArg AV.q ?_;simp
  ·rfl
 ·have cG:amZ x3.1 x3.2=true:=aqh.symm.trans (cL qK)
  have h16:(am2 x3.1 x3.2).1.length≤16:=aps x3.1 x3.2
  refine lW (l:=[(21,am6),(16,anK),(22,ann),(20,anU),(23,anT)]) (ex:=zT) (wr:=zF) (pt:=zF) ⟨anN,an9,aoq,aop,apF,aa⟩ [.s 3,.s 4,.b 1003,.b 1004,.s 5] (λy:Nat×Nat=>[(.s 10,.int y.2),(.s 11,.int y.1)]) (λy=>LsW x3.1 x3.2 y.1 y.2) (λy=>16-y.1) (0,0) [] (LsW.z cG) dM ?_
  rintro⟨k,a⟩ (hI:LsW x3.1 x3.2 k a)
  have rK:=hI.k16
  have hal:=hI.al
  have cm:decide ((k:Int)<16)=true→k<16:=λh=>by have:=aJ h;omega
  have hy:=λ(h1:decide ((k:Int)<16)=true) (h4:(anP x3.1 x3.2 (k:Int)).2=true)=>hI.yes cG (cm h1) h4
  refine⟨λw1=>⟨⟨⟨tv9,tv8,tv2⟩,?_,?_⟩,λx2 w3=>⟨λw4=>⟨aa,λw5=>?_,λw6=>⟨⟨?_,?_⟩,λw7=>?_,λw8=>⟨⟨?_,?_⟩,⟨?_,?_⟩,?_⟩⟩⟩,λw9=>⟨⟨?_,?_⟩,?_⟩⟩⟩,λdy=>?_⟩
  all_goals first|refine aw ?_|refine ax ?_|exact a8|(dsimp only [am6,am7,ann,anj,anT,anH];omega)|exact a7|exact ZB0 w4.1.1 (by decide)|exact ZB0 w4.1.2 (by decide)|(unfold imax;have:=cm w1;omega)|(unfold imax;omega)|(show ((a:Int))<((am2 x3.1 x3.2).1.length:Int);have:=(hy w1 w4).1;omega)|skip
  ·have h1:=(hy w1 w4).1
   have h2:(a:Int)≥((am2 x3.1 x3.2).1.length:Int):=aJ w5
   exact absurd h1 (by omega)
  ·exact absurd (hy w1 w4).2.1 (aJ w7)
  ·refine⟨(k+1,a+1),[],?_,?_,?_⟩
   rotate_right
   ·exact bV
   ·exact (hy w1 w4).2.2
   ·show 16-(k+1)<16-k;have:=cm w1;omega
  ·refine⟨(k+1,a),[],?_,?_,?_⟩
   rotate_right
   ·exact bV
   ·exact hI.no cG (cm w1) w9
   ·show 16-(k+1)<16-k;have:=cm w1;omega
  ·have hk:k=16:=by have h2:¬(k:Int)<16:=aA dy;omega
   subst hk
   have he:=hI.f cG
   refine⟨[],[],_,_,_,ζ,az,(),aa,?_,?_,ζ⟩
   ·show AV.q _=am1 c;unfold am1;refine congrArg AV.q ?_;exact decide_eq_true (congrArg (Nat.cast:Nat→Int) he)
   ·rfl
 ·exact absurd kg (by decide)
 ·exact absurd kg (by decide)
 ·exact absurd kg (by decide)
