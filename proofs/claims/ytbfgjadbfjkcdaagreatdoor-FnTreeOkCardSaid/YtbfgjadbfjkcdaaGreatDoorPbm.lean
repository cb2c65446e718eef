/- FnTreeOk returns true for every code (its row lists package variables, tied by the card): part 39. -/
import Derived.Test.YtbfgjadbfjkcdaaGreatDoorPap
import Derived.Test.YtbfgjadbfjkcdaaGreatDoorPbl
set_option maxHeartbeats 20000000
set_option linter.all false
namespace Go.Proofs.YtbfgjadbfjkcdaaGreatDoor
namespace GL
def oW (p:Pt):Prop:=True
def tg (p:Pt):AV:=.s (.q (!(au p)))
def SM (p:Pt):List AV:=[]
def qG:Con where
 A:=[.a [.int,.int,.int,.int,.int]]
 B:=[]
 pre:=fun x b=>oW x
 α:=fun _ _=>Unit
 φ:=fun _ _ _=>True
 r:=fun x b _=>tg x
 o:=fun x b _=>SM x
 nf:=0
set_option maxRecDepth 100000 in
theorem IX:Has Tryz.prog 126 qG:=by
 refine Has.ofEI (fun _=>true) (fun _=>false) (fun _=>false) (l:=[(35,bI)]) ⟨eQ,trivial⟩ (fn:=Tryz.f126) Tryz.func126 rfl (by decide) (aZ rfl) ?_
 rintro⟨(p1:Int),(p2:Int),(p3:Int),(p4:Int),(p5:Int)⟩ _ (hp:oW (p1,p2,p3,p4,p5))
 show vc _ _ _ _ (entry [.a [.int p1,.int p2,.int p3,.int p4,.int p5]] []) _
 refine⟨⟨⟨⟨aa,aa,aa,aa,aa,aa⟩,aa⟩,aa⟩,fun x1 w2=>?_⟩
 all_goals first|refine aw ?_|refine ax ?_|exact ba|(dsimp only [bI,cf];omega)|exact a8|skip
 refine⟨[],[],_,_,_,rfl,az,(),aa,?_,?_,rfl⟩
 ·(show _=tg (p1,p2,p3,p4,p5));unfold tg;first|rfl
 ·rfl
def oF:List Pt→Nat→Int
 |[],_=> -1
 |p::l,i=>bif au p then oF l (i+1) else i
theorem rm {b:Bool}(h:(!b)=true):b=false:=by cases b with
 |false=>rfl
 |true=>cases h
def oH (l:List Pt):Prop:=l.length≤1000000
def iN (l:List Pt):AV:=.s (.int (oF l 0))
def HV (l:List Pt):List AV:=[]
def rV:Con where
 A:=[.s (.vz ae),.fn 126 []]
 B:=[]
 pre:=fun x b=>oH (x.1)
 α:=fun _ _=>Unit
 φ:=fun _ _ _=>True
 r:=fun x b _=>iN (x.1)
 o:=fun x b _=>HV (x.1)
 nf:=0
set_option maxRecDepth 100000 in
theorem LC:Has Tryz.prog 93 rV:=by
 refine Has.ofEI (fun _=>true) (fun _=>false) (fun _=>false) (l:=[(126,qG)]) ⟨IX,trivial⟩ (fn:=Tryz.f93) Tryz.func93 rfl (by decide) (aZ rfl) ?_
 rintro⟨(l:List Pt),_⟩ _ (hp:oH l)
 show vc _ _ _ _ (entry [.s (.vz ae l),.fn 126 []] []) _
 have hp:l.length≤1000000:=hp
 refine ?_
 all_goals first|refine aw ?_|refine ax ?_|exact ba|(dsimp only [qG,oW];omega)|exact a8|skip
 refine l9 (l:=[(126,qG)]) (ex:=fun _=>true) (wr:=fun _=>false) (pt:=fun _=>false) ⟨IX,aa⟩ [.s 0,.s 1,.s 6,.s 7] (fun i:Nat=>[(.s 8,.int i)]) (fun i=>i≤l.length∧oF (l.drop i) i=oF l 0) (fun i=>l.length-i) 0 [] ⟨ZA8 _,rfl⟩ dN ?_
 rintro i ⟨(hi:i≤l.length),(hr:oF (l.drop i) i=oF l 0)⟩
 have cP:i<l.length→l.drop i=nth ae l i::l.drop (i+1):=fun h=>bZ (ek:=ae) h
 have cr:decide ((i:Int)<(l.length:Int))=true→i<l.length:=fun h=>by have:=aE h;omega
 refine⟨fun w1=>⟨⟨?_,?_⟩,⟨⟨⟨aa,aa,aa,aa,aa,aa⟩,aa⟩,aa⟩,fun x2 w3=>⟨fun w4=>?_,fun w5=>⟨⟨?_,?_⟩,?_⟩⟩⟩,fun w6=>?_⟩
 all_goals first|refine aw ?_|refine ax ?_|exact ba|(dsimp only [qG,oW];omega)|exact a8|(show (i:Int)+1≤9223372036854775807;omega)|skip
 ·have e:oF l 0=(i:Int):=by rw [←hr,cP (cr w1),oF,show au (nth ae l i)=false from rm w4];rfl
  refine⟨[],[],_,_,_,rfl,az,(),aa,?_,?_,rfl⟩
  ·(show _=iN l);unfold iN;first|(rw [e];rfl)|rfl
  ·rfl
 ·refine⟨(i+1),[],?_,?_,?_⟩
  rotate_right
  ·exact bX
  ·refine⟨cr w1,?_⟩
   rw [←hr,cP (cr w1),oF,show au (nth ae l i)=true from cI w5];rfl
  ·show l.length-(i+1)<l.length-i;have:=cr w1;omega
 ·have e:oF l 0= -1:=by rw [←hr,ZB4 (by have:=aA w6;omega)];rfl
  refine⟨[],[],_,_,_,rfl,az,(),aa,?_,?_,rfl⟩
  ·(show _=iN l);unfold iN;first|(rw [e];rfl)|rfl
  ·rfl
theorem GV:∀(l:List Pt) (i:Nat),decide (oF l i≥0)=l.any (fun p=> !(au p))
 |[],_=>rfl
 |p::l,i=>by
  rw [oF,List.any_cons]
  cases au p with
  |true=>exact GV l (i+1)
  |false=>show decide ((i:Int)≥0)=true;exact decide_eq_true (Int.natCast_nonneg i)
def ko (l:List Pt):Prop:=l.length≤1000000
def rM (l:List Pt):AV:=.s (.q (l.any (fun p=> !(au p))))
def O1 (l:List Pt):List AV:=[]
def lD:Con where
 A:=[.s (.vz ae),.fn 126 []]
 B:=[]
 pre:=fun x b=>ko (x.1)
 α:=fun _ _=>Unit
 φ:=fun _ _ _=>True
 r:=fun x b _=>rM (x.1)
 o:=fun x b _=>O1 (x.1)
 nf:=0
set_option maxRecDepth 100000 in
theorem ED:Has Tryz.prog 60 lD:=by
 refine Has.ofEI (fun _=>true) (fun _=>false) (fun _=>false) (l:=[(93,rV)]) ⟨LC,trivial⟩ (fn:=Tryz.f60) Tryz.func60 rfl (by decide) (aZ rfl) ?_
 rintro⟨(l:List Pt),_⟩ _ (hp:ko l)
 show vc _ _ _ _ (entry [.s (.vz ae l),.fn 126 []] []) _
 have hp:l.length≤1000000:=hp
 refine⟨⟨⟨aa,aa,aa⟩,?_⟩,fun x1 w2=>?_⟩
 all_goals first|refine aw ?_|refine ax ?_|exact ba|(dsimp only [rV,oH];omega)|exact a8|exact hp|skip
 refine⟨[],[],_,_,_,rfl,az,(),aa,?_,?_,rfl⟩
 ·(show _=rM l);unfold rM;first|(rw [←GV l 0];rfl)|rfl
 ·rfl
theorem JO {l:List Pt}(h:(bG l).2=false):bG l=(⟨#[]⟩,false):=by
 cases h0:decide ((l.length:Int)≠4) with
 |true=>exact xg h0
 |false=>
  rw [xf h0] at h ⊢
  match e:hZ l 0 ⟨#[]⟩ false with
  |none=>exact px e
  |some (o,sm)=>
   rw [sK e] at h ⊢
   cases hs: !sm with
   |true=>exact DB hs
   |false=>rw [xh hs] at h;cases h
theorem P3 {l:List Pt}(h0:decide ((l.length:Int)≠4)=false) (h:l.any (fun p=> !(au p))=false):bG l=(⟨#[]⟩,false):=by
 cases h2:(bG l).2 with
 |true=>
  obtain⟨a,b,c,d,rfl,ha,hb,hc,hd,hs,_⟩:=mg h2
  simp only [List.any_cons,List.any_nil,Bool.or_false] at h
  simp_all
 |false=>exact JO h2
def oE (l:List Pt) (n:Nat):List ByteArray:=(l.take n).map bd
theorem DV {l:List Pt}{n:Nat}(h:n<l.length):oE l (n+1)=oE l n++[bd (nth ae l n)]:=by
 unfold oE
 rw [List.take_succ,oK (ek:=ae) h,List.map_append];rfl
theorem X3 {l:List Pt}(h4:l.length=4) (n:Nat) (hn:n<4) (h:a6 (nth ae l n)=false):bG l=(⟨#[]⟩,false):=by
 cases h2:(bG l).2 with
 |true=>
  obtain⟨a,b,c,d,rfl,ha,hb,hc,hd,_⟩:=mg h2
  have h6:n=0∨n=1∨n=2∨n=3:=by omega
  rcases h6 with rfl |rfl |rfl |rfl
  ·exact absurd (ha.symm.trans h) (by decide)
  ·exact absurd (hb.symm.trans h) (by decide)
  ·exact absurd (hc.symm.trans h) (by decide)
  ·exact absurd (hd.symm.trans h) (by decide)
 |false=>exact JO h2
theorem aaX {l:List Pt}(h4:l.length=4):(Lib.join ((oE l 4).map (·.data.toList)) (⟨#[44]⟩:ByteArray).data.toList).length≤1000000:=by
 match l,h4 with
 |[a,b,c,d],_=>
  have h:=congrArg List.length (aha (bd a) (bd b) (bd c) (bd d))
  have e1:=gw a;have e2:=gw b;have e3:=gw c;have e4:=gw d
  rw [fp] at e1 e2 e3 e4
  rw [FQ] at h
  have h':(Lib.join ((oE [a,b,c,d] 4).map (·.data.toList)) (⟨#[44]⟩:ByteArray).data.toList).length=_:=h
  rw [h']
  simp only [ZA0,ZA1]
  omega
theorem UJ {l:List Pt}(h4:l.length=4) (hs:l.any (fun p=> !(au p))=true) (hk:∀j,j<4→a6 (nth ae l j)=true):bG l=(zX ⟨#[44]⟩ (oE l 4),true):=by
 have h2:(bG l).2=true:=vR h4 (fun p hp=>by
  obtain⟨j,hj,rfl⟩:=List.getElem_of_mem hp
  have:=hk j (by omega)
  unfold nth at this;rw [ZB2 hj] at this;exact this) (by rw [hs];rfl)
 obtain⟨a,b,c,d,rfl,ha,hb,hc,hd,_,hl⟩:=mg h2
 have e:(bG [a,b,c,d]).1=zX ⟨#[44]⟩ (oE [a,b,c,d] 4):=vF (by rw [hl];exact (aha _ _ _ _).symm)
 rw [←e,←h2]
def nU (l:List Pt):Prop:=True
def fe (l:List Pt):AV:=.t [.s (.str (bG l).1),.s (.q (bG l).2)]
def W0 (l:List Pt):List AV:=[]
def pB:Con where
 A:=[.s (.vz ae)]
 B:=[]
 pre:=fun x b=>nU x
 α:=fun _ _=>Unit
 φ:=fun _ _ _=>True
 r:=fun x b _=>fe x
 o:=fun x b _=>W0 x
 nf:=0
set_option maxRecDepth 100000 in
theorem MS:Has Tryz.prog 92 pB:=by
 refine Has.ofEI (fun _=>true) (fun _=>false) (fun _=>false) (l:=[(60,lD),(34,cE),(125,eU),(127,k6)]) ⟨ED,jv,xa,PW,trivial⟩ (fn:=Tryz.f92) Tryz.func92 rfl (by decide) (aZ rfl) ?_
 rintro (l:List Pt) _ (hp:nU l)
 show vc _ _ _ _ (entry [.s (.vz ae l)] []) _
 have h4:decide ((l.length:Int)≠4)=false→l.length=4:=fun h=>by have:=aA h;omega
 refine⟨aa,fun w1=>?_,fun w2=>⟨⟨⟨aa,aa,aa⟩,?_⟩,fun x3 w4=>⟨fun w5=>?_,fun w6=>?_⟩⟩⟩
 all_goals first|refine aw ?_|refine ax ?_|exact ba|(dsimp only [lD,ko];omega)|(dsimp only [cE,cS];omega)|(dsimp only [eU,eI];omega)|(dsimp only [k6,lX];omega)|exact a8|(show l.length≤1000000;have:=h4 (by assumption);omega)|skip
 ·refine⟨[],[],_,_,_,rfl,az,(),aa,?_,?_,rfl⟩
  ·(show _=fe l);unfold fe;first|(rw [xg w1];rfl)|rfl
  ·rfl
 ·have e:bG l=(⟨#[]⟩,false):=P3 w2 (rm w5)
  refine⟨[],[],_,_,_,rfl,az,(),aa,?_,?_,rfl⟩
  ·(show _=fe l);unfold fe;first|(rw [e];rfl)|rfl
  ·rfl
 ·have hl:=h4 w2
  have hs:l.any (fun p=> !(au p))=true:=cI w6
  refine l9 (l:=[(60,lD),(34,cE),(125,eU),(127,k6)]) (ex:=fun _=>true) (wr:=fun _=>false) (pt:=fun _=>false) ⟨ED,jv,xa,PW,trivial⟩ [.s 0,.s 15,.s 16] (fun y:Nat×List ByteArray=>match y.1 with |0=>[(.s 4,.s (.v (.slice none 0 0))),(.s 17,.int 0)] |n+1=>[(.s 4,.s (.xs 1019 1 0 y.2.length)),(.s 17,.int ((n+1:Nat):Int)),(.b 1019,.rs ab y.2)]) (fun y=>y.1≤4∧y.2=oE l y.1∧∀j,j<y.1→a6 (nth ae l j)=true) (fun y=>4-y.1) (0,[]) [] ⟨ZA8 _,rfl,fun j hj=>absurd hj (by omega)⟩ dN ?_
  rintro⟨n,T⟩ ⟨(hn:n≤4),(hT:T=oE l n),hk⟩
  have hlen:T.length≤4:=by rw [hT];unfold oE;rw [ZG3,ZB8];omega
  have iD:∀n,n<4→(!(a6 (nth ae l n)))=true→bG l=(⟨#[]⟩,false):=fun n hn h=>X3 hl n hn (rm h)
  have cP:∀n,(∀j,j<n→a6 (nth ae l j)=true)→(!(a6 (nth ae l n)))=false→∀j,j<n+1→a6 (nth ae l j)=true:=fun n h h2 j hj=>by
   by_cases hjn:j=n
   ·rw [hjn];exact cI h2
   ·exact h j (by omega)
  cases n with
  |zero=>
   refine⟨fun w1=>⟨⟨?_,?_⟩,⟨⟨⟨aa,aa,aa,aa,aa,aa⟩,aa⟩,aa⟩,fun x2 w3=>⟨fun w4=>?_,fun w5=>⟨⟨⟨⟨aa,aa,aa,aa,aa,aa⟩,aa⟩,aa⟩,fun x6 w7=>⟨aa,⟨⟨?_,?_⟩,?_,?_⟩,⟨?_,?_⟩,?_⟩⟩⟩⟩,fun w8=>⟨⟨⟨aa,aa,aa⟩,?_,?_⟩,fun x9 dq=>?_⟩⟩
   all_goals first|(exfalso;simp only [decide_eq_true_eq,decide_eq_false_iff_not] at *;omega)|refine aw ?_|refine ax ?_|exact ba|(dsimp only [lD,ko];omega)|(dsimp only [cE,cS];omega)|(dsimp only [eU,eI];omega)|(dsimp only [k6,lX];omega)|exact a8|skip
   ·refine⟨[],[],_,_,_,rfl,az,(),aa,?_,?_,rfl⟩
    ·(show _=fe l);unfold fe;first|(rw [iD 0 (by omega) w4];rfl)|rfl
    ·rfl
   ·refine⟨(1,[bd (nth ae l 0)]),[(1019,1028)],?_,?_,?_⟩
    rotate_right
    ·exact bX
    ·exact⟨by show 1≤4;omega,(by show _=oE l (0+1);rw [DV (by omega)];rfl),cP 0 hk w5⟩
    ·show 4-1<4-0;omega
  |succ n=>
   have cr:decide (((n+1:Nat):Int)<(l.length:Int))=true→n+1<4:=fun h=>by have:=aE h;omega
   have hj:n+1=4→(Lib.join (T.map (·.data.toList)) (⟨#[44]⟩:ByteArray).data.toList).length≤1000000:=fun h=>by rw [hT,h];exact aaX hl
   have oo:decide (((n+1:Nat):Int)<(l.length:Int))=false→n+1=4:=fun h=>by have:=aA h;omega
   refine⟨fun w1=>⟨⟨?_,?_⟩,⟨⟨⟨aa,aa,aa,aa,aa,aa⟩,aa⟩,aa⟩,fun x2 w3=>⟨fun w4=>?_,fun w5=>⟨⟨⟨⟨aa,aa,aa,aa,aa,aa⟩,aa⟩,aa⟩,fun x6 w7=>⟨aa,⟨⟨?_,?_⟩,?_,?_⟩,⟨?_,?_⟩,?_⟩⟩⟩⟩,fun w8=>⟨⟨⟨⟨?_,?_⟩,aa,aa⟩,?_,?_⟩,fun x9 dq=>?_⟩⟩
   all_goals first|(exfalso;simp only [decide_eq_true_eq,decide_eq_false_iff_not] at *;omega)|refine aw ?_|refine ax ?_|exact ba|(dsimp only [lD,ko];omega)|(dsimp only [cE,cS];omega)|(dsimp only [eU,eI];omega)|(dsimp only [k6,lX];omega)|exact a8|(show T.length+1≤1048576;omega)|exact hj (oo w8)|(show T.length≤1000000;omega)|skip
   ·refine⟨[],[],_,_,_,rfl,az,(),aa,?_,?_,rfl⟩
    ·(show _=fe l);unfold fe;first|(rw [iD (n+1) (cr w1) w4];rfl)|rfl
    ·rfl
   ·have bU:=cr w1
    refine⟨(n+2,T++[bd (nth ae l (n+1))]),[(1019,1028)],?_,?_,?_⟩
    rotate_right
    ·exact bX
    ·exact⟨by show n+2≤4;omega,by show _=oE l (n+1+1);rw [DV (by omega),hT],cP (n+1) hk w5⟩
    ·show 4-(n+2)<4-(n+1);omega
   ·have e:bG l=(zX ⟨#[44]⟩ T,true):=by rw [hT,oo w8];exact UJ hl hs (by rw [←oo w8];exact hk)
    refine⟨[],[],_,_,_,rfl,az,(),aa,?_,?_,rfl⟩
    ·(show _=fe l);unfold fe;first|(rw [e];rfl)|rfl
    ·rfl
end GL
namespace GL
theorem V6 {s:ByteArray}(h:(bR s).2=true):bd (bR s).1=s:=by
 cases h0:decide (s=⟨#[45]⟩) with
 |true=>rw [wL h0,aE h0];rfl
 |false=>
  cases h5:decide (((bo s 46).length:Int)≠5) with
  |true=>rw [B5 h0 h5] at h;cases h
  |false=>
   have hl:(bo s 46).length=5:=by have:=aA (p:=((bo s 46).length:Int)≠5) h5;omega
   have hk:∀j,j<5→(aD (nth ab (bo s 46) j)).2=true:=fun j hj=>by
    cases hb:(aD (nth ab (bo s 46) j)).2 with
    |true=>rfl
    |false=>rw [sf h0 h5,B4 (CH _ [] j (by rw [hl];exact hj) hb)] at h;cases h
   have e:=HG h0 hl hk
   cases hd:decide (bd (OO (bo s 46))≠s) with
   |true=>rw [e,hd] at h;cases h
   |false=>
    rw [e,hd]
    exact ZF0.1 (aA (p:=¬bd (OO (bo s 46))=s) hd)
def qV (t:ByteArray):Pt:=(bR t).1
theorem UM:∀{l:List ByteArray}{out o:List Pt}{sm sm':Bool},ov l out sm=some (o,sm')→o=out++l.map qV∧(∀t∈l,(bR t).2=true)∧sm'=(sm||(l.map qV).any (fun p=> !(au p)))
 |[],out,o,sm,sm',h=>by
  unfold ov at h;cases h;simp
 |t::l,out,o,sm,sm',h=>by
  unfold ov at h
  cases ht:(bR t).2 with
  |false=>rw [ht] at h;cases h
  |true=>
   rw [ht] at h
   obtain⟨h1,h2,h3⟩:=UM (l:=l) h
   refine⟨by rw [h1];simp [qV],?_,by rw [h3];simp [qV,Bool.or_assoc]⟩
   intro t' ht'
   rcases ZB9.1 ht' with rfl |h'
   ·exact ht
   ·exact h2 t' h'
theorem X8 {s:ByteArray}(h:(bn s).2=false):bn s=([],false):=by
 match e:ov (bo s 44) [] false with
 |none=>exact xi e
 |some (o,sm)=>
  rw [jY e] at h ⊢
  cases h4:decide ((o.length:Int)≠4) with
  |true=>exact AE h4
  |false=>
   cases hs: !sm with
   |true=>exact AD hs
   |false=>rw [vT h4 hs] at h;cases h
theorem y8 {s:ByteArray}(h:(bn s).2=true):(bo s 44).length=4∧(bn s).1=(bo s 44).map qV∧(∀t∈bo s 44,(bR t).2=true)∧bG ((bo s 44).map qV)=(s,true):=by
 match e:ov (bo s 44) [] false with
 |none=>rw [xi e] at h;cases h
 |some (o,sm)=>
  rw [jY e] at h ⊢
  obtain⟨h1,h2,h3⟩:=UM e
  rw [ZC9] at h1
  cases h4:decide ((o.length:Int)≠4) with
  |true=>rw [AE h4] at h;cases h
  |false=>
   cases hs: !sm with
   |true=>rw [AD hs] at h;cases h
   |false=>
    rw [vT h4 hs]
    have hol:o.length=4:=by have:=aA (p:=(o.length:Int)≠4) h4;omega
    have hl:(bo s 44).length=4:=by rw [h1,ZG3] at hol;exact hol
    refine⟨hl,h1,h2,?_⟩
    have alG:((bo s 44).map qV).any (fun p=> !(au p))=true:=by rw [Bool.false_or] at h3;rw [←h3];exact cI hs
    have hy:(bG ((bo s 44).map qV)).2=true:=vR (by rw [ZG3];exact hl) (fun p hp=>by
     obtain⟨t,_,rfl⟩:=List.mem_map.1 hp
     exact HH t) (by rw [alG];rfl)
    obtain⟨a,b,c,d,he,_,_,_,_,_,hlb⟩:=mg hy
    have aeH:=aaI s 44 (l:=bo s 44) rfl
    match T7:bo s 44,hl with
    |[w,x,y,z],_=>
     rw [T7] at he hlb h2 hy aeH
     have hi:∀t∈[w,x,y,z],bd (qV t)=t:=fun t ht=>V6 (h2 t ht)
     injection he with ea he;injection he with eb he;injection he with ec he;injection he with ed he
     rw [←ea,←eb,←ec,←ed,hi w (by simp),hi x (by simp),hi y (by simp),hi z (by simp)] at hlb
     have e1:(bG (List.map qV [w,x,y,z])).1=s:=vF (by rw [hlb,←aeH];rfl)
     rw [←e1,←hy]
theorem X6 {s:ByteArray}{n:Nat}(hn:n<(bo s 44).length) (h:(!(bR (nth ab (bo s 44) n)).2)=true):(bn s).2=false:=by
 cases h2:(bn s).2 with
 |false=>rfl
 |true=>
  obtain⟨_,_,h3,_⟩:=y8 h2
  have:=h3 _ (bT (ek:=ab) hn)
  rw [this] at h;cases h
theorem UL {s:ByteArray}(h:(bo s 44).length≠4):(bn s).2=false:=by
 cases h2:(bn s).2 with
 |false=>rfl
 |true=>exact absurd (y8 h2).1 h
theorem X5 {s:ByteArray}{l:List Pt}(hl:l=(bo s 44).map qV) (h:(bG l).2=false∨(bG l).1≠s):(bn s).2=false:=by
 cases h2:(bn s).2 with
 |false=>rfl
 |true=>
  have e:=(y8 h2).2.2.2
  rw [←hl] at e
  rcases h with h |h
  ·rw [e] at h;cases h
  ·rw [e] at h;exact absurd rfl h
theorem M1 {l:List ByteArray}{n:Nat}(h:n<l.length):(l.take (n+1)).map qV=(l.take n).map qV++[qV (nth ab l n)]:=by
 rw [List.take_succ,oK (ek:=ab) h,List.map_append];rfl
def rj (s:ByteArray):Prop:=s.size≤1000000
def R8 (s:ByteArray) (z:Bool):Prop:=z=(bn s).2
def cV (s:ByteArray) (z:Bool):AV:=.t [match z with |true=>.s (.xs 0 5 0 (bn s).1.length) |false=>.s (.v (.slice none 0 0)),.s (.q z)]
def dx (s:ByteArray) (z:Bool):List AV:=match z with |true=>[.rs ae (bn s).1] |false=>[.zz]
def DP:Con where
 A:=[.s .str]
 B:=[]
 pre:=fun x b=>rj x
 α:=fun _ _=>Bool
 φ:=fun x b z=>R8 x z
 r:=fun x b z=>cV x z
 o:=fun x b z=>dx x z
 nf:=1
set_option maxRecDepth 100000 in
theorem ab8:Has Tryz.prog 59 DP:=by
 refine Has.ofZI (fun _=>true) (fun _=>false) (fun _=>false) (l:=[(90,iH),(91,pA),(92,pB)]) ⟨FU,MQ,MS,trivial⟩ (fn:=Tryz.f59) Tryz.func59 rfl (by decide) (aZ rfl) ?_
 rintro (s:ByteArray) _ (hp:rj s)
 show vc _ _ _ _ (entry [.str s] []) _
 unfold rj at hp
 have hsp:ic s ⟨#[44]⟩=bo s 44:=Q4 s 44
 have hL:(ic s ⟨#[44]⟩).length≤s.size+1:=by rw [hsp];exact (ua s 44).2
 refine⟨⟨⟨aa,aa,aa⟩,?_,?_⟩,fun x1 w2=>?_⟩
 all_goals first|refine aw ?_|refine ax ?_|exact ba|(dsimp only [iH,jR];omega)|(dsimp only [pA,lq];omega)|(dsimp only [pB,nU];omega)|exact a8|(show 1≤(1:Nat);omega)|skip
 have dk:∀n,n<(ic s ⟨#[44]⟩).length→(nth ab (ic s ⟨#[44]⟩) n).size≤1000000:=fun n h=>by rw [hsp] at *;exact ZB1 (o6 (s:=s) (c:=44) _ (bT (ek:=ab) h)) hp
 have iD:∀n,n<(ic s ⟨#[44]⟩).length→(!(bR (nth ab (ic s ⟨#[44]⟩) n)).2)=true→false=(bn s).2:=fun n hn h=>by rw [hsp] at *;exact (X6 hn h).symm
 have ajG:(ic s ⟨#[44]⟩).length≠4→false=(bn s).2:=fun h=>by rw [hsp] at h;exact (UL h).symm
 have JB:∀l,l=(ic s ⟨#[44]⟩).map qV→((bG l).2=false∨(bG l).1≠s)→false=(bn s).2:=fun l hl h=>by rw [hsp] at hl;exact (X5 hl h).symm
 refine l9 (l:=[(90,iH),(91,pA),(92,pB)]) (ex:=fun _=>true) (wr:=fun _=>false) (pt:=fun _=>false) ⟨FU,MQ,MS,aa⟩ [.s 0,.s 12,.s 13] (fun y:Nat×List Pt=>match y.1 with |0=>[(.s 4,.s (.v (.slice none 0 0))),(.s 14,.int 0)] |n+1=>[(.s 4,.s (.xs 1019 5 0 y.2.length)),(.s 14,.int ((n+1:Nat):Int)),(.b 1019,.rs ae y.2)]) (fun y=>y.1≤(ic s ⟨#[44]⟩).length∧y.1≤4∧y.2=((ic s ⟨#[44]⟩).take y.1).map qV) (fun y=>4-y.1) (0,[]) [] ⟨ZA8 _,ZA8 _,rfl⟩ dN ?_
 rintro⟨n,T⟩ ⟨(hn:n≤(ic s ⟨#[44]⟩).length),(hn4:n≤4),(hT:T=((ic s ⟨#[44]⟩).take n).map qV)⟩
 have hlen:T.length=n:=by rw [hT,ZG3,ZB8];omega
 have cr:∀m:Nat,decide ((m:Int)<((ic s ⟨#[44]⟩).length:Int))=true→m<(ic s ⟨#[44]⟩).length:=fun m h=>by have:=aE h;omega
 have oo:decide ((n:Int)<((ic s ⟨#[44]⟩).length:Int))=false→T=(ic s ⟨#[44]⟩).map qV:=fun h=>by
  have:=aA h
  rw [hT,ZD1 (by omega)]
 have ajM:(!(bG T).2)=false→decide ((bG T).1≠s)=false→bn s=(T,true):=fun h h2=>by
  have e:(bG T).1=s:=ZF0.1 (aA (p:=¬(bG T).1=s) h2)
  rw [←e];exact EO (cI h)
 cases n with
 |zero=>
  have hT0:T=[]:=hT
  subst hT0
  refine⟨fun w1=>⟨⟨?_,?_⟩,⟨⟨aa,aa⟩,?_⟩,fun x2 w3=>⟨aa,fun w4=>?_,fun w5=>⟨fun w6=>?_,fun w7=>⟨aa,⟨⟨?_,?_⟩,?_,?_⟩,⟨?_,?_⟩,?_⟩⟩⟩⟩,fun w8=>⟨⟨⟨aa,aa⟩,aa⟩,fun x9 dq=>⟨aa,fun kk=>?_,fun dI=>⟨fun iJ=>?_,fun gI=>?_⟩⟩⟩⟩
  all_goals first|(exfalso;simp only [decide_eq_true_eq,decide_eq_false_iff_not] at *;omega)|refine aw ?_|refine ax ?_|exact ba|(dsimp only [iH,jR];omega)|(dsimp only [pA,lq];omega)|(dsimp only [pB,nU];omega)|exact a8|exact dk 0 (cr 0 w1)|skip
  ·refine⟨[],[],_,_,_,rfl,az,false,1,(iD 0 (cr 0 w1) w4),?_,?_,rfl⟩
   ·(show _=cV s false);unfold cV;first|(rw [rfl];rfl)|rfl
   ·(show _=dx s false);unfold dx;first|(rw [rfl];rfl)|rfl
  ·refine⟨(1,[qV (nth ab (ic s ⟨#[44]⟩) 0)]),[(1019,1033)],?_,?_,?_⟩
   rotate_right
   ·exact bX
   ·exact⟨cr 0 w1,by show 1≤4;omega,by show _=((ic s ⟨#[44]⟩).take (0+1)).map qV;rw [M1 (cr 0 w1)];rfl⟩
   ·show 4-1<4-0;omega
  ·refine⟨[],[],_,_,_,rfl,az,false,1,(JB [] (oo w8) (.inl (rm kk))),?_,?_,rfl⟩
   ·(show _=cV s false);unfold cV;first|(rw [rfl];rfl)|rfl
   ·(show _=dx s false);unfold dx;first|(rw [rfl];rfl)|rfl
  ·refine⟨[],[],_,_,_,rfl,az,false,1,(JB [] (oo w8) (.inr (aE iJ))),?_,?_,rfl⟩
   ·(show _=cV s false);unfold cV;first|(rw [rfl];rfl)|rfl
   ·(show _=dx s false);unfold dx;first|(rw [rfl];rfl)|rfl
  ·exact absurd dI (by decide)
 |succ n=>
  refine⟨fun w1=>⟨⟨?_,?_⟩,⟨⟨aa,aa⟩,?_⟩,fun x2 w3=>⟨aa,fun w4=>?_,fun w5=>⟨fun w6=>?_,fun w7=>⟨aa,⟨⟨?_,?_⟩,?_,?_⟩,⟨?_,?_⟩,?_⟩⟩⟩⟩,fun w8=>⟨⟨⟨⟨?_,?_⟩,aa⟩,aa⟩,fun x9 dq=>⟨aa,fun kk=>?_,fun dI=>⟨fun iJ=>?_,fun gI=>?_⟩⟩⟩⟩
  all_goals first|(exfalso;simp only [decide_eq_true_eq,decide_eq_false_iff_not] at *;omega)|refine aw ?_|refine ax ?_|exact ba|(dsimp only [iH,jR];omega)|(dsimp only [pA,lq];omega)|(dsimp only [pB,nU];omega)|exact a8|exact dk (n+1) (cr (n+1) w1)|skip
  ·refine⟨[],[],_,_,_,rfl,az,false,1,(iD (n+1) (cr (n+1) w1) w4),?_,?_,rfl⟩
   ·(show _=cV s false);unfold cV;first|(rw [rfl];rfl)|rfl
   ·(show _=dx s false);unfold dx;first|(rw [rfl];rfl)|rfl
  ·have h4:T.length=4:=by have:=aE (p:=(T.length:Int)=4) w6;omega
   refine⟨[],[],_,_,_,rfl,az,false,1,(ajG (by have:=cr (n+1) w1;omega)),?_,?_,rfl⟩
   ·(show _=cV s false);unfold cV;first|(rw [rfl];rfl)|rfl
   ·(show _=dx s false);unfold dx;first|(rw [rfl];rfl)|rfl
  ·have h4:T.length≠4:=by have:=aA (p:=(T.length:Int)=4) w7;omega
   refine⟨(n+2,T++[qV (nth ab (ic s ⟨#[44]⟩) (n+1))]),[(1019,1033)],?_,?_,?_⟩
   rotate_right
   ·exact bX
   ·exact⟨cr (n+1) w1,by show n+2≤4;omega,by show _=((ic s ⟨#[44]⟩).take (n+1+1)).map qV;rw [M1 (cr (n+1) w1),hT]⟩
   ·show 4-(n+2)<4-(n+1);omega
  ·refine⟨[],[],_,_,_,rfl,az,false,1,(JB T (oo w8) (.inl (rm kk))),?_,?_,rfl⟩
   ·(show _=cV s false);unfold cV;first|(rw [rfl];rfl)|rfl
   ·(show _=dx s false);unfold dx;first|(rw [rfl];rfl)|rfl
  ·refine⟨[],[],_,_,_,rfl,az,false,1,(JB T (oo w8) (.inr (aE iJ))),?_,?_,rfl⟩
   ·(show _=cV s false);unfold cV;first|(rw [rfl];rfl)|rfl
   ·(show _=dx s false);unfold dx;first|(rw [rfl];rfl)|rfl
  ·have e:=ajM dI gI
   refine⟨[1019],[],_,_,_,rfl,az,true,0,(show true=(bn s).2 by rw [e]),?_,?_,rfl⟩
   ·(show _=cV s true);unfold cV;first|(rw [e];rfl)|rfl
   ·(show _=dx s true);unfold dx;first|(rw [e];rfl)|rfl
end GL
namespace GL
def iv (n:Int):Prop:=True
def tb (n:Int):AV:=.int (bl n)
def SH (n:Int):List AV:=[]
def gQ:Con where
 A:=[.s .int]
 B:=[]
 pre:=fun x b=>iv x
 α:=fun _ _=>Unit
 φ:=fun _ _ _=>True
 r:=fun x b _=>tb x
 o:=fun x b _=>SH x
 nf:=0
set_option maxRecDepth 100000 in
theorem tN:Has Tryz.prog 36 gQ:=by
 refine Has.ofEI (fun _=>true) (fun _=>false) (fun _=>false) (l:=[]) trivial (fn:=Tryz.f36) Tryz.func36 rfl (by decide) (aZ rfl) ?_
 rintro (n:Int) _ (hp:iv n)
 show vc _ _ _ _ (entry [.int n] []) _
 refine⟨fun w1=>?_,fun w2=>⟨fun w3=>?_,fun w4=>?_⟩⟩
 all_goals first|refine aw ?_|refine ax ?_|exact ba|exact a8|skip
 all_goals
  refine⟨[],[],_,_,_,rfl,az,(),aa,?_,?_,rfl⟩
  ·(show _=tb n);unfold tb;first|((simp only [bl, *];rfl))|rfl
  ·rfl
def ll (S:ay) (p:Pt):Prop:=S.szs∧S.rows.length=64∧a6 p=true
def mN (S:ay) (p:Pt):AV:=.t [.s (.str (bH S p).1),.s (.q (bH S p).2)]
def adu (S:ay) (p:Pt):List AV:=[]
def kK:Con where
 A:=[.vs xE,.a [.int,.int,.int,.int,.int]]
 B:=[]
 pre:=fun x b=>ll (x.1) (x.2)
 α:=fun _ _=>Unit
 φ:=fun _ _ _=>True
 r:=fun x b _=>mN (x.1) (x.2)
 o:=fun x b _=>adu (x.1) (x.2)
 nf:=0
set_option maxRecDepth 100000 in
theorem zT:Has Tryz.prog 38 kK:=by
 refine Has.ofEI (fun _=>true) (fun _=>false) (fun _=>false) (l:=[(35,bI),(62,zd)]) ⟨eQ,XO,trivial⟩ (fn:=Tryz.f38) Tryz.func38 rfl (by decide) (aZ rfl) ?_
 rintro⟨⟨(aj:List ByteArray),(ak:List Int),(an:List Int),(ao:Int),(ah:List Pt),(aq:Int),(ai:List Pt),(ar:Bool)⟩,⟨(p1:Int),(p2:Int),(p3:Int),(p4:Int),(p5:Int)⟩⟩ _ (hp:ll (aj,ak,an,ao,ah,aq,ai,ar) (p1,p2,p3,p4,p5))
 show vc _ _ _ _ (entry [.s (.vs [.vz ab aj,.vz ag ak,.vz ag an,.v (.int .i64 ao),.vz ae ah,.v (.int .i64 aq),.vz ae ai,.q ar] 0),.a [.int p1,.int p2,.int p3,.int p4,.int p5]] []) _
 obtain⟨h1,(hlen:aj.length=64),cA⟩:=hp
 have cA:a6 (p1,p2,p3,p4,p5)=true:=cA
 have xM:au (p1,p2,p3,p4,p5)=false→0≤p1∧p1<64:=fun h=>by
  have:=pX cA;dsimp only at this;omega
 have dk:au (p1,p2,p3,p4,p5)=false→(nth ab aj p1.toNat).size≤1000000000:=fun h=>ZB1 (h1 _ (bT (ek:=ab) (show p1.toNat<aj.length by have:=xM h;omega))) (by omega)
 refine⟨⟨⟨⟨aa,aa,aa,aa,aa,aa⟩,aa⟩,aa⟩,fun x1 w2=>⟨fun w3=>?_,fun w4=>⟨[.s 3,.b 1003],[.s 10],rfl,[.s 0],[.s 11],rfl,[.s 11],[.s 12],rfl,[.s 12],[.s 13],rfl,[.s 13],[.s 14],rfl,[.s 3],[.s 15],rfl,[.s 15,.b 1003],[.s 16],rfl,[.s 14,.s 16],[.s 17],rfl,⟨?_,?_⟩,[.s 17],[.s 18],rfl,[.s 10,.s 18],[.s 19],rfl,⟨⟨⟨aa,aa,aa,aa,aa,aa⟩,aa,aa⟩,?_⟩,?_,fun x5 w6=>⟨[.s 19],[.s 20],rfl,[.s 20],[.s 9],rfl,fun w7=>?_,fun w8=>⟨[.s 0],[.s 21],rfl,[.s 21],[.s 22],rfl,[.s 22],[.s 23],rfl,[.s 23],[.s 24],rfl,[.s 3],[.s 25],rfl,[.s 25,.b 1003],[.s 26],rfl,[.s 24,.s 26],[.s 27],rfl,⟨?_,?_⟩,[.s 27],[.s 28],rfl,[.s 28],[.s 4],rfl,[],[.s 5],rfl,?_⟩⟩⟩⟩⟩
 all_goals first|refine aw ?_|refine ax ?_|exact ba|(dsimp only [bI,cf];omega)|(dsimp only [zd,tv];omega)|exact a8|exact dk w4|exact (xM w4).1|(have:=(xM w4).2;show p1<(aj.length:Int);omega)|skip
 ·refine⟨[],[],_,_,_,rfl,az,(),aa,?_,?_,rfl⟩
  ·(show _=mN (aj,ak,an,ao,ah,aq,ai,ar) (p1,p2,p3,p4,p5));unfold mN;first|(rw [fT w3];rfl)|rfl
  ·rfl
 ·refine⟨[],[],_,_,_,rfl,az,(),aa,?_,?_,rfl⟩
  ·(show _=mN (aj,ak,an,ao,ah,aq,ai,ar) (p1,p2,p3,p4,p5));unfold mN;first|(rw [L1 w4 (KL w7)];rfl)|rfl
  ·rfl
 ·refine⟨[],[],_,_,_,rfl,az,(),aa,?_,?_,rfl⟩
  ·(show _=mN (aj,ak,an,ao,ah,aq,ai,ar) (p1,p2,p3,p4,p5));unfold mN;first|(rw [yk w4 (oN w8)];rfl)|rfl
  ·rfl
def wN (k:Pt) (p:Pt):Prop:=True
def BO (k:Pt) (p:Pt):AV:=.s (.q (late p k))
def HU (k:Pt) (p:Pt):List AV:=[.a [.int p.1,.int p.2.1,.int p.2.2.1,.int p.2.2.2.1,.int p.2.2.2.2]]
def AL:Con where
 A:=[.a [.int,.int,.int,.int,.int],.b 0]
 B:=[.a [.int,.int,.int,.int,.int]]
 pre:=fun x b=>wN (x.1) b
 α:=fun _ _=>Unit
 φ:=fun _ _ _=>True
 r:=fun x b _=>BO (x.1) b
 o:=fun x b _=>HU (x.1) b
 nf:=0
 ro:=true
set_option maxRecDepth 100000 in
theorem aab:Has Tryz.prog 61 AL:=by
 refine Has.ofEI (fun _=>true) (fun _=>false) (fun _=>false) (l:=[]) trivial (fn:=Tryz.f61) Tryz.func61 rfl (by decide) (aZ rfl) ?_
 rintro⟨⟨(k1:Int),(k2:Int),(k3:Int),(k4:Int),(k5:Int)⟩,_⟩ ⟨(p1:Int),(p2:Int),(p3:Int),(p4:Int),(p5:Int)⟩ (hp:wN (k1,k2,k3,k4,k5) (p1,p2,p3,p4,p5))
 show vc _ _ _ _ (entry [.a [.int k1,.int k2,.int k3,.int k4,.int k5],.s (.bp 0 0)] [.a [.int p1,.int p2,.int p3,.int p4,.int p5]]) _
 refine ?_
 all_goals first|refine aw ?_|refine ax ?_|exact ba|exact a8|skip
 refine⟨[],[],_,_,_,rfl,az,(),aa,?_,?_,rfl⟩
 ·(show _=BO (k1,k2,k3,k4,k5) (p1,p2,p3,p4,p5));unfold BO;first|rfl
 ·(show _=HU (k1,k2,k3,k4,k5) (p1,p2,p3,p4,p5));unfold HU;first|rfl
def uC (p:Pt):List Pt→Nat→Int
 |[],_=> -1
 |q::l,i=>bif late p q then i else uC p l (i+1)
def qg (l:List Pt) (f:Pt):Prop:=l.length≤1000000
def jk (l:List Pt) (f:Pt):AV:=.s (.int (uC f l 0))
def kr (l:List Pt) (f:Pt):List AV:=[.a [.int f.1,.int f.2.1,.int f.2.2.1,.int f.2.2.2.1,.int f.2.2.2.2]]
def uk:Con where
 A:=[.s (.vz ae),.fn 61 [0]]
 B:=[.a [.int,.int,.int,.int,.int]]
 pre:=fun x b=>qg (x.1) b
 α:=fun _ _=>Unit
 φ:=fun _ _ _=>True
 r:=fun x b _=>jk (x.1) b
 o:=fun x b _=>kr (x.1) b
 nf:=0
 ro:=true
set_option maxRecDepth 100000 in
theorem PU:Has Tryz.prog 93 uk:=by
 refine Has.ofEI (fun _=>true) (fun _=>false) (fun _=>false) (l:=[(61,AL)]) ⟨aab,trivial⟩ (fn:=Tryz.f93) Tryz.func93 rfl (by decide) (aZ rfl) ?_
 rintro⟨(l:List Pt),_⟩ ⟨(f1:Int),(f2:Int),(f3:Int),(f4:Int),(f5:Int)⟩ (hp:qg l (f1,f2,f3,f4,f5))
 show vc _ _ _ _ (entry [.s (.vz ae l),.fn 61 [(0,0)]] [.a [.int f1,.int f2,.int f3,.int f4,.int f5]]) _
 have hp:l.length≤1000000:=hp
 refine ?_
 all_goals first|refine aw ?_|refine ax ?_|exact ba|(dsimp only [AL,wN];omega)|exact a8|skip
 refine l9 (l:=[(61,AL)]) (ex:=fun _=>true) (wr:=fun _=>false) (pt:=fun _=>false) ⟨aab,aa⟩ [.s 0,.s 1,.s 6,.s 7,.b 0] (fun i:Nat=>[(.s 8,.int i)]) (fun i=>i≤l.length∧uC (f1,f2,f3,f4,f5) (l.drop i) i=uC (f1,f2,f3,f4,f5) l 0) (fun i=>l.length-i) 0 [] ⟨ZA8 _,rfl⟩ dN ?_
 rintro i ⟨(hi:i≤l.length),(hr:uC (f1,f2,f3,f4,f5) (l.drop i) i=uC (f1,f2,f3,f4,f5) l 0)⟩
 have cP:i<l.length→l.drop i=nth ae l i::l.drop (i+1):=fun h=>bZ (ek:=ae) h
 have cr:decide ((i:Int)<(l.length:Int))=true→i<l.length:=fun h=>by have:=aE h;omega
 refine⟨fun w1=>⟨⟨?_,?_⟩,⟨⟨⟨⟨aa,aa,aa,aa,aa,aa⟩,aa,aa⟩,aa⟩,fun x2 w3=>?_⟩,fun x4 w5=>⟨fun w6=>?_,fun w7=>⟨⟨?_,?_⟩,?_⟩⟩⟩,fun w8=>?_⟩
 all_goals first|refine aw ?_|refine ax ?_|exact ba|(dsimp only [AL,wN];omega)|exact a8|(show (i:Int)+1≤9223372036854775807;omega)|skip
 ·have e:uC (f1,f2,f3,f4,f5) l 0=(i:Int):=by rw [←hr,cP (cr w1),uC,show late (f1,f2,f3,f4,f5) (nth ae l i)=true from w6];rfl
  refine⟨[],[],_,_,_,rfl,az,(),aa,?_,?_,rfl⟩
  ·(show _=jk l (f1,f2,f3,f4,f5));unfold jk;first|(rw [e];rfl)|rfl
  ·(show _=kr l (f1,f2,f3,f4,f5));unfold kr;first|(rw [e];rfl)|rfl
 ·refine⟨(i+1),[],?_,?_,?_⟩
  rotate_right
  ·exact bX
  ·refine⟨cr w1,?_⟩
   rw [←hr,cP (cr w1),uC,show late (f1,f2,f3,f4,f5) (nth ae l i)=false from w7];rfl
  ·show l.length-(i+1)<l.length-i;have:=cr w1;omega
 ·have e:uC (f1,f2,f3,f4,f5) l 0= -1:=by rw [←hr,ZB4 (by have:=aA w8;omega)];rfl
  refine⟨[],[],_,_,_,rfl,az,(),aa,?_,?_,rfl⟩
  ·(show _=jk l (f1,f2,f3,f4,f5));unfold jk;first|(rw [e];rfl)|rfl
  ·(show _=kr l (f1,f2,f3,f4,f5));unfold kr;first|(rw [e];rfl)|rfl
theorem CS (p:Pt):∀(l:List Pt) (i:Nat),decide (uC p l i≥0)=l.any (late p)
 |[],_=>rfl
 |q::l,i=>by
  rw [uC,List.any_cons]
  cases late p q with
  |false=>exact CS p l (i+1)
  |true=>show decide ((i:Int)≥0)=true;exact decide_eq_true (Int.natCast_nonneg i)
def tz (l:List Pt) (f:Pt):Prop:=l.length≤1000000
def th (l:List Pt) (f:Pt):AV:=.s (.q (l.any (late f)))
def vu (l:List Pt) (f:Pt):List AV:=[.a [.int f.1,.int f.2.1,.int f.2.2.1,.int f.2.2.2.1,.int f.2.2.2.2]]
def zf:Con where
 A:=[.s (.vz ae),.fn 61 [0]]
 B:=[.a [.int,.int,.int,.int,.int]]
 pre:=fun x b=>tz (x.1) b
 α:=fun _ _=>Unit
 φ:=fun _ _ _=>True
 r:=fun x b _=>th (x.1) b
 o:=fun x b _=>vu (x.1) b
 nf:=0
 ro:=true
set_option maxRecDepth 100000 in
theorem XQ:Has Tryz.prog 60 zf:=by
 refine Has.ofEI (fun _=>true) (fun _=>false) (fun _=>false) (l:=[(93,uk)]) ⟨PU,trivial⟩ (fn:=Tryz.f60) Tryz.func60 rfl (by decide) (aZ rfl) ?_
 rintro⟨(l:List Pt),_⟩ ⟨(f1:Int),(f2:Int),(f3:Int),(f4:Int),(f5:Int)⟩ (hp:tz l (f1,f2,f3,f4,f5))
 show vc _ _ _ _ (entry [.s (.vz ae l),.fn 61 [(0,0)]] [.a [.int f1,.int f2,.int f3,.int f4,.int f5]]) _
 have hp:l.length≤1000000:=hp
 refine⟨⟨⟨⟨aa,aa,aa⟩,?_⟩,fun x1 w2=>?_⟩,fun x3 w4=>?_⟩
 all_goals first|refine aw ?_|refine ax ?_|exact ba|(dsimp only [uk,qg];omega)|exact a8|exact hp|skip
 refine⟨[],[],_,_,_,rfl,az,(),aa,?_,?_,rfl⟩
 ·(show _=th l (f1,f2,f3,f4,f5));unfold th;first|(rw [←CS (f1,f2,f3,f4,f5) l 0];rfl)|rfl
 ·(show _=vu l (f1,f2,f3,f4,f5));unfold vu;first|(rw [←CS (f1,f2,f3,f4,f5) l 0];rfl)|rfl
end GL
namespace GL
def xy (s:ay) (p:Pt):List Pt:=bif au p then cw 4 else (bn (bH s p).1).1
def qz (s:ay) (p:Pt) (lv:Int):Bool:=bif au p then true else bif !(bH s p).2 then false else bif decide (p.2.2.2.2≠lv) then false else (bn (bH s p).1).2&& !((bn (bH s p).1).1.any (late p))
section
variable {s:ay}{p:Pt}{lv:Int}
theorem YA (h:au p=true):qz s p lv=true:=by unfold qz;rw [h];rfl
theorem X9 (h:au p=false) (h1:(!(bH s p).2)=true):qz s p lv=false:=by unfold qz;rw [h,h1];rfl
theorem ae1 (h:au p=false) (h1:(!(bH s p).2)=false) (h2:decide (p.2.2.2.2≠lv)=true):qz s p lv=false:=by unfold qz;rw [h,h1,h2];rfl
theorem ae0 (h:au p=false) (h1:(!(bH s p).2)=false) (h2:decide (p.2.2.2.2≠lv)=false) (h3:false=(bn (bH s p).1).2):qz s p lv=false:=by unfold qz;rw [h,h1,h2,←h3];rfl
theorem aeZ (h:au p=false) (h1:(!(bH s p).2)=false) (h2:decide (p.2.2.2.2≠lv)=false) (h3:true=(bn (bH s p).1).2):qz s p lv= !((bn (bH s p).1).1.any (late p)):=by unfold qz;rw [h,h1,h2,←h3];rfl
theorem JR (h:au p=true):xy s p=cw 4:=by unfold xy;rw [h];rfl
theorem aeX (h:au p=false):xy s p=(bn (bH s p).1).1:=by unfold xy;rw [h];rfl
theorem acn (cA:a6 p=true) (hb:au p=false→p.2.1≤s.ck):qz s p lv=(bh s p lv).2∧(qz s p lv=true→xy s p=(bh s p lv).1):=by
 cases hh:au p with
 |true=>rw [YA hh,kA hh];exact⟨rfl,fun _=>JR hh⟩
 |false=>
  have hb:=hb hh
  cases hl:decide (p.2.2.2.2≠lv) with
  |true=>
   rw [wj hh hl]
   cases hr: !(bH s p).2 with
   |true=>rw [X9 hh hr];exact⟨rfl,fun h=>by cases h⟩
   |false=>rw [ae1 hh hr hl];exact⟨rfl,fun h=>by cases h⟩
  |false=>
   have h1:(!(a6 p))=false:=by rw [cA];rfl
   have h3:decide (p.2.1>s.ck)=false:=decide_eq_false (by omega)
   cases hr: !(bH s p).2 with
   |true=>rw [X9 hh hr,wi hh h1 hl h3 hr];exact⟨rfl,fun h=>by cases h⟩
   |false=>
    rw [wh hh h1 hl h3 hr]
    cases hf:(bn (bH s p).1).2 with
    |false=>
     rw [ae0 hh hr hl hf.symm,X8 hf];exact⟨rfl,fun h=>by cases h⟩
    |true=>
     rw [aeZ hh hr hl hf.symm,aeX hh]
     cases ha:(bn (bH s p).1).1.any (late p) with
     |true=>rw [wk ha];exact⟨rfl,fun h=>by cases h⟩
     |false=>rw [sV ha];exact⟨by rw [hf];rfl,fun _=>rfl⟩
end
def kQ (S:ay) (p:Pt) (lv:Int):Prop:=S.rd∧a6 p=true
def V9 (S:ay) (p:Pt) (lv:Int) (z:Bool):Prop:=qz S p lv=true→z=true
def fR (S:ay) (p:Pt) (lv:Int) (z:Bool):AV:=.t [match z with |true=>.s (.xs 0 5 0 (xy S p).length) |false=>.s (.v (.slice none 0 0)),.s (.q (qz S p lv))]
def gY (S:ay) (p:Pt) (lv:Int) (z:Bool):List AV:=match z with |true=>[.rs ae (xy S p)] |false=>[.zz]
def ky:Con where
 A:=[.vs xE,.a [.int,.int,.int,.int,.int],.s .int]
 B:=[]
 pre:=fun x b=>kQ (x.1) (x.2.1) (x.2.2)
 α:=fun _ _=>Bool
 φ:=fun x b z=>V9 (x.1) (x.2.1) (x.2.2) z
 r:=fun x b z=>fR (x.1) (x.2.1) (x.2.2) z
 o:=fun x b z=>gY (x.1) (x.2.1) (x.2.2) z
 nf:=1
set_option maxRecDepth 100000 in
theorem zV:Has Tryz.prog 37 ky:=by
 refine Has.ofZI (fun _=>true) (fun _=>false) (fun _=>false) (l:=[(35,bI),(38,kK),(59,DP),(60,zf)]) ⟨eQ,zT,ab8,XQ,trivial⟩ (fn:=Tryz.f37) Tryz.func37 rfl (by decide) (aZ rfl) ?_
 rintro⟨⟨(aj:List ByteArray),(ak:List Int),(an:List Int),(ao:Int),(ah:List Pt),(aq:Int),(ai:List Pt),(ar:Bool)⟩,⟨(p1:Int),(p2:Int),(p3:Int),(p4:Int),(p5:Int)⟩,(lv:Int)⟩ _ (hp:kQ (aj,ak,an,ao,ah,aq,ai,ar) (p1,p2,p3,p4,p5) lv)
 show vc _ _ _ _ (entry [.s (.vs [.vz ab aj,.vz ag ak,.vz ag an,.v (.int .i64 ao),.vz ae ah,.v (.int .i64 aq),.vz ae ai,.q ar] 0),.a [.int p1,.int p2,.int p3,.int p4,.int p5],.int lv] []) _
 obtain⟨dG,cA⟩:=hp
 have dG:ay.rd (aj,ak,an,ao,ah,aq,ai,ar):=dG
 have cA:a6 (p1,p2,p3,p4,p5)=true:=cA
 have dk:∀q,(bH (aj,ak,an,ao,ah,aq,ai,ar) q).1.size≤1000000:=fun q=>zD dG
 have hF:=(vS (bH (aj,ak,an,ao,ah,aq,ai,ar) (p1,p2,p3,p4,p5)).1).1
 refine⟨⟨⟨⟨aa,aa,aa,aa,aa,aa⟩,aa⟩,aa⟩,fun x1 w2=>⟨fun w3=>⟨⟨?_,?_,?_⟩,?_⟩,fun w4=>⟨⟨⟨aa,⟨aa,aa,aa,aa,aa,aa⟩,aa⟩,fun x5 w6=>?_,?_,?_⟩,fun x7 w8=>⟨aa,fun w9=>?_,fun dq=>⟨fun kk=>?_,fun dI=>⟨⟨⟨aa,aa⟩,?_⟩,fun |false=>fun iJ=>⟨aa,fun gI=>⟨⟨⟨⟨aa,aa,aa⟩,?_⟩,fun kD kj=>?_⟩,fun x17 qX=>?_⟩,fun oB=>?_⟩ |true=>fun uw=>⟨aa,fun zm=>⟨⟨⟨⟨⟨?_,?_⟩,aa,aa⟩,?_⟩,fun x22 xD=>?_⟩,fun x24 w25=>?_⟩,fun E1=>?_⟩⟩⟩⟩⟩⟩⟩
 all_goals first|refine aw ?_|refine ax ?_|exact ba|(dsimp only [bI,cf];omega)|(dsimp only [kK,ll];omega)|(dsimp only [DP,rj];omega)|(dsimp only [zf,tz];omega)|exact a8|exact dG.1|exact cA|exact dG.2 _ w6|exact dG.2 _ (by assumption)|exact ZA8 _|exact dk _|(show (bn (bH (aj,ak,an,ao,ah,aq,ai,ar) (p1,p2,p3,p4,p5)).1).1.length≤1000000;omega)|skip
 ·refine⟨[1014],[],_,_,_,rfl,az,true,0,(fun _=>rfl),?_,?_,rfl⟩
  ·(show _=fR (aj,ak,an,ao,ah,aq,ai,ar) (p1,p2,p3,p4,p5) lv true);unfold fR;first|(rw [YA (s:=(aj,ak,an,ao,ah,aq,ai,ar)) (lv:=lv) w3,JR (s:=(aj,ak,an,ao,ah,aq,ai,ar)) w3];rfl)|(rw [JR (s:=(aj,ak,an,ao,ah,aq,ai,ar)) w3];rfl)|rfl
  ·(show _=gY (aj,ak,an,ao,ah,aq,ai,ar) (p1,p2,p3,p4,p5) lv true);unfold gY;first|(rw [YA (s:=(aj,ak,an,ao,ah,aq,ai,ar)) (lv:=lv) w3,JR (s:=(aj,ak,an,ao,ah,aq,ai,ar)) w3];rfl)|(rw [JR (s:=(aj,ak,an,ao,ah,aq,ai,ar)) w3];rfl)|rfl
 ·have e:=X9 (s:=(aj,ak,an,ao,ah,aq,ai,ar)) (lv:=lv) w4 w9
  refine⟨[],[],_,_,_,rfl,az,false,1,(fun h:qz (aj,ak,an,ao,ah,aq,ai,ar) (p1,p2,p3,p4,p5) lv=true=>absurd (e.symm.trans h) (by decide)),?_,?_,rfl⟩
  ·(show _=fR (aj,ak,an,ao,ah,aq,ai,ar) (p1,p2,p3,p4,p5) lv false);unfold fR;first|(rw [e];rfl)|rfl
  ·(show _=gY (aj,ak,an,ao,ah,aq,ai,ar) (p1,p2,p3,p4,p5) lv false);unfold gY;first|(rw [e];rfl)|rfl
 ·have e:=ae1 (s:=(aj,ak,an,ao,ah,aq,ai,ar)) (lv:=lv) w4 dq kk
  refine⟨[],[],_,_,_,rfl,az,false,1,(fun h:qz (aj,ak,an,ao,ah,aq,ai,ar) (p1,p2,p3,p4,p5) lv=true=>absurd (e.symm.trans h) (by decide)),?_,?_,rfl⟩
  ·(show _=fR (aj,ak,an,ao,ah,aq,ai,ar) (p1,p2,p3,p4,p5) lv false);unfold fR;first|(rw [e];rfl)|rfl
  ·(show _=gY (aj,ak,an,ao,ah,aq,ai,ar) (p1,p2,p3,p4,p5) lv false);unfold gY;first|(rw [e];rfl)|rfl
 ·cases gI
 ·have e:=ae0 (s:=(aj,ak,an,ao,ah,aq,ai,ar)) (lv:=lv) w4 dq dI (show false=(bn (bH (aj,ak,an,ao,ah,aq,ai,ar) (p1,p2,p3,p4,p5)).1).2 from iJ)
  refine⟨[],[],_,_,_,rfl,az,false,1,(fun h:qz (aj,ak,an,ao,ah,aq,ai,ar) (p1,p2,p3,p4,p5) lv=true=>absurd (e.symm.trans h) (by decide)),?_,?_,rfl⟩
  ·(show _=fR (aj,ak,an,ao,ah,aq,ai,ar) (p1,p2,p3,p4,p5) lv false);unfold fR;first|(rw [e];rfl)|rfl
  ·(show _=gY (aj,ak,an,ao,ah,aq,ai,ar) (p1,p2,p3,p4,p5) lv false);unfold gY;first|(rw [e];rfl)|rfl
 ·have e:=aeZ (s:=(aj,ak,an,ao,ah,aq,ai,ar)) (lv:=lv) w4 dq dI (show true=(bn (bH (aj,ak,an,ao,ah,aq,ai,ar) (p1,p2,p3,p4,p5)).1).2 from uw)
  have e2:=aeX (s:=(aj,ak,an,ao,ah,aq,ai,ar)) w4
  refine⟨[320000],[],_,_,_,rfl,az,true,0,(fun _=>rfl),?_,?_,rfl⟩
  ·(show _=fR (aj,ak,an,ao,ah,aq,ai,ar) (p1,p2,p3,p4,p5) lv true);unfold fR;first|(rw [e,e2];rfl)|(rw [e2];rfl)|rfl
  ·(show _=gY (aj,ak,an,ao,ah,aq,ai,ar) (p1,p2,p3,p4,p5) lv true);unfold gY;first|(rw [e,e2];rfl)|(rw [e2];rfl)|rfl
 ·cases E1
end GL
end Go.Proofs.YtbfgjadbfjkcdaaGreatDoor
