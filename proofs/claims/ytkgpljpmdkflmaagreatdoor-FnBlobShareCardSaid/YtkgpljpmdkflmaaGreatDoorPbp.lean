/- Part 42 of A drawn law. -/
import Derived.Test.YtkgpljpmdkflmaaGreatDoorPas
import Derived.Test.YtkgpljpmdkflmaaGreatDoorPbo
set_option maxHeartbeats 20000000
set_option maxRecDepth 100000
set_option linter.all false
namespace Go.Proofs.YtkgpljpmdkflmaaGreatDoor
namespace GL
def oT (p:Pt):Prop:=True
def tc (p:Pt):AV:=.s (.q (!(au p)))
def R5 (p:Pt):List AV:=[]
def qD:ct where
 A:=[.a [.int,.int,.int,.int,.int]]
 B:=[]
 pre:=fun x b=>oT x
 r:=fun x b _=>tc x
 o:=fun x b _=>R5 x
theorem IK:Has Tryz.prog 236 qD:=by
 refine Has.zC zT zF zF (l:=[(23,bH)]) ⟨eP,aa⟩ Tryz.func236 ?_
 rintro⟨(p1:Int),(p2:Int),(p3:Int),(p4:Int),(p5:Int)⟩ _ (hp:oT (p1,p2,p3,p4,p5))
 show vc _ _ _ _ (entry [.a [.int p1,.int p2,.int p3,.int p4,.int p5]] []) _
 refine⟨⟨⟨⟨aa,aa,aa,aa,aa,aa⟩,aa⟩,aa⟩,fun x1 w2=>?_⟩
 all_goals first|refine aw ?_|refine ax ?_|exact a8|(dsimp only [bH,cc];omega)|exact a7|skip
 refine⟨[],[],_,_,_,rfl,az,(),aa,?_,?_,rfl⟩
 ·(show _=tc (p1,p2,p3,p4,p5));unfold tc;first|rfl
 ·rfl
def oA:List Pt→Nat→Int
 |[],_=> -1
 |p::l,i=>bif au p then oA l (i+1) else i
theorem ux {b:Bool}(h:(!b)=true):b=false:=by cases b with
 |false=>rfl
 |true=>cases h
def oD (l:List Pt):Prop:=l.length≤1000000
def iM (l:List Pt):AV:=.s (.int (oA l 0))
def HJ (l:List Pt):List AV:=[]
def rR:ct where
 A:=[.s (.vz ae),.fn 236 []]
 B:=[]
 pre:=fun x b=>oD (x.1)
 r:=fun x b _=>iM (x.1)
 o:=fun x b _=>HJ (x.1)
theorem KZ:Has Tryz.prog 195 rR:=by
 refine Has.zC zT zF zF (l:=[(236,qD)]) ⟨IK,aa⟩ Tryz.func195 ?_
 rintro⟨(l:List Pt),_⟩ _ (hp:oD l)
 show vc _ _ _ _ (entry [.s (.vz ae l),.fn 236 []] []) _
 have hp:l.length≤1000000:=hp
 refine ?_
 all_goals first|refine aw ?_|refine ax ?_|exact a8|(dsimp only [qD,oT];omega)|exact a7|skip
 refine l4 (l:=[(236,qD)]) (ex:=zT) (wr:=zF) (pt:=zF) ⟨IK,aa⟩ [.s 0,.s 1,.s 6,.s 7] (fun i:Nat=>[(.s 8,.int i)]) (fun i=>i≤l.length∧oA (l.drop i) i=oA l 0) (fun i=>l.length-i) 0 [] ⟨ZA7 _,rfl⟩ dN ?_
 rintro i ⟨(hi:i≤l.length),(hr:oA (l.drop i) i=oA l 0)⟩
 have cP:i<l.length→l.drop i=nth ae l i::l.drop (i+1):=fun h=>bX (ek:=ae) h
 have cq:decide ((i:Int)<(l.length:Int))=true→i<l.length:=fun h=>by have:=aJ h;omega
 refine⟨fun w1=>⟨⟨?_,?_⟩,⟨⟨⟨aa,aa,aa,aa,aa,aa⟩,aa⟩,aa⟩,fun x2 w3=>⟨fun w4=>?_,fun w5=>⟨⟨?_,?_⟩,?_⟩⟩⟩,fun w6=>?_⟩
 all_goals first|refine aw ?_|refine ax ?_|exact a8|(dsimp only [qD,oT];omega)|exact a7|(show (i:Int)+1≤9223372036854775807;omega)|skip
 ·have e:oA l 0=(i:Int):=by rw [←hr,cP (cq w1),oA,show au (nth ae l i)=false from ux w4];rfl
  refine⟨[],[],_,_,_,rfl,az,(),aa,?_,?_,rfl⟩
  ·(show _=iM l);unfold iM;first|(rw [e];rfl)|rfl
  ·rfl
 ·refine⟨(i+1),[],?_,?_,?_⟩
  rotate_right
  ·exact bW
  ·refine⟨cq w1,?_⟩
   rw [←hr,cP (cq w1),oA,show au (nth ae l i)=true from cM w5];rfl
  ·show l.length-(i+1)<l.length-i;have:=cq w1;omega
 ·have e:oA l 0= -1:=by rw [←hr,ZB3 (by have:=aA w6;omega)];rfl
  refine⟨[],[],_,_,_,rfl,az,(),aa,?_,?_,rfl⟩
  ·(show _=iM l);unfold iM;first|(rw [e];rfl)|rfl
  ·rfl
theorem GH:∀(l:List Pt) (i:Nat),decide (oA l i≥0)=l.any (fun p=> !(au p))
 |[],_=>rfl
 |p::l,i=>by
  rw [oA,List.any_cons]
  cases au p with
  |true=>exact GH l (i+1)
  |false=>show decide ((i:Int)≥0)=true;exact decide_eq_true (Int.natCast_nonneg i)
def km (l:List Pt):Prop:=l.length≤1000000
def rH (l:List Pt):AV:=.s (.q (l.any (fun p=> !(au p))))
def ON (l:List Pt):List AV:=[]
def ly:ct where
 A:=[.s (.vz ae),.fn 236 []]
 B:=[]
 pre:=fun x b=>km (x.1)
 r:=fun x b _=>rH (x.1)
 o:=fun x b _=>ON (x.1)
theorem D4:Has Tryz.prog 155 ly:=by
 refine Has.zC zT zF zF (l:=[(195,rR)]) ⟨KZ,aa⟩ Tryz.func155 ?_
 rintro⟨(l:List Pt),_⟩ _ (hp:km l)
 show vc _ _ _ _ (entry [.s (.vz ae l),.fn 236 []] []) _
 have hp:l.length≤1000000:=hp
 refine⟨⟨⟨aa,aa,aa⟩,?_⟩,fun x1 w2=>?_⟩
 all_goals first|refine aw ?_|refine ax ?_|exact a8|(dsimp only [rR,oD];omega)|exact a7|exact hp|skip
 refine⟨[],[],_,_,_,rfl,az,(),aa,?_,?_,rfl⟩
 ·(show _=rH l);unfold rH;first|(rw [←GH l 0];rfl)|rfl
 ·rfl
theorem JD {l:List Pt}(h:(bF l).2=false):bF l=(⟨#[]⟩,false):=by
 cases h0:decide ((l.length:Int)≠4) with
 |true=>exact xa h0
 |false=>
  rw [w0 h0] at h ⊢
  match e:gZ l 0 ⟨#[]⟩ false with
  |none=>exact po e
  |some (o,sm)=>
   rw [sI e] at h ⊢
   cases hs: !sm with
   |true=>exact C6 hs
   |false=>rw [xc hs] at h;cases h
theorem PM {l:List Pt}(h0:decide ((l.length:Int)≠4)=false) (h:l.any (fun p=> !(au p))=false):bF l=(⟨#[]⟩,false):=by
 cases h2:(bF l).2 with
 |true=>
  obtain⟨a,b,c,d,rfl,ha,hb,hc,hd,hs,_⟩:=ma h2
  simp only [List.any_cons,List.any_nil,Bool.or_false] at h
  simp_all
 |false=>exact JD h2
def oz (l:List Pt) (n:Nat):List ByteArray:=(l.take n).map bc
theorem DN {l:List Pt}{n:Nat}(h:n<l.length):oz l (n+1)=oz l n++[bc (nth ae l n)]:=by
 unfold oz
 rw [List.take_succ,oF (ek:=ae) h,List.map_append];rfl
theorem XI {l:List Pt}(h4:l.length=4) (n:Nat) (hn:n<4) (h:aZ (nth ae l n)=false):bF l=(⟨#[]⟩,false):=by
 cases h2:(bF l).2 with
 |true=>
  obtain⟨a,b,c,d,rfl,ha,hb,hc,hd,_⟩:=ma h2
  have h6:n=0∨n=1∨n=2∨n=3:=by omega
  rcases h6 with rfl |rfl |rfl |rfl
  ·exact absurd (ha.symm.trans h) (by decide)
  ·exact absurd (hb.symm.trans h) (by decide)
  ·exact absurd (hc.symm.trans h) (by decide)
  ·exact absurd (hd.symm.trans h) (by decide)
 |false=>exact JD h2
theorem aaD {l:List Pt}(h4:l.length=4):(Lib.join ((oz l 4).map (·.data.toList)) (⟨#[44]⟩:ByteArray).data.toList).length≤1000000:=by
 match l,h4 with
 |[a,b,c,d],_=>
  have h:=congrArg List.length (agK (bc a) (bc b) (bc c) (bc d))
  have e1:=gv a;have e2:=gv b;have e3:=gv c;have e4:=gv d
  rw [fo] at e1 e2 e3 e4
  rw [FD] at h
  have h':(Lib.join ((oz [a,b,c,d] 4).map (·.data.toList)) (⟨#[44]⟩:ByteArray).data.toList).length=_:=h
  rw [h']
  simp only [ZA0,ZA1]
  omega
theorem TZ {l:List Pt}(h4:l.length=4) (hs:l.any (fun p=> !(au p))=true) (hk:∀j,j<4→aZ (nth ae l j)=true):bF l=(zO ⟨#[44]⟩ (oz l 4),true):=by
 have h2:(bF l).2=true:=vN h4 (fun p hp=>by
  obtain⟨j,hj,rfl⟩:=List.getElem_of_mem hp
  have:=hk j (by omega)
  unfold nth at this;rw [ZB1 hj] at this;exact this) (by rw [hs];rfl)
 obtain⟨a,b,c,d,rfl,ha,hb,hc,hd,_,hl⟩:=ma h2
 have e:(bF [a,b,c,d]).1=zO ⟨#[44]⟩ (oz [a,b,c,d] 4):=vB (by rw [hl];exact (agK _ _ _ _).symm)
 rw [←e,←h2]
def nQ (l:List Pt):Prop:=True
def fc (l:List Pt):AV:=.t [.s (.str (bF l).1),.s (.q (bF l).2)]
def WD (l:List Pt):List AV:=[]
def px:ct where
 A:=[.s (.vz ae)]
 B:=[]
 pre:=fun x b=>nQ x
 r:=fun x b _=>fc x
 o:=fun x b _=>WD x
theorem MF:Has Tryz.prog 194 px:=by
 refine Has.zC zT zF zF (l:=[(155,ly),(64,cC),(235,eS),(237,kW)]) ⟨D4,jv,wW,PH,aa⟩ Tryz.func194 ?_
 rintro (l:List Pt) _ (hp:nQ l)
 show vc _ _ _ _ (entry [.s (.vz ae l)] []) _
 have h4:decide ((l.length:Int)≠4)=false→l.length=4:=fun h=>by have:=aA h;omega
 refine⟨aa,fun w1=>?_,fun w2=>⟨⟨⟨aa,aa,aa⟩,?_⟩,fun x3 w4=>⟨fun w5=>?_,fun w6=>?_⟩⟩⟩
 all_goals first|refine aw ?_|refine ax ?_|exact a8|(dsimp only [ly,km,cC,cS,eS,eH];omega)|exact a7|(show l.length≤1000000;have:=h4 (by assumption);omega)|skip
 ·refine⟨[],[],_,_,_,rfl,az,(),aa,?_,?_,rfl⟩
  ·(show _=fc l);unfold fc;first|(rw [xa w1];rfl)|rfl
  ·rfl
 ·have e:bF l=(⟨#[]⟩,false):=PM w2 (ux w5)
  refine⟨[],[],_,_,_,rfl,az,(),aa,?_,?_,rfl⟩
  ·(show _=fc l);unfold fc;first|(rw [e];rfl)|rfl
  ·rfl
 ·have hl:=h4 w2
  have hs:l.any (fun p=> !(au p))=true:=cM w6
  refine l4 (l:=[(155,ly),(64,cC),(235,eS),(237,kW)]) (ex:=zT) (wr:=zF) (pt:=zF) ⟨D4,jv,wW,PH,trivial⟩ [.s 0,.s 15,.s 16] (fun y:Nat×List ByteArray=>match y.1 with |0=>[(.s 4,.s (.v (.slice none 0 0))),(.s 17,.int 0)] |n+1=>[(.s 4,.s (.xs 1019 1 0 y.2.length)),(.s 17,.int ((n+1:Nat):Int)),(.b 1019,.rs ab y.2)]) (fun y=>y.1≤4∧y.2=oz l y.1∧∀j,j<y.1→aZ (nth ae l j)=true) (fun y=>4-y.1) (0,[]) [] ⟨ZA7 _,rfl,fun j hj=>absurd hj (by omega)⟩ dN ?_
  rintro⟨n,T⟩ ⟨(hn:n≤4),(hT:T=oz l n),hk⟩
  have hlen:T.length≤4:=by rw [hT];unfold oz;rw [ZG2,ZC0];omega
  have iC:∀n,n<4→(!(aZ (nth ae l n)))=true→bF l=(⟨#[]⟩,false):=fun n hn h=>XI hl n hn (ux h)
  have cP:∀n,(∀j,j<n→aZ (nth ae l j)=true)→(!(aZ (nth ae l n)))=false→∀j,j<n+1→aZ (nth ae l j)=true:=fun n h h2 j hj=>by
   by_cases hjn:j=n
   ·rw [hjn];exact cM h2
   ·exact h j (by omega)
  cases n with
  |zero=>
   refine⟨fun w1=>⟨⟨?_,?_⟩,⟨⟨⟨aa,aa,aa,aa,aa,aa⟩,aa⟩,aa⟩,fun x2 w3=>⟨fun w4=>?_,fun w5=>⟨⟨⟨⟨aa,aa,aa,aa,aa,aa⟩,aa⟩,aa⟩,fun x6 w7=>⟨aa,⟨⟨?_,?_⟩,?_,?_⟩,⟨?_,?_⟩,?_⟩⟩⟩⟩,fun w8=>⟨⟨⟨aa,aa,aa⟩,?_,?_⟩,fun x9 dy=>?_⟩⟩
   all_goals first|(exfalso;simp only [decide_eq_true_eq,decide_eq_false_iff_not] at *;omega)|refine aw ?_|refine ax ?_|exact a8|(dsimp only [ly,km,cC,cS,eS,eH];omega)|exact a7|skip
   ·refine⟨[],[],_,_,_,rfl,az,(),aa,?_,?_,rfl⟩
    ·(show _=fc l);unfold fc;first|(rw [iC 0 (by omega) w4];rfl)|rfl
    ·rfl
   ·refine⟨(1,[bc (nth ae l 0)]),[(1019,1028)],?_,?_,?_⟩
    rotate_right
    ·exact bW
    ·exact⟨by show 1≤4;omega,(by show _=oz l (0+1);rw [DN (by omega)];rfl),cP 0 hk w5⟩
    ·show 4-1<4-0;omega
  |succ n=>
   have cq:decide (((n+1:Nat):Int)<(l.length:Int))=true→n+1<4:=fun h=>by have:=aJ h;omega
   have hj:n+1=4→(Lib.join (T.map (·.data.toList)) (⟨#[44]⟩:ByteArray).data.toList).length≤1000000:=fun h=>by rw [hT,h];exact aaD hl
   have oe:decide (((n+1:Nat):Int)<(l.length:Int))=false→n+1=4:=fun h=>by have:=aA h;omega
   refine⟨fun w1=>⟨⟨?_,?_⟩,⟨⟨⟨aa,aa,aa,aa,aa,aa⟩,aa⟩,aa⟩,fun x2 w3=>⟨fun w4=>?_,fun w5=>⟨⟨⟨⟨aa,aa,aa,aa,aa,aa⟩,aa⟩,aa⟩,fun x6 w7=>⟨aa,⟨⟨?_,?_⟩,?_,?_⟩,⟨?_,?_⟩,?_⟩⟩⟩⟩,fun w8=>⟨⟨⟨⟨?_,?_⟩,aa,aa⟩,?_,?_⟩,fun x9 dy=>?_⟩⟩
   all_goals first|(exfalso;simp only [decide_eq_true_eq,decide_eq_false_iff_not] at *;omega)|refine aw ?_|refine ax ?_|exact a8|(dsimp only [ly,km,cC,cS,eS,eH];omega)|exact a7|(show T.length+1≤1048576;omega)|exact hj (oe w8)|(show T.length≤1000000;omega)|skip
   ·refine⟨[],[],_,_,_,rfl,az,(),aa,?_,?_,rfl⟩
    ·(show _=fc l);unfold fc;first|(rw [iC (n+1) (cq w1) w4];rfl)|rfl
    ·rfl
   ·have bV:=cq w1
    refine⟨(n+2,T++[bc (nth ae l (n+1))]),[(1019,1028)],?_,?_,?_⟩
    rotate_right
    ·exact bW
    ·exact⟨by show n+2≤4;omega,by show _=oz l (n+1+1);rw [DN (by omega),hT],cP (n+1) hk w5⟩
    ·show 4-(n+2)<4-(n+1);omega
   ·have e:bF l=(zO ⟨#[44]⟩ T,true):=by rw [hT,oe w8];exact TZ hl hs (by rw [←oe w8];exact hk)
    refine⟨[],[],_,_,_,rfl,az,(),aa,?_,?_,rfl⟩
    ·(show _=fc l);unfold fc;first|(rw [e];rfl)|rfl
    ·rfl
end GL
namespace GL
theorem VL {s:ByteArray}(h:(bQ s).2=true):bc (bQ s).1=s:=by
 cases h0:decide (s=⟨#[45]⟩) with
 |true=>rw [wG h0,aJ h0];rfl
 |false=>
  cases h5:decide (((bn s 46).length:Int)≠5) with
  |true=>rw [B0 h0 h5] at h;cases h
  |false=>
   have hl:(bn s 46).length=5:=by have:=aA (p:=((bn s 46).length:Int)≠5) h5;omega
   have hk:∀j,j<5→(aD (nth ab (bn s 46) j)).2=true:=fun j hj=>by
    cases hb:(aD (nth ab (bn s 46) j)).2 with
    |true=>rfl
    |false=>rw [sd h0 h5,BZ (CC _ [] j (by rw [hl];exact hj) hb)] at h;cases h
   have e:=G3 h0 hl hk
   cases hd:decide (bc (OB (bn s 46))≠s) with
   |true=>rw [e,hd] at h;cases h
   |false=>
    rw [e,hd]
    exact ZE9.1 (aA (p:=¬bc (OB (bn s 46))=s) hd)
def qT (t:ByteArray):Pt:=(bQ t).1
theorem T3:∀{l:List ByteArray}{out o:List Pt}{sm sm':Bool},oo l out sm=some (o,sm')→o=out++l.map qT∧(∀t∈l,(bQ t).2=true)∧sm'=(sm||(l.map qT).any (fun p=> !(au p)))
 |[],out,o,sm,sm',h=>by
  unfold oo at h;cases h;simp
 |t::l,out,o,sm,sm',h=>by
  unfold oo at h
  cases ht:(bQ t).2 with
  |false=>rw [ht] at h;cases h
  |true=>
   rw [ht] at h
   obtain⟨h1,h2,h3⟩:=T3 (l:=l) h
   refine⟨by rw [h1];simp [qT],?_,by rw [h3];simp [qT,Bool.or_assoc]⟩
   intro t' ht'
   rcases ZB8.1 ht' with rfl |h'
   ·exact ht
   ·exact h2 t' h'
theorem XN {s:ByteArray}(h:(bm s).2=false):bm s=([],false):=by
 match e:oo (bn s 44) [] false with
 |none=>exact xd e
 |some (o,sm)=>
  rw [jZ e] at h ⊢
  cases h4:decide ((o.length:Int)≠4) with
  |true=>exact z1 h4
  |false=>
   cases hs: !sm with
   |true=>exact zZ hs
   |false=>rw [vP h4 hs] at h;cases h
theorem yV {s:ByteArray}(h:(bm s).2=true):(bn s 44).length=4∧(bm s).1=(bn s 44).map qT∧(∀t∈bn s 44,(bQ t).2=true)∧bF ((bn s 44).map qT)=(s,true):=by
 match e:oo (bn s 44) [] false with
 |none=>rw [xd e] at h;cases h
 |some (o,sm)=>
  rw [jZ e] at h ⊢
  obtain⟨h1,h2,h3⟩:=T3 e
  rw [ZC9] at h1
  cases h4:decide ((o.length:Int)≠4) with
  |true=>rw [z1 h4] at h;cases h
  |false=>
   cases hs: !sm with
   |true=>rw [zZ hs] at h;cases h
   |false=>
    rw [vP h4 hs]
    have hol:o.length=4:=by have:=aA (p:=(o.length:Int)≠4) h4;omega
    have hl:(bn s 44).length=4:=by rw [h1,ZG2] at hol;exact hol
    refine⟨hl,h1,h2,?_⟩
    have alg:((bn s 44).map qT).any (fun p=> !(au p))=true:=by rw [Bool.false_or] at h3;rw [←h3];exact cM hs
    have hy:(bF ((bn s 44).map qT)).2=true:=vN (by rw [ZG2];exact hl) (fun p hp=>by
     obtain⟨t,_,rfl⟩:=List.mem_map.1 hp
     exact G4 t) (by rw [alg];rfl)
    obtain⟨a,b,c,d,he,_,_,_,_,_,hlb⟩:=ma hy
    have aej:=aao s 44 (l:=bn s 44) rfl
    match TM:bn s 44,hl with
    |[w,x,y,z],_=>
     rw [TM] at he hlb h2 hy aej
     have hi:∀t∈[w,x,y,z],bc (qT t)=t:=fun t ht=>VL (h2 t ht)
     injection he with ea he;injection he with eb he;injection he with ec he;injection he with ed he
     rw [←ea,←eb,←ec,←ed,hi w (by simp),hi x (by simp),hi y (by simp),hi z (by simp)] at hlb
     have e1:(bF (List.map qT [w,x,y,z])).1=s:=vB (by rw [hlb,←aej];rfl)
     rw [←e1,←hy]
theorem XL {s:ByteArray}{n:Nat}(hn:n<(bn s 44).length) (h:(!(bQ (nth ab (bn s 44) n)).2)=true):(bm s).2=false:=by
 cases h2:(bm s).2 with
 |false=>rfl
 |true=>
  obtain⟨_,_,h3,_⟩:=yV h2
  have:=h3 _ (bS (ek:=ab) hn)
  rw [this] at h;cases h
theorem T2 {s:ByteArray}(h:(bn s 44).length≠4):(bm s).2=false:=by
 cases h2:(bm s).2 with
 |false=>rfl
 |true=>exact absurd (yV h2).1 h
theorem XK {s:ByteArray}{l:List Pt}(hl:l=(bn s 44).map qT) (h:(bF l).2=false∨(bF l).1≠s):(bm s).2=false:=by
 cases h2:(bm s).2 with
 |false=>rfl
 |true=>
  have e:=(yV h2).2.2.2
  rw [←hl] at e
  rcases h with h |h
  ·rw [e] at h;cases h
  ·rw [e] at h;exact absurd rfl h
theorem MO {l:List ByteArray}{n:Nat}(h:n<l.length):(l.take (n+1)).map qT=(l.take n).map qT++[qT (nth ab l n)]:=by
 rw [List.take_succ,oF (ek:=ab) h,List.map_append];rfl
def re (s:ByteArray):Prop:=s.size≤1000000
def RR (s:ByteArray) (z:Bool):Prop:=z=(bm s).2
def cV (s:ByteArray) (z:Bool):AV:=.t [match z with |true=>.s (.xs 0 5 0 (bm s).1.length) |false=>.s (.v (.slice none 0 0)),.s (.q z)]
def dv (s:ByteArray) (z:Bool):List AV:=match z with |true=>[.rs ae (bm s).1] |false=>[.zz]
def DH:ct where
 A:=[.s .str]
 B:=[]
 pre:=fun x b=>re x
 α:=fun _ _=>Bool
 φ:=fun x b z=>RR x z
 r:=fun x b z=>cV x z
 o:=fun x b z=>dv x z
 nf:=1
theorem abK:Has Tryz.prog 154 DH:=by
 refine Has.WN zT zF zF (l:=[(192,iG),(193,pw),(194,px)]) ⟨FG,MD,MF,aa⟩ Tryz.func154 ?_
 rintro (s:ByteArray) _ (hp:re s)
 show vc _ _ _ _ (entry [.str s] []) _
 unfold re at hp
 have hsp:ib s ⟨#[44]⟩=bn s 44:=QM s 44
 have hL:(ib s ⟨#[44]⟩).length≤s.size+1:=by rw [hsp];exact (tY s 44).2
 refine⟨⟨⟨aa,aa,aa⟩,?_,?_⟩,fun x1 w2=>?_⟩
 all_goals first|refine aw ?_|refine ax ?_|exact a8|(dsimp only [pw,lh,px,nQ];omega)|exact a7|(show 1≤(1:Nat);omega)|skip
 have dj:∀n,n<(ib s ⟨#[44]⟩).length→(nth ab (ib s ⟨#[44]⟩) n).size≤1000000:=fun n h=>by rw [hsp] at *;exact ZB0 (oZ (s:=s) (c:=44) _ (bS (ek:=ab) h)) hp
 have iC:∀n,n<(ib s ⟨#[44]⟩).length→(!(bQ (nth ab (ib s ⟨#[44]⟩) n)).2)=true→false=(bm s).2:=fun n hn h=>by rw [hsp] at *;exact (XL hn h).symm
 have aji:(ib s ⟨#[44]⟩).length≠4→false=(bm s).2:=fun h=>by rw [hsp] at h;exact (T2 h).symm
 have I0:∀l,l=(ib s ⟨#[44]⟩).map qT→((bF l).2=false∨(bF l).1≠s)→false=(bm s).2:=fun l hl h=>by rw [hsp] at hl;exact (XK hl h).symm
 refine l4 (l:=[(192,iG),(193,pw),(194,px)]) (ex:=zT) (wr:=zF) (pt:=zF) ⟨FG,MD,MF,aa⟩ [.s 0,.s 12,.s 13] (fun y:Nat×List Pt=>match y.1 with |0=>[(.s 4,.s (.v (.slice none 0 0))),(.s 14,.int 0)] |n+1=>[(.s 4,.s (.xs 1019 5 0 y.2.length)),(.s 14,.int ((n+1:Nat):Int)),(.b 1019,.rs ae y.2)]) (fun y=>y.1≤(ib s ⟨#[44]⟩).length∧y.1≤4∧y.2=((ib s ⟨#[44]⟩).take y.1).map qT) (fun y=>4-y.1) (0,[]) [] ⟨ZA7 _,ZA7 _,rfl⟩ dN ?_
 rintro⟨n,T⟩ ⟨(hn:n≤(ib s ⟨#[44]⟩).length),(hn4:n≤4),(hT:T=((ib s ⟨#[44]⟩).take n).map qT)⟩
 have hlen:T.length=n:=by rw [hT,ZG2,ZC0];omega
 have cq:∀m:Nat,decide ((m:Int)<((ib s ⟨#[44]⟩).length:Int))=true→m<(ib s ⟨#[44]⟩).length:=fun m h=>by have:=aJ h;omega
 have oe:decide ((n:Int)<((ib s ⟨#[44]⟩).length:Int))=false→T=(ib s ⟨#[44]⟩).map qT:=fun h=>by
  have:=aA h
  rw [hT,ZD1 (by omega)]
 have ajo:(!(bF T).2)=false→decide ((bF T).1≠s)=false→bm s=(T,true):=fun h h2=>by
  have e:(bF T).1=s:=ZE9.1 (aA (p:=¬(bF T).1=s) h2)
  rw [←e];exact ED (cM h)
 cases n with
 |zero=>
  have hT0:T=[]:=hT
  subst hT0
  refine⟨fun w1=>⟨⟨?_,?_⟩,⟨⟨aa,aa⟩,?_⟩,fun x2 w3=>⟨aa,fun w4=>?_,fun w5=>⟨fun w6=>?_,fun w7=>⟨aa,⟨⟨?_,?_⟩,?_,?_⟩,⟨?_,?_⟩,?_⟩⟩⟩⟩,fun w8=>⟨⟨⟨aa,aa⟩,aa⟩,fun x9 dy=>⟨aa,fun kC=>?_,fun dK=>⟨fun iV=>?_,fun gP=>?_⟩⟩⟩⟩
  all_goals first|(exfalso;simp only [decide_eq_true_eq,decide_eq_false_iff_not] at *;omega)|refine aw ?_|refine ax ?_|exact a8|(dsimp only [pw,lh,px,nQ];omega)|exact a7|exact dj 0 (cq 0 w1)|skip
  ·refine⟨[],[],_,_,_,rfl,az,false,1,(iC 0 (cq 0 w1) w4),?_,?_,rfl⟩
   ·(show _=cV s false);unfold cV;first|(rw [rfl];rfl)|rfl
   ·(show _=dv s false);unfold dv;first|(rw [rfl];rfl)|rfl
  ·refine⟨(1,[qT (nth ab (ib s ⟨#[44]⟩) 0)]),[(1019,1033)],?_,?_,?_⟩
   rotate_right
   ·exact bW
   ·exact⟨cq 0 w1,by show 1≤4;omega,by show _=((ib s ⟨#[44]⟩).take (0+1)).map qT;rw [MO (cq 0 w1)];rfl⟩
   ·show 4-1<4-0;omega
  ·refine⟨[],[],_,_,_,rfl,az,false,1,(I0 [] (oe w8) (.inl (ux kC))),?_,?_,rfl⟩
   ·(show _=cV s false);unfold cV;first|(rw [rfl];rfl)|rfl
   ·(show _=dv s false);unfold dv;first|(rw [rfl];rfl)|rfl
  ·refine⟨[],[],_,_,_,rfl,az,false,1,(I0 [] (oe w8) (.inr (aJ iV))),?_,?_,rfl⟩
   ·(show _=cV s false);unfold cV;first|(rw [rfl];rfl)|rfl
   ·(show _=dv s false);unfold dv;first|(rw [rfl];rfl)|rfl
  ·exact absurd dK (by decide)
 |succ n=>
  refine⟨fun w1=>⟨⟨?_,?_⟩,⟨⟨aa,aa⟩,?_⟩,fun x2 w3=>⟨aa,fun w4=>?_,fun w5=>⟨fun w6=>?_,fun w7=>⟨aa,⟨⟨?_,?_⟩,?_,?_⟩,⟨?_,?_⟩,?_⟩⟩⟩⟩,fun w8=>⟨⟨⟨⟨?_,?_⟩,aa⟩,aa⟩,fun x9 dy=>⟨aa,fun kC=>?_,fun dK=>⟨fun iV=>?_,fun gP=>?_⟩⟩⟩⟩
  all_goals first|(exfalso;simp only [decide_eq_true_eq,decide_eq_false_iff_not] at *;omega)|refine aw ?_|refine ax ?_|exact a8|(dsimp only [pw,lh,px,nQ];omega)|exact a7|exact dj (n+1) (cq (n+1) w1)|skip
  ·refine⟨[],[],_,_,_,rfl,az,false,1,(iC (n+1) (cq (n+1) w1) w4),?_,?_,rfl⟩
   ·(show _=cV s false);unfold cV;first|(rw [rfl];rfl)|rfl
   ·(show _=dv s false);unfold dv;first|(rw [rfl];rfl)|rfl
  ·have h4:T.length=4:=by have:=aJ (p:=(T.length:Int)=4) w6;omega
   refine⟨[],[],_,_,_,rfl,az,false,1,(aji (by have:=cq (n+1) w1;omega)),?_,?_,rfl⟩
   ·(show _=cV s false);unfold cV;first|(rw [rfl];rfl)|rfl
   ·(show _=dv s false);unfold dv;first|(rw [rfl];rfl)|rfl
  ·have h4:T.length≠4:=by have:=aA (p:=(T.length:Int)=4) w7;omega
   refine⟨(n+2,T++[qT (nth ab (ib s ⟨#[44]⟩) (n+1))]),[(1019,1033)],?_,?_,?_⟩
   rotate_right
   ·exact bW
   ·exact⟨cq (n+1) w1,by show n+2≤4;omega,by show _=((ib s ⟨#[44]⟩).take (n+1+1)).map qT;rw [MO (cq (n+1) w1),hT]⟩
   ·show 4-(n+2)<4-(n+1);omega
  ·refine⟨[],[],_,_,_,rfl,az,false,1,(I0 T (oe w8) (.inl (ux kC))),?_,?_,rfl⟩
   ·(show _=cV s false);unfold cV;first|(rw [rfl];rfl)|rfl
   ·(show _=dv s false);unfold dv;first|(rw [rfl];rfl)|rfl
  ·refine⟨[],[],_,_,_,rfl,az,false,1,(I0 T (oe w8) (.inr (aJ iV))),?_,?_,rfl⟩
   ·(show _=cV s false);unfold cV;first|(rw [rfl];rfl)|rfl
   ·(show _=dv s false);unfold dv;first|(rw [rfl];rfl)|rfl
  ·have e:=ajo dK gP
   refine⟨[1019],[],_,_,_,rfl,az,true,0,(show true=(bm s).2 by rw [e]),?_,?_,rfl⟩
   ·(show _=cV s true);unfold cV;first|(rw [e];rfl)|rfl
   ·(show _=dv s true);unfold dv;first|(rw [e];rfl)|rfl
end GL
namespace GL
def iu (n:Int):Prop:=True
def s8 (n:Int):AV:=.int (bj n)
def R0 (n:Int):List AV:=[]
def gN:ct where
 A:=[.s .int]
 B:=[]
 pre:=fun x b=>iu x
 r:=fun x b _=>s8 x
 o:=fun x b _=>R0 x
theorem tL:Has Tryz.prog 107 gN:=by
 refine Has.zC zT zF zF (l:=[]) trivial Tryz.func107 ?_
 rintro (n:Int) _ (hp:iu n)
 show vc _ _ _ _ (entry [.int n] []) _
 refine⟨fun w1=>?_,fun w2=>⟨fun w3=>?_,fun w4=>?_⟩⟩
 all_goals first|refine aw ?_|refine ax ?_|exact a8|exact a7|skip
 all_goals
  refine⟨[],[],_,_,_,rfl,az,(),aa,?_,?_,rfl⟩
  ·(show _=s8 n);unfold s8;first|((simp only [bj, *];rfl))|rfl
  ·rfl
def lg (S:ay) (p:Pt):Prop:=S.szs∧S.rows.length=64∧aZ p=true
def mK (S:ay) (p:Pt):AV:=.t [.s (.str (bG S p).1),.s (.q (bG S p).2)]
def ac6 (S:ay) (p:Pt):List AV:=[]
def kH:ct where
 A:=[.vs xy,.a [.int,.int,.int,.int,.int]]
 B:=[]
 pre:=fun x b=>lg (x.1) (x.2)
 r:=fun x b _=>mK (x.1) (x.2)
 o:=fun x b _=>ac6 (x.1) (x.2)
theorem zK:Has Tryz.prog 65 kH:=by
 refine Has.zC zT zF zF (l:=[(23,bH),(111,y0)]) ⟨eP,W5,aa⟩ Tryz.func65 ?_
 rintro⟨⟨(aj:List ByteArray),(ak:List Int),(an:List Int),(ao:Int),(ah:List Pt),(aq:Int),(ai:List Pt),(ar:Bool)⟩,⟨(p1:Int),(p2:Int),(p3:Int),(p4:Int),(p5:Int)⟩⟩ _ (hp:lg (aj,ak,an,ao,ah,aq,ai,ar) (p1,p2,p3,p4,p5))
 show vc _ _ _ _ (entry [.s (.vs [.vz ab aj,.vz ag ak,.vz ag an,.v (.int .i64 ao),.vz ae ah,.v (.int .i64 aq),.vz ae ai,.q ar] 0),.a [.int p1,.int p2,.int p3,.int p4,.int p5]] []) _
 obtain⟨h1,(hlen:aj.length=64),cH⟩:=hp
 have cH:aZ (p1,p2,p3,p4,p5)=true:=cH
 have xF:au (p1,p2,p3,p4,p5)=false→0≤p1∧p1<64:=fun h=>by
  have:=pV cH;dsimp only at this;omega
 have dj:au (p1,p2,p3,p4,p5)=false→(nth ab aj p1.toNat).size≤1000000000:=fun h=>ZB0 (h1 _ (bS (ek:=ab) (show p1.toNat<aj.length by have:=xF h;omega))) (by omega)
 refine⟨⟨⟨⟨aa,aa,aa,aa,aa,aa⟩,aa⟩,aa⟩,fun x1 w2=>⟨fun w3=>?_,fun w4=>⟨[.s 3,.b 1003],Sq10,rfl,Sq0,Sq11,rfl,Sq11,Sq12,rfl,Sq12,Sq13,rfl,Sq13,Sq14,rfl,Sq3,Sq15,rfl,[.s 15,.b 1003],Sq16,rfl,[.s 14,.s 16],Sq17,rfl,⟨?_,?_⟩,Sq17,Sq18,rfl,[.s 10,.s 18],Sq19,rfl,⟨⟨⟨aa,aa,aa,aa,aa,aa⟩,aa,aa⟩,?_⟩,?_,fun x5 w6=>⟨Sq19,Sq20,rfl,Sq20,Sq9,rfl,fun w7=>?_,fun w8=>⟨Sq0,Sq21,rfl,Sq21,Sq22,rfl,Sq22,Sq23,rfl,Sq23,Sq24,rfl,Sq3,Sq25,rfl,[.s 25,.b 1003],Sq26,rfl,[.s 24,.s 26],Sq27,rfl,⟨?_,?_⟩,Sq27,Sq28,rfl,Sq28,Sq4,rfl,[],Sq5,rfl,?_⟩⟩⟩⟩⟩
 all_goals first|refine aw ?_|refine ax ?_|exact a8|(dsimp only [bH,cc,y0,tq];omega)|exact a7|exact dj w4|exact (xF w4).1|(have:=(xF w4).2;show p1<(aj.length:Int);omega)|skip
 ·refine⟨[],[],_,_,_,rfl,az,(),aa,?_,?_,rfl⟩
  ·(show _=mK (aj,ak,an,ao,ah,aq,ai,ar) (p1,p2,p3,p4,p5));unfold mK;first|(rw [fT w3];rfl)|rfl
  ·rfl
 ·refine⟨[],[],_,_,_,rfl,az,(),aa,?_,?_,rfl⟩
  ·(show _=mK (aj,ak,an,ao,ah,aq,ai,ar) (p1,p2,p3,p4,p5));unfold mK;first|(rw [LN w4 (J8 w7)];rfl)|rfl
  ·rfl
 ·refine⟨[],[],_,_,_,rfl,az,(),aa,?_,?_,rfl⟩
  ·(show _=mK (aj,ak,an,ao,ah,aq,ai,ar) (p1,p2,p3,p4,p5));unfold mK;first|(rw [ye w4 (oJ w8)];rfl)|rfl
  ·rfl
def wI (k:Pt) (p:Pt):Prop:=True
def BI (k:Pt) (p:Pt):AV:=.s (.q (late p k))
def HI (k:Pt) (p:Pt):List AV:=[.a [.int p.1,.int p.2.1,.int p.2.2.1,.int p.2.2.2.1,.int p.2.2.2.2]]
def AE:ct where
 A:=[.a [.int,.int,.int,.int,.int],.b 0]
 B:=[.a [.int,.int,.int,.int,.int]]
 pre:=fun x b=>wI (x.1) b
 r:=fun x b _=>BI (x.1) b
 o:=fun x b _=>HI (x.1) b
 ro:=true
theorem ZR:Has Tryz.prog 156 AE:=by
 refine Has.zC zT zF zF (l:=[]) trivial Tryz.func156 ?_
 rintro⟨⟨(k1:Int),(k2:Int),(k3:Int),(k4:Int),(k5:Int)⟩,_⟩ ⟨(p1:Int),(p2:Int),(p3:Int),(p4:Int),(p5:Int)⟩ (hp:wI (k1,k2,k3,k4,k5) (p1,p2,p3,p4,p5))
 show vc _ _ _ _ (entry [.a [.int k1,.int k2,.int k3,.int k4,.int k5],.s (.bp 0 0)] [.a [.int p1,.int p2,.int p3,.int p4,.int p5]]) _
 refine ?_
 all_goals first|refine aw ?_|refine ax ?_|exact a8|exact a7|skip
 refine⟨[],[],_,_,_,rfl,az,(),aa,?_,?_,rfl⟩
 ·(show _=BI (k1,k2,k3,k4,k5) (p1,p2,p3,p4,p5));unfold BI;first|rfl
 ·(show _=HI (k1,k2,k3,k4,k5) (p1,p2,p3,p4,p5));unfold HI;first|rfl
def uz (p:Pt):List Pt→Nat→Int
 |[],_=> -1
 |q::l,i=>bif late p q then i else uz p l (i+1)
def qe (l:List Pt) (f:Pt):Prop:=l.length≤1000000
def jk (l:List Pt) (f:Pt):AV:=.s (.int (uz f l 0))
def ko (l:List Pt) (f:Pt):List AV:=[.a [.int f.1,.int f.2.1,.int f.2.2.1,.int f.2.2.2.1,.int f.2.2.2.2]]
def ui:ct where
 A:=[.s (.vz ae),.fn 156 [0]]
 B:=[.a [.int,.int,.int,.int,.int]]
 pre:=fun x b=>qe (x.1) b
 r:=fun x b _=>jk (x.1) b
 o:=fun x b _=>ko (x.1) b
 ro:=true
theorem PF:Has Tryz.prog 195 ui:=by
 refine Has.zC zT zF zF (l:=[(156,AE)]) ⟨ZR,aa⟩ Tryz.func195 ?_
 rintro⟨(l:List Pt),_⟩ ⟨(f1:Int),(f2:Int),(f3:Int),(f4:Int),(f5:Int)⟩ (hp:qe l (f1,f2,f3,f4,f5))
 show vc _ _ _ _ (entry [.s (.vz ae l),.fn 156 [(0,0)]] [.a [.int f1,.int f2,.int f3,.int f4,.int f5]]) _
 have hp:l.length≤1000000:=hp
 refine ?_
 all_goals first|refine aw ?_|refine ax ?_|exact a8|(dsimp only [AE,wI];omega)|exact a7|skip
 refine l4 (l:=[(156,AE)]) (ex:=zT) (wr:=zF) (pt:=zF) ⟨ZR,aa⟩ [.s 0,.s 1,.s 6,.s 7,.b 0] (fun i:Nat=>[(.s 8,.int i)]) (fun i=>i≤l.length∧uz (f1,f2,f3,f4,f5) (l.drop i) i=uz (f1,f2,f3,f4,f5) l 0) (fun i=>l.length-i) 0 [] ⟨ZA7 _,rfl⟩ dN ?_
 rintro i ⟨(hi:i≤l.length),(hr:uz (f1,f2,f3,f4,f5) (l.drop i) i=uz (f1,f2,f3,f4,f5) l 0)⟩
 have cP:i<l.length→l.drop i=nth ae l i::l.drop (i+1):=fun h=>bX (ek:=ae) h
 have cq:decide ((i:Int)<(l.length:Int))=true→i<l.length:=fun h=>by have:=aJ h;omega
 refine⟨fun w1=>⟨⟨?_,?_⟩,⟨⟨⟨⟨aa,aa,aa,aa,aa,aa⟩,aa,aa⟩,aa⟩,fun x2 w3=>?_⟩,fun x4 w5=>⟨fun w6=>?_,fun w7=>⟨⟨?_,?_⟩,?_⟩⟩⟩,fun w8=>?_⟩
 all_goals first|refine aw ?_|refine ax ?_|exact a8|(dsimp only [AE,wI];omega)|exact a7|(show (i:Int)+1≤9223372036854775807;omega)|skip
 ·have e:uz (f1,f2,f3,f4,f5) l 0=(i:Int):=by rw [←hr,cP (cq w1),uz,show late (f1,f2,f3,f4,f5) (nth ae l i)=true from w6];rfl
  refine⟨[],[],_,_,_,rfl,az,(),aa,?_,?_,rfl⟩
  ·(show _=jk l (f1,f2,f3,f4,f5));unfold jk;first|(rw [e];rfl)|rfl
  ·(show _=ko l (f1,f2,f3,f4,f5));unfold ko;first|(rw [e];rfl)|rfl
 ·refine⟨(i+1),[],?_,?_,?_⟩
  rotate_right
  ·exact bW
  ·refine⟨cq w1,?_⟩
   rw [←hr,cP (cq w1),uz,show late (f1,f2,f3,f4,f5) (nth ae l i)=false from w7];rfl
  ·show l.length-(i+1)<l.length-i;have:=cq w1;omega
 ·have e:uz (f1,f2,f3,f4,f5) l 0= -1:=by rw [←hr,ZB3 (by have:=aA w8;omega)];rfl
  refine⟨[],[],_,_,_,rfl,az,(),aa,?_,?_,rfl⟩
  ·(show _=jk l (f1,f2,f3,f4,f5));unfold jk;first|(rw [e];rfl)|rfl
  ·(show _=ko l (f1,f2,f3,f4,f5));unfold ko;first|(rw [e];rfl)|rfl
theorem CM (p:Pt):∀(l:List Pt) (i:Nat),decide (uz p l i≥0)=l.any (late p)
 |[],_=>rfl
 |q::l,i=>by
  rw [uz,List.any_cons]
  cases late p q with
  |false=>exact CM p l (i+1)
  |true=>show decide ((i:Int)≥0)=true;exact decide_eq_true (Int.natCast_nonneg i)
def tu (l:List Pt) (f:Pt):Prop:=l.length≤1000000
def tf (l:List Pt) (f:Pt):AV:=.s (.q (l.any (late f)))
def vo (l:List Pt) (f:Pt):List AV:=[.a [.int f.1,.int f.2.1,.int f.2.2.1,.int f.2.2.2.1,.int f.2.2.2.2]]
def y7:ct where
 A:=[.s (.vz ae),.fn 156 [0]]
 B:=[.a [.int,.int,.int,.int,.int]]
 pre:=fun x b=>tu (x.1) b
 r:=fun x b _=>tf (x.1) b
 o:=fun x b _=>vo (x.1) b
 ro:=true
theorem W7:Has Tryz.prog 155 y7:=by
 refine Has.zC zT zF zF (l:=[(195,ui)]) ⟨PF,aa⟩ Tryz.func155 ?_
 rintro⟨(l:List Pt),_⟩ ⟨(f1:Int),(f2:Int),(f3:Int),(f4:Int),(f5:Int)⟩ (hp:tu l (f1,f2,f3,f4,f5))
 show vc _ _ _ _ (entry [.s (.vz ae l),.fn 156 [(0,0)]] [.a [.int f1,.int f2,.int f3,.int f4,.int f5]]) _
 have hp:l.length≤1000000:=hp
 refine⟨⟨⟨⟨aa,aa,aa⟩,?_⟩,fun x1 w2=>?_⟩,fun x3 w4=>?_⟩
 all_goals first|refine aw ?_|refine ax ?_|exact a8|(dsimp only [ui,qe];omega)|exact a7|exact hp|skip
 refine⟨[],[],_,_,_,rfl,az,(),aa,?_,?_,rfl⟩
 ·(show _=tf l (f1,f2,f3,f4,f5));unfold tf;first|(rw [←CM (f1,f2,f3,f4,f5) l 0];rfl)|rfl
 ·(show _=vo l (f1,f2,f3,f4,f5));unfold vo;first|(rw [←CM (f1,f2,f3,f4,f5) l 0];rfl)|rfl
end GL
namespace GL
def xu (s:ay) (p:Pt):List Pt:=bif au p then cw 4 else (bm (bG s p).1).1
def qw (s:ay) (p:Pt) (lv:Int):Bool:=bif au p then true else bif !(bG s p).2 then false else bif decide (p.2.2.2.2≠lv) then false else (bm (bG s p).1).2&& !((bm (bG s p).1).1.any (late p))
section
variable {s:ay}{p:Pt}{lv:Int}
theorem XP (h:au p=true):qw s p lv=true:=by unfold qw;rw [h];rfl
theorem XO (h:au p=false) (h1:(!(bG s p).2)=true):qw s p lv=false:=by unfold qw;rw [h,h1];rfl
theorem aeC (h:au p=false) (h1:(!(bG s p).2)=false) (h2:decide (p.2.2.2.2≠lv)=true):qw s p lv=false:=by unfold qw;rw [h,h1,h2];rfl
theorem aeB (h:au p=false) (h1:(!(bG s p).2)=false) (h2:decide (p.2.2.2.2≠lv)=false) (h3:false=(bm (bG s p).1).2):qw s p lv=false:=by unfold qw;rw [h,h1,h2,←h3];rfl
theorem aeA (h:au p=false) (h1:(!(bG s p).2)=false) (h2:decide (p.2.2.2.2≠lv)=false) (h3:true=(bm (bG s p).1).2):qw s p lv= !((bm (bG s p).1).1.any (late p)):=by unfold qw;rw [h,h1,h2,←h3];rfl
theorem JG (h:au p=true):xu s p=cw 4:=by unfold xu;rw [h];rfl
theorem aey (h:au p=false):xu s p=(bm (bG s p).1).1:=by unfold xu;rw [h];rfl
theorem abX (cH:aZ p=true) (hb:au p=false→p.2.1≤s.cj):qw s p lv=(bg s p lv).2∧(qw s p lv=true→xu s p=(bg s p lv).1):=by
 cases hh:au p with
 |true=>rw [XP hh,kx hh];exact⟨rfl,fun _=>JG hh⟩
 |false=>
  have hb:=hb hh
  cases hl:decide (p.2.2.2.2≠lv) with
  |true=>
   rw [wc hh hl]
   cases hr: !(bG s p).2 with
   |true=>rw [XO hh hr];exact⟨rfl,fun h=>by cases h⟩
   |false=>rw [aeC hh hr hl];exact⟨rfl,fun h=>by cases h⟩
  |false=>
   have h1:(!(aZ p))=false:=by rw [cH];rfl
   have h3:decide (p.2.1>s.cj)=false:=decide_eq_false (by omega)
   cases hr: !(bG s p).2 with
   |true=>rw [XO hh hr,wb hh h1 hl h3 hr];exact⟨rfl,fun h=>by cases h⟩
   |false=>
    rw [wa hh h1 hl h3 hr]
    cases hf:(bm (bG s p).1).2 with
    |false=>
     rw [aeB hh hr hl hf.symm,XN hf];exact⟨rfl,fun h=>by cases h⟩
    |true=>
     rw [aeA hh hr hl hf.symm,aey hh]
     cases ha:(bm (bG s p).1).1.any (late p) with
     |true=>rw [we ha];exact⟨rfl,fun h=>by cases h⟩
     |false=>rw [sT ha];exact⟨by rw [hf];rfl,fun _=>rfl⟩
end
def kM (S:ay) (p:Pt) (lv:Int):Prop:=S.rd∧aZ p=true
def VO (S:ay) (p:Pt) (lv:Int) (z:Bool):Prop:=qw S p lv=true→z=true
def fR (S:ay) (p:Pt) (lv:Int) (z:Bool):AV:=.t [match z with |true=>.s (.xs 0 5 0 (xu S p).length) |false=>.s (.v (.slice none 0 0)),.s (.q (qw S p lv))]
def gX (S:ay) (p:Pt) (lv:Int) (z:Bool):List AV:=match z with |true=>[.rs ae (xu S p)] |false=>[.zz]
def ku:ct where
 A:=[.vs xy,.a [.int,.int,.int,.int,.int],.s .int]
 B:=[]
 pre:=fun x b=>kM (x.1) (x.2.1) (x.2.2)
 α:=fun _ _=>Bool
 φ:=fun x b z=>VO (x.1) (x.2.1) (x.2.2) z
 r:=fun x b z=>fR (x.1) (x.2.1) (x.2.2) z
 o:=fun x b z=>gX (x.1) (x.2.1) (x.2.2) z
 nf:=1
theorem zM:Has Tryz.prog 108 ku:=by
 refine Has.WN zT zF zF (l:=[(23,bH),(65,kH),(154,DH),(155,y7)]) ⟨eP,zK,abK,W7,aa⟩ Tryz.func108 ?_
 rintro⟨⟨(aj:List ByteArray),(ak:List Int),(an:List Int),(ao:Int),(ah:List Pt),(aq:Int),(ai:List Pt),(ar:Bool)⟩,⟨(p1:Int),(p2:Int),(p3:Int),(p4:Int),(p5:Int)⟩,(lv:Int)⟩ _ (hp:kM (aj,ak,an,ao,ah,aq,ai,ar) (p1,p2,p3,p4,p5) lv)
 show vc _ _ _ _ (entry [.s (.vs [.vz ab aj,.vz ag ak,.vz ag an,.v (.int .i64 ao),.vz ae ah,.v (.int .i64 aq),.vz ae ai,.q ar] 0),.a [.int p1,.int p2,.int p3,.int p4,.int p5],.int lv] []) _
 obtain⟨dG,cH⟩:=hp
 have dG:ay.rd (aj,ak,an,ao,ah,aq,ai,ar):=dG
 have cH:aZ (p1,p2,p3,p4,p5)=true:=cH
 have dj:∀q,(bG (aj,ak,an,ao,ah,aq,ai,ar) q).1.size≤1000000:=fun q=>zr dG
 have hF:=(vO (bG (aj,ak,an,ao,ah,aq,ai,ar) (p1,p2,p3,p4,p5)).1).1
 refine⟨⟨⟨⟨aa,aa,aa,aa,aa,aa⟩,aa⟩,aa⟩,fun x1 w2=>⟨fun w3=>⟨⟨?_,?_,?_⟩,?_⟩,fun w4=>⟨⟨⟨aa,⟨aa,aa,aa,aa,aa,aa⟩,aa⟩,fun x5 w6=>?_,?_,?_⟩,fun x7 w8=>⟨aa,fun w9=>?_,fun dy=>⟨fun kC=>?_,fun dK=>⟨⟨⟨aa,aa⟩,?_⟩,fun |false=>fun iV=>⟨aa,fun gP=>⟨⟨⟨⟨aa,aa,aa⟩,?_⟩,fun kA ki=>?_⟩,fun x17 rV=>?_⟩,fun oN=>?_⟩ |true=>fun uL=>⟨aa,fun A4=>⟨⟨⟨⟨⟨?_,?_⟩,aa,aa⟩,?_⟩,fun x22 xM=>?_⟩,fun x24 w25=>?_⟩,fun w26=>?_⟩⟩⟩⟩⟩⟩⟩
 all_goals first|refine aw ?_|refine ax ?_|exact a8|(dsimp only [bH,cc,kH,lg,DH,re,y7,tu];omega)|exact a7|exact dG.1|exact cH|exact dG.2 _ w6|exact dG.2 _ (by assumption)|exact ZA7 _|exact dj _|(show (bm (bG (aj,ak,an,ao,ah,aq,ai,ar) (p1,p2,p3,p4,p5)).1).1.length≤1000000;omega)|skip
 ·refine⟨[1014],[],_,_,_,rfl,az,true,0,(fun _=>rfl),?_,?_,rfl⟩
  ·(show _=fR (aj,ak,an,ao,ah,aq,ai,ar) (p1,p2,p3,p4,p5) lv true);unfold fR;first|(rw [XP (s:=(aj,ak,an,ao,ah,aq,ai,ar)) (lv:=lv) w3,JG (s:=(aj,ak,an,ao,ah,aq,ai,ar)) w3];rfl)|(rw [JG (s:=(aj,ak,an,ao,ah,aq,ai,ar)) w3];rfl)|rfl
  ·(show _=gX (aj,ak,an,ao,ah,aq,ai,ar) (p1,p2,p3,p4,p5) lv true);unfold gX;first|(rw [XP (s:=(aj,ak,an,ao,ah,aq,ai,ar)) (lv:=lv) w3,JG (s:=(aj,ak,an,ao,ah,aq,ai,ar)) w3];rfl)|(rw [JG (s:=(aj,ak,an,ao,ah,aq,ai,ar)) w3];rfl)|rfl
 ·have e:=XO (s:=(aj,ak,an,ao,ah,aq,ai,ar)) (lv:=lv) w4 w9
  refine⟨[],[],_,_,_,rfl,az,false,1,(fun h:qw (aj,ak,an,ao,ah,aq,ai,ar) (p1,p2,p3,p4,p5) lv=true=>absurd (e.symm.trans h) (by decide)),?_,?_,rfl⟩
  ·(show _=fR (aj,ak,an,ao,ah,aq,ai,ar) (p1,p2,p3,p4,p5) lv false);unfold fR;first|(rw [e];rfl)|rfl
  ·(show _=gX (aj,ak,an,ao,ah,aq,ai,ar) (p1,p2,p3,p4,p5) lv false);unfold gX;first|(rw [e];rfl)|rfl
 ·have e:=aeC (s:=(aj,ak,an,ao,ah,aq,ai,ar)) (lv:=lv) w4 dy kC
  refine⟨[],[],_,_,_,rfl,az,false,1,(fun h:qw (aj,ak,an,ao,ah,aq,ai,ar) (p1,p2,p3,p4,p5) lv=true=>absurd (e.symm.trans h) (by decide)),?_,?_,rfl⟩
  ·(show _=fR (aj,ak,an,ao,ah,aq,ai,ar) (p1,p2,p3,p4,p5) lv false);unfold fR;first|(rw [e];rfl)|rfl
  ·(show _=gX (aj,ak,an,ao,ah,aq,ai,ar) (p1,p2,p3,p4,p5) lv false);unfold gX;first|(rw [e];rfl)|rfl
 ·cases gP
 ·have e:=aeB (s:=(aj,ak,an,ao,ah,aq,ai,ar)) (lv:=lv) w4 dy dK (show false=(bm (bG (aj,ak,an,ao,ah,aq,ai,ar) (p1,p2,p3,p4,p5)).1).2 from iV)
  refine⟨[],[],_,_,_,rfl,az,false,1,(fun h:qw (aj,ak,an,ao,ah,aq,ai,ar) (p1,p2,p3,p4,p5) lv=true=>absurd (e.symm.trans h) (by decide)),?_,?_,rfl⟩
  ·(show _=fR (aj,ak,an,ao,ah,aq,ai,ar) (p1,p2,p3,p4,p5) lv false);unfold fR;first|(rw [e];rfl)|rfl
  ·(show _=gX (aj,ak,an,ao,ah,aq,ai,ar) (p1,p2,p3,p4,p5) lv false);unfold gX;first|(rw [e];rfl)|rfl
 ·have e:=aeA (s:=(aj,ak,an,ao,ah,aq,ai,ar)) (lv:=lv) w4 dy dK (show true=(bm (bG (aj,ak,an,ao,ah,aq,ai,ar) (p1,p2,p3,p4,p5)).1).2 from uL)
  have e2:=aey (s:=(aj,ak,an,ao,ah,aq,ai,ar)) w4
  refine⟨[320000],[],_,_,_,rfl,az,true,0,(fun _=>rfl),?_,?_,rfl⟩
  ·(show _=fR (aj,ak,an,ao,ah,aq,ai,ar) (p1,p2,p3,p4,p5) lv true);unfold fR;first|(rw [e,e2];rfl)|(rw [e2];rfl)|rfl
  ·(show _=gX (aj,ak,an,ao,ah,aq,ai,ar) (p1,p2,p3,p4,p5) lv true);unfold gX;first|(rw [e,e2];rfl)|(rw [e2];rfl)|rfl
 ·cases w26
end GL
end Go.Proofs.YtkgpljpmdkflmaaGreatDoor
