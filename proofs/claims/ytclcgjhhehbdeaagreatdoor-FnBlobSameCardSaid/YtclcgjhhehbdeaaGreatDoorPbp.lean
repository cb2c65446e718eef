/- A drawn law returns true for every code (its row lists package variables, tied by the card): part 42. -/
import Derived.Test.YtclcgjhhehbdeaaGreatDoorPas
import Derived.Test.YtclcgjhhehbdeaaGreatDoorPbo
set_option maxHeartbeats 20000000
set_option maxRecDepth 100000
set_option linter.all false
namespace Go.Proofs.YtclcgjhhehbdeaaGreatDoor
namespace GL
def oN (p:Pt):Prop:=True
def s5 (p:Pt):AV:=.s (.q (!(au p)))
def R2 (p:Pt):List AV:=[]
def qw:cn where
 A:=[.a [.int,.int,.int,.int,.int]]
 B:=[]
 pre:=fun x b=>oN x
 r:=fun x b _=>s5 x
 o:=fun x b _=>R2 x
theorem IF:Has Tryz.prog 142 qw:=by
 refine Has.zv zT zF zF (l:=[(67,bG)]) ⟨eN,aa⟩ Tryz.func142 ?_
 rintro⟨(p1:Int),(p2:Int),(p3:Int),(p4:Int),(p5:Int)⟩ _ (hp:oN (p1,p2,p3,p4,p5))
 show vc _ _ _ _ (entry [.a [.int p1,.int p2,.int p3,.int p4,.int p5]] []) _
 refine⟨⟨⟨tv6,aa⟩,aa⟩,fun x1 w2=>?_⟩
 all_goals first|refine aw ?_|refine ax ?_|exact a8|(dsimp only [bG,cb];omega)|exact a7|skip
 refine⟨[],[],_,_,_,rfl,az,(),aa,?_,?_,rfl⟩
 ·(show _=s5 (p1,p2,p3,p4,p5));unfold s5;first|rfl
 ·rfl
def ou:List Pt→Nat→Int
 |[],_=> -1
 |p::l,i=>bif au p then ou l (i+1) else i
theorem uo {b:Bool}(h:(!b)=true):b=false:=by cases b with
 |false=>rfl
 |true=>cases h
def ox (l:List Pt):Prop:=l.length≤1000000
def iJ (l:List Pt):AV:=.s (.int (ou l 0))
def HF (l:List Pt):List AV:=[]
def rK:cn where
 A:=[.s (.vz ae),.fn 142 []]
 B:=[]
 pre:=fun x b=>ox (x.1)
 r:=fun x b _=>iJ (x.1)
 o:=fun x b _=>HF (x.1)
theorem KV:Has Tryz.prog 172 rK:=by
 refine Has.zv zT zF zF (l:=[(142,qw)]) ⟨IF,aa⟩ Tryz.func172 ?_
 rintro⟨(l:List Pt),_⟩ _ (hp:ox l)
 show vc _ _ _ _ (entry [.s (.vz ae l),.fn 142 []] []) _
 have hp:l.length≤1000000:=hp
 refine ?_
 all_goals first|refine aw ?_|refine ax ?_|exact a8|(dsimp only [qw,oN];omega)|exact a7|skip
 refine lT (l:=[(142,qw)]) (ex:=zT) (wr:=zF) (pt:=zF) ⟨IF,aa⟩ [.s 0,.s 1,.s 6,.s 7] (fun i:Nat=>[(.s 8,.int i)]) (fun i=>i≤l.length∧ou (l.drop i) i=ou l 0) (fun i=>l.length-i) 0 [] ⟨ZA7 _,rfl⟩ dL ?_
 rintro i ⟨(hi:i≤l.length),(hr:ou (l.drop i) i=ou l 0)⟩
 have cO:i<l.length→l.drop i=nth ae l i::l.drop (i+1):=fun h=>bW (ek:=ae) h
 have cm:decide ((i:Int)<(l.length:Int))=true→i<l.length:=fun h=>by have:=aJ h;omega
 refine⟨fun w1=>⟨⟨?_,?_⟩,⟨⟨tv6,aa⟩,aa⟩,fun x2 w3=>⟨fun w4=>?_,fun w5=>⟨⟨?_,?_⟩,?_⟩⟩⟩,fun w6=>?_⟩
 all_goals first|refine aw ?_|refine ax ?_|exact a8|(dsimp only [qw,oN];omega)|exact a7|(show (i:Int)+1≤9223372036854775807;omega)|skip
 ·have e:ou l 0=(i:Int):=by rw [←hr,cO (cm w1),ou,show au (nth ae l i)=false from uo w4];rfl
  refine⟨[],[],_,_,_,rfl,az,(),aa,?_,?_,rfl⟩
  ·(show _=iJ l);unfold iJ;first|(rw [e];rfl)|rfl
  ·rfl
 ·refine⟨(i+1),[],?_,?_,?_⟩
  rotate_right
  ·exact bV
  ·refine⟨cm w1,?_⟩
   rw [←hr,cO (cm w1),ou,show au (nth ae l i)=true from cL w5];rfl
  ·show l.length-(i+1)<l.length-i;have:=cm w1;omega
 ·have e:ou l 0= -1:=by rw [←hr,ZB3 (by have:=aA w6;omega)];rfl
  refine⟨[],[],_,_,_,rfl,az,(),aa,?_,?_,rfl⟩
  ·(show _=iJ l);unfold iJ;first|(rw [e];rfl)|rfl
  ·rfl
theorem GC:∀(l:List Pt) (i:Nat),decide (ou l i≥0)=l.any (fun p=> !(au p))
 |[],_=>rfl
 |p::l,i=>by
  rw [ou,List.any_cons]
  cases au p with
  |true=>exact GC l (i+1)
  |false=>show decide ((i:Int)≥0)=true;exact decide_eq_true (Int.natCast_nonneg i)
def kh (l:List Pt):Prop:=l.length≤1000000
def rA (l:List Pt):AV:=.s (.q (l.any (fun p=> !(au p))))
def OJ (l:List Pt):List AV:=[]
def lk:cn where
 A:=[.s (.vz ae),.fn 142 []]
 B:=[]
 pre:=fun x b=>kh (x.1)
 r:=fun x b _=>rA (x.1)
 o:=fun x b _=>OJ (x.1)
theorem DZ:Has Tryz.prog 138 lk:=by
 refine Has.zv zT zF zF (l:=[(172,rK)]) ⟨KV,aa⟩ Tryz.func138 ?_
 rintro⟨(l:List Pt),_⟩ _ (hp:kh l)
 show vc _ _ _ _ (entry [.s (.vz ae l),.fn 142 []] []) _
 have hp:l.length≤1000000:=hp
 refine⟨⟨tv3,?_⟩,fun x1 w2=>?_⟩
 all_goals first|refine aw ?_|refine ax ?_|exact a8|(dsimp only [rK,ox];omega)|exact a7|exact hp|skip
 refine⟨[],[],_,_,_,rfl,az,(),aa,?_,?_,rfl⟩
 ·(show _=rA l);unfold rA;first|(rw [←GC l 0];rfl)|rfl
 ·rfl
theorem I8 {l:List Pt}(h:(bE l).2=false):bE l=(⟨#[]⟩,false):=by
 cases h0:decide ((l.length:Int)≠4) with
 |true=>exact wU h0
 |false=>
  rw [wT h0] at h ⊢
  match e:gW l 0 ⟨#[]⟩ false with
  |none=>exact pd e
  |some (o,sm)=>
   rw [sB e] at h ⊢
   cases hs: !sm with
   |true=>exact C1 hs
   |false=>rw [wV hs] at h;cases h
theorem PI {l:List Pt}(h0:decide ((l.length:Int)≠4)=false) (h:l.any (fun p=> !(au p))=false):bE l=(⟨#[]⟩,false):=by
 cases h2:(bE l).2 with
 |true=>
  obtain⟨a,b,c,d,rfl,ha,hb,hc,hd,hs,_⟩:=lZ h2
  simp only [List.any_cons,List.any_nil,Bool.or_false] at h
  simp_all
 |false=>exact I8 h2
def ot (l:List Pt) (n:Nat):List ByteArray:=(l.take n).map bc
theorem DI {l:List Pt}{n:Nat}(h:n<l.length):ot l (n+1)=ot l n++[bc (nth ae l n)]:=by
 unfold ot
 rw [List.take_succ,oz (ek:=ae) h,List.map_append];rfl
theorem XF {l:List Pt}(h4:l.length=4) (n:Nat) (hn:n<4) (h:aZ (nth ae l n)=false):bE l=(⟨#[]⟩,false):=by
 cases h2:(bE l).2 with
 |true=>
  obtain⟨a,b,c,d,rfl,ha,hb,hc,hd,_⟩:=lZ h2
  have h6:n=0∨n=1∨n=2∨n=3:=by omega
  rcases h6 with rfl |rfl |rfl |rfl
  ·exact absurd (ha.symm.trans h) (by decide)
  ·exact absurd (hb.symm.trans h) (by decide)
  ·exact absurd (hc.symm.trans h) (by decide)
  ·exact absurd (hd.symm.trans h) (by decide)
 |false=>exact I8 h2
theorem aaz {l:List Pt}(h4:l.length=4):(Lib.join ((ot l 4).map (·.data.toList)) (⟨#[44]⟩:ByteArray).data.toList).length≤1000000:=by
 match l,h4 with
 |[a,b,c,d],_=>
  have h:=congrArg List.length (agI (bc a) (bc b) (bc c) (bc d))
  have e1:=gr a;have e2:=gr b;have e3:=gr c;have e4:=gr d
  rw [fm] at e1 e2 e3 e4
  rw [E9] at h
  have h':(Lib.join ((ot [a,b,c,d] 4).map (·.data.toList)) (⟨#[44]⟩:ByteArray).data.toList).length=_:=h
  rw [h']
  simp only [ZA0,ZA1]
  omega
theorem TV {l:List Pt}(h4:l.length=4) (hs:l.any (fun p=> !(au p))=true) (hk:∀j,j<4→aZ (nth ae l j)=true):bE l=(zI ⟨#[44]⟩ (ot l 4),true):=by
 have h2:(bE l).2=true:=vG h4 (fun p hp=>by
  obtain⟨j,hj,rfl⟩:=List.getElem_of_mem hp
  have:=hk j (by omega)
  unfold nth at this;rw [ZB1 hj] at this;exact this) (by rw [hs];rfl)
 obtain⟨a,b,c,d,rfl,ha,hb,hc,hd,_,hl⟩:=lZ h2
 have e:(bE [a,b,c,d]).1=zI ⟨#[44]⟩ (ot [a,b,c,d] 4):=vq (by rw [hl];exact (agI _ _ _ _).symm)
 rw [←e,←h2]
def nJ (l:List Pt):Prop:=True
def fa (l:List Pt):AV:=.t [.s (.str (bE l).1),.s (.q (bE l).2)]
def WA (l:List Pt):List AV:=[]
def pj:cn where
 A:=[.s (.vz ae)]
 B:=[]
 pre:=fun x b=>nJ x
 r:=fun x b _=>fa x
 o:=fun x b _=>WA x
theorem MB:Has Tryz.prog 113 pj:=by
 refine Has.zv zT zF zF (l:=[(138,lk),(101,cB),(143,eQ),(144,J0)]) ⟨DZ,jr,wP,PD,aa⟩ Tryz.func113 ?_
 rintro (l:List Pt) _ (hp:nJ l)
 show vc _ _ _ _ (entry [.s (.vz ae l)] []) _
 have h4:decide ((l.length:Int)≠4)=false→l.length=4:=fun h=>by have:=aA h;omega
 refine⟨aa,fun w1=>?_,fun w2=>⟨⟨tv3,?_⟩,fun x3 w4=>⟨fun w5=>?_,fun w6=>?_⟩⟩⟩
 all_goals first|refine aw ?_|refine ax ?_|exact a8|(dsimp only [lk,kh,cB,cR,eQ,eF];omega)|exact a7|(show l.length≤1000000;have:=h4 (by assumption);omega)|skip
 ·refine⟨[],[],_,_,_,rfl,az,(),aa,?_,?_,rfl⟩
  ·(show _=fa l);unfold fa;first|(rw [wU w1];rfl)|rfl
  ·rfl
 ·have e:bE l=(⟨#[]⟩,false):=PI w2 (uo w5)
  refine⟨[],[],_,_,_,rfl,az,(),aa,?_,?_,rfl⟩
  ·(show _=fa l);unfold fa;first|(rw [e];rfl)|rfl
  ·rfl
 ·have hl:=h4 w2
  have hs:l.any (fun p=> !(au p))=true:=cL w6
  refine lT (l:=[(138,lk),(101,cB),(143,eQ),(144,J0)]) (ex:=zT) (wr:=zF) (pt:=zF) ⟨DZ,jr,wP,PD,trivial⟩ [.s 0,.s 15,.s 16] (fun y:Nat×List ByteArray=>match y.1 with |0=>[(.s 4,.s (.v (.slice none 0 0))),(.s 17,.int 0)] |n+1=>[(.s 4,.s (.xs 1019 1 0 y.2.length)),(.s 17,.int ((n+1:Nat):Int)),(.b 1019,.rs ab y.2)]) (fun y=>y.1≤4∧y.2=ot l y.1∧∀j,j<y.1→aZ (nth ae l j)=true) (fun y=>4-y.1) (0,[]) [] ⟨ZA7 _,rfl,fun j hj=>absurd hj (by omega)⟩ dL ?_
  rintro⟨n,T⟩ ⟨(hn:n≤4),(hT:T=ot l n),hk⟩
  have hlen:T.length≤4:=by rw [hT];unfold ot;rw [ZG2,ZC0];omega
  have iA:∀n,n<4→(!(aZ (nth ae l n)))=true→bE l=(⟨#[]⟩,false):=fun n hn h=>XF hl n hn (uo h)
  have cO:∀n,(∀j,j<n→aZ (nth ae l j)=true)→(!(aZ (nth ae l n)))=false→∀j,j<n+1→aZ (nth ae l j)=true:=fun n h h2 j hj=>by
   by_cases hjn:j=n
   ·rw [hjn];exact cL h2
   ·exact h j (by omega)
  cases n with
  |zero=>
   refine⟨fun w1=>⟨⟨?_,?_⟩,⟨⟨tv6,aa⟩,aa⟩,fun x2 w3=>⟨fun w4=>?_,fun w5=>⟨⟨⟨tv6,aa⟩,aa⟩,fun x6 w7=>⟨aa,⟨⟨?_,?_⟩,?_,?_⟩,⟨?_,?_⟩,?_⟩⟩⟩⟩,fun w8=>⟨⟨tv3,?_,?_⟩,fun x9 dx=>?_⟩⟩
   all_goals first|(exfalso;simp only [decide_eq_true_eq,decide_eq_false_iff_not] at *;omega)|refine aw ?_|refine ax ?_|exact a8|(dsimp only [lk,kh,cB,cR,eQ,eF];omega)|exact a7|skip
   ·refine⟨[],[],_,_,_,rfl,az,(),aa,?_,?_,rfl⟩
    ·(show _=fa l);unfold fa;first|(rw [iA 0 (by omega) w4];rfl)|rfl
    ·rfl
   ·refine⟨(1,[bc (nth ae l 0)]),[(1019,1028)],?_,?_,?_⟩
    rotate_right
    ·exact bV
    ·exact⟨by show 1≤4;omega,(by show _=ot l (0+1);rw [DI (by omega)];rfl),cO 0 hk w5⟩
    ·show 4-1<4-0;omega
  |succ n=>
   have cm:decide (((n+1:Nat):Int)<(l.length:Int))=true→n+1<4:=fun h=>by have:=aJ h;omega
   have hj:n+1=4→(Lib.join (T.map (·.data.toList)) (⟨#[44]⟩:ByteArray).data.toList).length≤1000000:=fun h=>by rw [hT,h];exact aaz hl
   have nY:decide (((n+1:Nat):Int)<(l.length:Int))=false→n+1=4:=fun h=>by have:=aA h;omega
   refine⟨fun w1=>⟨⟨?_,?_⟩,⟨⟨tv6,aa⟩,aa⟩,fun x2 w3=>⟨fun w4=>?_,fun w5=>⟨⟨⟨tv6,aa⟩,aa⟩,fun x6 w7=>⟨aa,⟨⟨?_,?_⟩,?_,?_⟩,⟨?_,?_⟩,?_⟩⟩⟩⟩,fun w8=>⟨⟨⟨⟨?_,?_⟩,tv2⟩,?_,?_⟩,fun x9 dx=>?_⟩⟩
   all_goals first|(exfalso;simp only [decide_eq_true_eq,decide_eq_false_iff_not] at *;omega)|refine aw ?_|refine ax ?_|exact a8|(dsimp only [lk,kh,cB,cR,eQ,eF];omega)|exact a7|(show T.length+1≤1048576;omega)|exact hj (nY w8)|(show T.length≤1000000;omega)|skip
   ·refine⟨[],[],_,_,_,rfl,az,(),aa,?_,?_,rfl⟩
    ·(show _=fa l);unfold fa;first|(rw [iA (n+1) (cm w1) w4];rfl)|rfl
    ·rfl
   ·have bU:=cm w1
    refine⟨(n+2,T++[bc (nth ae l (n+1))]),[(1019,1028)],?_,?_,?_⟩
    rotate_right
    ·exact bV
    ·exact⟨by show n+2≤4;omega,by show _=ot l (n+1+1);rw [DI (by omega),hT],cO (n+1) hk w5⟩
    ·show 4-(n+2)<4-(n+1);omega
   ·have e:bE l=(zI ⟨#[44]⟩ T,true):=by rw [hT,nY w8];exact TV hl hs (by rw [←nY w8];exact hk)
    refine⟨[],[],_,_,_,rfl,az,(),aa,?_,?_,rfl⟩
    ·(show _=fa l);unfold fa;first|(rw [e];rfl)|rfl
    ·rfl
end GL
namespace GL
theorem VI {s:ByteArray}(h:(bP s).2=true):bc (bP s).1=s:=by
 cases h0:decide (s=⟨#[45]⟩) with
 |true=>rw [wz h0,aJ h0];rfl
 |false=>
  cases h5:decide (((bm s 46).length:Int)≠5) with
  |true=>rw [BV h0 h5] at h;cases h
  |false=>
   have hl:(bm s 46).length=5:=by have:=aA (p:=((bm s 46).length:Int)≠5) h5;omega
   have hk:∀j,j<5→(aD (nth ab (bm s 46) j)).2=true:=fun j hj=>by
    cases hb:(aD (nth ab (bm s 46) j)).2 with
    |true=>rfl
    |false=>rw [r6 h0 h5,BU (B7 _ [] j (by rw [hl];exact hj) hb)] at h;cases h
   have e:=GZ h0 hl hk
   cases hd:decide (bc (N7 (bm s 46))≠s) with
   |true=>rw [e,hd] at h;cases h
   |false=>
    rw [e,hd]
    exact ZE9.1 (aA (p:=¬bc (N7 (bm s 46))=s) hd)
def qM (t:ByteArray):Pt:=(bP t).1
theorem TZ:∀{l:List ByteArray}{out o:List Pt}{sm sm':Bool},ob l out sm=some (o,sm')→o=out++l.map qM∧(∀t∈l,(bP t).2=true)∧sm'=(sm||(l.map qM).any (fun p=> !(au p)))
 |[],out,o,sm,sm',h=>by
  unfold ob at h;cases h;simp
 |t::l,out,o,sm,sm',h=>by
  unfold ob at h
  cases ht:(bP t).2 with
  |false=>rw [ht] at h;cases h
  |true=>
   rw [ht] at h
   obtain⟨h1,h2,h3⟩:=TZ (l:=l) h
   refine⟨by rw [h1];simp [qM],?_,by rw [h3];simp [qM,Bool.or_assoc]⟩
   intro t' ht'
   rcases ZB8.1 ht' with rfl |h'
   ·exact ht
   ·exact h2 t' h'
theorem XK {s:ByteArray}(h:(bl s).2=false):bl s=([],false):=by
 match e:ob (bm s 44) [] false with
 |none=>exact wW e
 |some (o,sm)=>
  rw [jU e] at h ⊢
  cases h4:decide ((o.length:Int)≠4) with
  |true=>exact zU h4
  |false=>
   cases hs: !sm with
   |true=>exact zS hs
   |false=>rw [vI h4 hs] at h;cases h
theorem yO {s:ByteArray}(h:(bl s).2=true):(bm s 44).length=4∧(bl s).1=(bm s 44).map qM∧(∀t∈bm s 44,(bP t).2=true)∧bE ((bm s 44).map qM)=(s,true):=by
 match e:ob (bm s 44) [] false with
 |none=>rw [wW e] at h;cases h
 |some (o,sm)=>
  rw [jU e] at h ⊢
  obtain⟨h1,h2,h3⟩:=TZ e
  rw [ZC9] at h1
  cases h4:decide ((o.length:Int)≠4) with
  |true=>rw [zU h4] at h;cases h
  |false=>
   cases hs: !sm with
   |true=>rw [zS hs] at h;cases h
   |false=>
    rw [vI h4 hs]
    have hol:o.length=4:=by have:=aA (p:=(o.length:Int)≠4) h4;omega
    have hl:(bm s 44).length=4:=by rw [h1,ZG2] at hol;exact hol
    refine⟨hl,h1,h2,?_⟩
    have ald:((bm s 44).map qM).any (fun p=> !(au p))=true:=by rw [Bool.false_or] at h3;rw [←h3];exact cL hs
    have hy:(bE ((bm s 44).map qM)).2=true:=vG (by rw [ZG2];exact hl) (fun p hp=>by
     obtain⟨t,_,rfl⟩:=List.mem_map.1 hp
     exact G0 t) (by rw [ald];rfl)
    obtain⟨a,b,c,d,he,_,_,_,_,_,hlb⟩:=lZ hy
    have aef:=aak s 44 (l:=bm s 44) rfl
    match TJ:bm s 44,hl with
    |[w,x,y,z],_=>
     rw [TJ] at he hlb h2 hy aef
     have hi:∀t∈[w,x,y,z],bc (qM t)=t:=fun t ht=>VI (h2 t ht)
     injection he with ea he;injection he with eb he;injection he with ec he;injection he with ed he
     rw [←ea,←eb,←ec,←ed,hi w (by simp),hi x (by simp),hi y (by simp),hi z (by simp)] at hlb
     have e1:(bE (List.map qM [w,x,y,z])).1=s:=vq (by rw [hlb,←aef];rfl)
     rw [←e1,←hy]
theorem XI {s:ByteArray}{n:Nat}(hn:n<(bm s 44).length) (h:(!(bP (nth ab (bm s 44) n)).2)=true):(bl s).2=false:=by
 cases h2:(bl s).2 with
 |false=>rfl
 |true=>
  obtain⟨_,_,h3,_⟩:=yO h2
  have:=h3 _ (bR (ek:=ab) hn)
  rw [this] at h;cases h
theorem TY {s:ByteArray}(h:(bm s 44).length≠4):(bl s).2=false:=by
 cases h2:(bl s).2 with
 |false=>rfl
 |true=>exact absurd (yO h2).1 h
theorem XH {s:ByteArray}{l:List Pt}(hl:l=(bm s 44).map qM) (h:(bE l).2=false∨(bE l).1≠s):(bl s).2=false:=by
 cases h2:(bl s).2 with
 |false=>rfl
 |true=>
  have e:=(yO h2).2.2.2
  rw [←hl] at e
  rcases h with h |h
  ·rw [e] at h;cases h
  ·rw [e] at h;exact absurd rfl h
theorem MK {l:List ByteArray}{n:Nat}(h:n<l.length):(l.take (n+1)).map qM=(l.take n).map qM++[qM (nth ab l n)]:=by
 rw [List.take_succ,oz (ek:=ab) h,List.map_append];rfl
def qY (s:ByteArray):Prop:=s.size≤1000000
def RN (s:ByteArray) (z:Bool):Prop:=z=(bl s).2
def cU (s:ByteArray) (z:Bool):AV:=.t [match z with |true=>.s (.xs 0 5 0 (bl s).1.length) |false=>.s (.v (.slice none 0 0)),.s (.q z)]
def du (s:ByteArray) (z:Bool):List AV:=match z with |true=>[.rs ae (bl s).1] |false=>[.zz]
def DC:cn where
 A:=[.s .str]
 B:=[]
 pre:=fun x b=>qY x
 α:=fun _ _=>Bool
 φ:=fun x b z=>RN x z
 r:=fun x b z=>cU x z
 o:=fun x b z=>du x z
 nf:=1
theorem abG:Has Tryz.prog 137 DC:=by
 refine Has.WK zT zF zF (l:=[(170,z8),(171,ph),(113,pj)]) ⟨FC,L9,MB,aa⟩ Tryz.func137 ?_
 rintro (s:ByteArray) _ (hp:qY s)
 show vc _ _ _ _ (entry [.str s] []) _
 unfold qY at hp
 have hsp:hZ s ⟨#[44]⟩=bm s 44:=QI s 44
 have hL:(hZ s ⟨#[44]⟩).length≤s.size+1:=by rw [hsp];exact (tS s 44).2
 refine⟨⟨tv3,?_,?_⟩,fun x1 w2=>?_⟩
 all_goals first|refine aw ?_|refine ax ?_|exact a8|(dsimp only [ph,k7,pj,nJ];omega)|exact a7|(show 1≤(1:Nat);omega)|skip
 have dj:∀n,n<(hZ s ⟨#[44]⟩).length→(nth ab (hZ s ⟨#[44]⟩) n).size≤1000000:=fun n h=>by rw [hsp] at *;exact ZB0 (oT (s:=s) (c:=44) _ (bR (ek:=ab) h)) hp
 have iA:∀n,n<(hZ s ⟨#[44]⟩).length→(!(bP (nth ab (hZ s ⟨#[44]⟩) n)).2)=true→false=(bl s).2:=fun n hn h=>by rw [hsp] at *;exact (XI hn h).symm
 have ajf:(hZ s ⟨#[44]⟩).length≠4→false=(bl s).2:=fun h=>by rw [hsp] at h;exact (TY h).symm
 have IV:∀l,l=(hZ s ⟨#[44]⟩).map qM→((bE l).2=false∨(bE l).1≠s)→false=(bl s).2:=fun l hl h=>by rw [hsp] at hl;exact (XH hl h).symm
 refine lT (l:=[(170,z8),(171,ph),(113,pj)]) (ex:=zT) (wr:=zF) (pt:=zF) ⟨FC,L9,MB,aa⟩ [.s 0,.s 12,.s 13] (fun y:Nat×List Pt=>match y.1 with |0=>[(.s 4,.s (.v (.slice none 0 0))),(.s 14,.int 0)] |n+1=>[(.s 4,.s (.xs 1019 5 0 y.2.length)),(.s 14,.int ((n+1:Nat):Int)),(.b 1019,.rs ae y.2)]) (fun y=>y.1≤(hZ s ⟨#[44]⟩).length∧y.1≤4∧y.2=((hZ s ⟨#[44]⟩).take y.1).map qM) (fun y=>4-y.1) (0,[]) [] ⟨ZA7 _,ZA7 _,rfl⟩ dL ?_
 rintro⟨n,T⟩ ⟨(hn:n≤(hZ s ⟨#[44]⟩).length),(hn4:n≤4),(hT:T=((hZ s ⟨#[44]⟩).take n).map qM)⟩
 have hlen:T.length=n:=by rw [hT,ZG2,ZC0];omega
 have cm:∀m:Nat,decide ((m:Int)<((hZ s ⟨#[44]⟩).length:Int))=true→m<(hZ s ⟨#[44]⟩).length:=fun m h=>by have:=aJ h;omega
 have nY:decide ((n:Int)<((hZ s ⟨#[44]⟩).length:Int))=false→T=(hZ s ⟨#[44]⟩).map qM:=fun h=>by
  have:=aA h
  rw [hT,ZD1 (by omega)]
 have ajl:(!(bE T).2)=false→decide ((bE T).1≠s)=false→bl s=(T,true):=fun h h2=>by
  have e:(bE T).1=s:=ZE9.1 (aA (p:=¬(bE T).1=s) h2)
  rw [←e];exact D8 (cL h)
 cases n with
 |zero=>
  have hT0:T=[]:=hT
  subst hT0
  refine⟨fun w1=>⟨⟨?_,?_⟩,⟨tv2,?_⟩,fun x2 w3=>⟨aa,fun w4=>?_,fun w5=>⟨fun w6=>?_,fun w7=>⟨aa,⟨⟨?_,?_⟩,?_,?_⟩,⟨?_,?_⟩,?_⟩⟩⟩⟩,fun w8=>⟨⟨tv2,aa⟩,fun x9 dx=>⟨aa,fun kx=>?_,fun dI=>⟨fun iS=>?_,fun gN=>?_⟩⟩⟩⟩
  all_goals first|(exfalso;simp only [decide_eq_true_eq,decide_eq_false_iff_not] at *;omega)|refine aw ?_|refine ax ?_|exact a8|(dsimp only [ph,k7,pj,nJ];omega)|exact a7|exact dj 0 (cm 0 w1)|skip
  ·refine⟨[],[],_,_,_,rfl,az,false,1,(iA 0 (cm 0 w1) w4),?_,?_,rfl⟩
   ·(show _=cU s false);unfold cU;first|(rw [rfl];rfl)|rfl
   ·(show _=du s false);unfold du;first|(rw [rfl];rfl)|rfl
  ·refine⟨(1,[qM (nth ab (hZ s ⟨#[44]⟩) 0)]),[(1019,1033)],?_,?_,?_⟩
   rotate_right
   ·exact bV
   ·exact⟨cm 0 w1,by show 1≤4;omega,by show _=((hZ s ⟨#[44]⟩).take (0+1)).map qM;rw [MK (cm 0 w1)];rfl⟩
   ·show 4-1<4-0;omega
  ·refine⟨[],[],_,_,_,rfl,az,false,1,(IV [] (nY w8) (.inl (uo kx))),?_,?_,rfl⟩
   ·(show _=cU s false);unfold cU;first|(rw [rfl];rfl)|rfl
   ·(show _=du s false);unfold du;first|(rw [rfl];rfl)|rfl
  ·refine⟨[],[],_,_,_,rfl,az,false,1,(IV [] (nY w8) (.inr (aJ iS))),?_,?_,rfl⟩
   ·(show _=cU s false);unfold cU;first|(rw [rfl];rfl)|rfl
   ·(show _=du s false);unfold du;first|(rw [rfl];rfl)|rfl
  ·exact absurd dI (by decide)
 |succ n=>
  refine⟨fun w1=>⟨⟨?_,?_⟩,⟨tv2,?_⟩,fun x2 w3=>⟨aa,fun w4=>?_,fun w5=>⟨fun w6=>?_,fun w7=>⟨aa,⟨⟨?_,?_⟩,?_,?_⟩,⟨?_,?_⟩,?_⟩⟩⟩⟩,fun w8=>⟨⟨⟨⟨?_,?_⟩,aa⟩,aa⟩,fun x9 dx=>⟨aa,fun kx=>?_,fun dI=>⟨fun iS=>?_,fun gN=>?_⟩⟩⟩⟩
  all_goals first|(exfalso;simp only [decide_eq_true_eq,decide_eq_false_iff_not] at *;omega)|refine aw ?_|refine ax ?_|exact a8|(dsimp only [ph,k7,pj,nJ];omega)|exact a7|exact dj (n+1) (cm (n+1) w1)|skip
  ·refine⟨[],[],_,_,_,rfl,az,false,1,(iA (n+1) (cm (n+1) w1) w4),?_,?_,rfl⟩
   ·(show _=cU s false);unfold cU;first|(rw [rfl];rfl)|rfl
   ·(show _=du s false);unfold du;first|(rw [rfl];rfl)|rfl
  ·have h4:T.length=4:=by have:=aJ (p:=(T.length:Int)=4) w6;omega
   refine⟨[],[],_,_,_,rfl,az,false,1,(ajf (by have:=cm (n+1) w1;omega)),?_,?_,rfl⟩
   ·(show _=cU s false);unfold cU;first|(rw [rfl];rfl)|rfl
   ·(show _=du s false);unfold du;first|(rw [rfl];rfl)|rfl
  ·have h4:T.length≠4:=by have:=aA (p:=(T.length:Int)=4) w7;omega
   refine⟨(n+2,T++[qM (nth ab (hZ s ⟨#[44]⟩) (n+1))]),[(1019,1033)],?_,?_,?_⟩
   rotate_right
   ·exact bV
   ·exact⟨cm (n+1) w1,by show n+2≤4;omega,by show _=((hZ s ⟨#[44]⟩).take (n+1+1)).map qM;rw [MK (cm (n+1) w1),hT]⟩
   ·show 4-(n+2)<4-(n+1);omega
  ·refine⟨[],[],_,_,_,rfl,az,false,1,(IV T (nY w8) (.inl (uo kx))),?_,?_,rfl⟩
   ·(show _=cU s false);unfold cU;first|(rw [rfl];rfl)|rfl
   ·(show _=du s false);unfold du;first|(rw [rfl];rfl)|rfl
  ·refine⟨[],[],_,_,_,rfl,az,false,1,(IV T (nY w8) (.inr (aJ iS))),?_,?_,rfl⟩
   ·(show _=cU s false);unfold cU;first|(rw [rfl];rfl)|rfl
   ·(show _=du s false);unfold du;first|(rw [rfl];rfl)|rfl
  ·have e:=ajl dI gN
   refine⟨[1019],[],_,_,_,rfl,az,true,0,(show true=(bl s).2 by rw [e]),?_,?_,rfl⟩
   ·(show _=cU s true);unfold cU;first|(rw [e];rfl)|rfl
   ·(show _=du s true);unfold du;first|(rw [e];rfl)|rfl
end GL
namespace GL
def ir (n:Int):Prop:=True
def sZ (n:Int):AV:=.int (bj n)
def RX (n:Int):List AV:=[]
def gL:cn where
 A:=[.s .int]
 B:=[]
 pre:=fun x b=>ir x
 r:=fun x b _=>sZ x
 o:=fun x b _=>RX x
theorem tF:Has Tryz.prog 102 gL:=by
 refine Has.zv zT zF zF (l:=[]) trivial Tryz.func102 ?_
 rintro (n:Int) _ (hp:ir n)
 show vc _ _ _ _ (entry [.int n] []) _
 refine⟨fun w1=>?_,fun w2=>⟨fun w3=>?_,fun w4=>?_⟩⟩
 all_goals first|refine aw ?_|refine ax ?_|exact a8|exact a7|skip
 all_goals
  refine⟨[],[],_,_,_,rfl,az,(),aa,?_,?_,rfl⟩
  ·(show _=sZ n);unfold sZ;first|((simp only [bj, *];rfl))|rfl
  ·rfl
def k6 (S:ay) (p:Pt):Prop:=S.szs∧S.rows.length=64∧aZ p=true
def mD (S:ay) (p:Pt):AV:=.t [.s (.str (bF S p).1),.s (.q (bF S p).2)]
def ac2 (S:ay) (p:Pt):List AV:=[]
def kC:cn where
 A:=[.vs xq,.a [.int,.int,.int,.int,.int]]
 B:=[]
 pre:=fun x b=>k6 (x.1) (x.2)
 r:=fun x b _=>mD (x.1) (x.2)
 o:=fun x b _=>ac2 (x.1) (x.2)
theorem zD:Has Tryz.prog 32 kC:=by
 refine Has.zv zT zF zF (l:=[(67,bG),(68,yT)]) ⟨eN,W2,aa⟩ Tryz.func32 ?_
 rintro⟨⟨(aj:List ByteArray),(ak:List Int),(an:List Int),(ao:Int),(ah:List Pt),(aq:Int),(ai:List Pt),(ar:Bool)⟩,⟨(p1:Int),(p2:Int),(p3:Int),(p4:Int),(p5:Int)⟩⟩ _ (hp:k6 (aj,ak,an,ao,ah,aq,ai,ar) (p1,p2,p3,p4,p5))
 show vc _ _ _ _ (entry [.s (.vs [.vz ab aj,.vz ag ak,.vz ag an,.v (.int .i64 ao),.vz ae ah,.v (.int .i64 aq),.vz ae ai,.q ar] 0),.a [.int p1,.int p2,.int p3,.int p4,.int p5]] []) _
 obtain⟨h1,(hlen:aj.length=64),cG⟩:=hp
 have cG:aZ (p1,p2,p3,p4,p5)=true:=cG
 have xy:au (p1,p2,p3,p4,p5)=false→0≤p1∧p1<64:=fun h=>by
  have:=pO cG;dsimp only at this;omega
 have dj:au (p1,p2,p3,p4,p5)=false→(nth ab aj p1.toNat).size≤1000000000:=fun h=>ZB0 (h1 _ (bR (ek:=ab) (show p1.toNat<aj.length by have:=xy h;omega))) (by omega)
 refine⟨⟨⟨tv6,aa⟩,aa⟩,fun x1 w2=>⟨fun w3=>?_,fun w4=>⟨[.s 3,.b 1003],Sq10,rfl,Sq0,Sq11,rfl,Sq11,Sq12,rfl,Sq12,Sq13,rfl,Sq13,Sq14,rfl,Sq3,Sq15,rfl,[.s 15,.b 1003],Sq16,rfl,[.s 14,.s 16],Sq17,rfl,⟨?_,?_⟩,Sq17,Sq18,rfl,[.s 10,.s 18],Sq19,rfl,⟨⟨tv6,tv2⟩,?_⟩,?_,fun x5 w6=>⟨Sq19,Sq20,rfl,Sq20,Sq9,rfl,fun w7=>?_,fun w8=>⟨Sq0,Sq21,rfl,Sq21,Sq22,rfl,Sq22,Sq23,rfl,Sq23,Sq24,rfl,Sq3,Sq25,rfl,[.s 25,.b 1003],Sq26,rfl,[.s 24,.s 26],Sq27,rfl,⟨?_,?_⟩,Sq27,Sq28,rfl,Sq28,Sq4,rfl,[],Sq5,rfl,?_⟩⟩⟩⟩⟩
 all_goals first|refine aw ?_|refine ax ?_|exact a8|(dsimp only [bG,cb,yT,ti];omega)|exact a7|exact dj w4|exact (xy w4).1|(have:=(xy w4).2;show p1<(aj.length:Int);omega)|skip
 ·refine⟨[],[],_,_,_,rfl,az,(),aa,?_,?_,rfl⟩
  ·(show _=mD (aj,ak,an,ao,ah,aq,ai,ar) (p1,p2,p3,p4,p5));unfold mD;first|(rw [fS w3];rfl)|rfl
  ·rfl
 ·refine⟨[],[],_,_,_,rfl,az,(),aa,?_,?_,rfl⟩
  ·(show _=mD (aj,ak,an,ao,ah,aq,ai,ar) (p1,p2,p3,p4,p5));unfold mD;first|(rw [LJ w4 (J4 w7)];rfl)|rfl
  ·rfl
 ·refine⟨[],[],_,_,_,rfl,az,(),aa,?_,?_,rfl⟩
  ·(show _=mD (aj,ak,an,ao,ah,aq,ai,ar) (p1,p2,p3,p4,p5));unfold mD;first|(rw [xX w4 (oD w8)];rfl)|rfl
  ·rfl
def wB (k:Pt) (p:Pt):Prop:=True
def BD (k:Pt) (p:Pt):AV:=.s (.q (late p k))
def HE (k:Pt) (p:Pt):List AV:=[.a [.int p.1,.int p.2.1,.int p.2.2.1,.int p.2.2.2.1,.int p.2.2.2.2]]
def z6:cn where
 A:=[.a [.int,.int,.int,.int,.int],.b 0]
 B:=[.a [.int,.int,.int,.int,.int]]
 pre:=fun x b=>wB (x.1) b
 r:=fun x b _=>BD (x.1) b
 o:=fun x b _=>HE (x.1) b
 ro:=true
theorem ZN:Has Tryz.prog 139 z6:=by
 refine Has.zv zT zF zF (l:=[]) trivial Tryz.func139 ?_
 rintro⟨⟨(k1:Int),(k2:Int),(k3:Int),(k4:Int),(k5:Int)⟩,_⟩ ⟨(p1:Int),(p2:Int),(p3:Int),(p4:Int),(p5:Int)⟩ (hp:wB (k1,k2,k3,k4,k5) (p1,p2,p3,p4,p5))
 show vc _ _ _ _ (entry [.a [.int k1,.int k2,.int k3,.int k4,.int k5],.s (.bp 0 0)] [.a [.int p1,.int p2,.int p3,.int p4,.int p5]]) _
 refine ?_
 all_goals first|refine aw ?_|refine ax ?_|exact a8|exact a7|skip
 refine⟨[],[],_,_,_,rfl,az,(),aa,?_,?_,rfl⟩
 ·(show _=BD (k1,k2,k3,k4,k5) (p1,p2,p3,p4,p5));unfold BD;first|rfl
 ·(show _=HE (k1,k2,k3,k4,k5) (p1,p2,p3,p4,p5));unfold HE;first|rfl
def ur (p:Pt):List Pt→Nat→Int
 |[],_=> -1
 |q::l,i=>bif late p q then i else ur p l (i+1)
def p6 (l:List Pt) (f:Pt):Prop:=l.length≤1000000
def jg (l:List Pt) (f:Pt):AV:=.s (.int (ur f l 0))
def kj (l:List Pt) (f:Pt):List AV:=[.a [.int f.1,.int f.2.1,.int f.2.2.1,.int f.2.2.2.1,.int f.2.2.2.2]]
def uc:cn where
 A:=[.s (.vz ae),.fn 139 [0]]
 B:=[.a [.int,.int,.int,.int,.int]]
 pre:=fun x b=>p6 (x.1) b
 r:=fun x b _=>jg (x.1) b
 o:=fun x b _=>kj (x.1) b
 ro:=true
theorem PB:Has Tryz.prog 172 uc:=by
 refine Has.zv zT zF zF (l:=[(139,z6)]) ⟨ZN,aa⟩ Tryz.func172 ?_
 rintro⟨(l:List Pt),_⟩ ⟨(f1:Int),(f2:Int),(f3:Int),(f4:Int),(f5:Int)⟩ (hp:p6 l (f1,f2,f3,f4,f5))
 show vc _ _ _ _ (entry [.s (.vz ae l),.fn 139 [(0,0)]] [.a [.int f1,.int f2,.int f3,.int f4,.int f5]]) _
 let g':=(f1,f2,f3,f4,f5)
 have hp:l.length≤1000000:=hp
 refine ?_
 all_goals first|refine aw ?_|refine ax ?_|exact a8|(dsimp only [z6,wB];omega)|exact a7|skip
 refine lT (l:=[(139,z6)]) (ex:=zT) (wr:=zF) (pt:=zF) ⟨ZN,aa⟩ [.s 0,.s 1,.s 6,.s 7,.b 0] (fun i:Nat=>[(.s 8,.int i)]) (fun i=>i≤l.length∧ur g' (l.drop i) i=ur g' l 0) (fun i=>l.length-i) 0 [] ⟨ZA7 _,rfl⟩ dL ?_
 rintro i ⟨(hi:i≤l.length),(hr:ur g' (l.drop i) i=ur g' l 0)⟩
 have cO:i<l.length→l.drop i=nth ae l i::l.drop (i+1):=fun h=>bW (ek:=ae) h
 have cm:decide ((i:Int)<(l.length:Int))=true→i<l.length:=fun h=>by have:=aJ h;omega
 refine⟨fun w1=>⟨⟨?_,?_⟩,⟨⟨⟨tv6,tv2⟩,aa⟩,fun x2 w3=>?_⟩,fun x4 w5=>⟨fun w6=>?_,fun w7=>⟨⟨?_,?_⟩,?_⟩⟩⟩,fun w8=>?_⟩
 all_goals first|refine aw ?_|refine ax ?_|exact a8|(dsimp only [z6,wB];omega)|exact a7|(show (i:Int)+1≤9223372036854775807;omega)|skip
 ·have e:ur g' l 0=(i:Int):=by rw [←hr,cO (cm w1),ur,show late g' (nth ae l i)=true from w6];rfl
  refine⟨[],[],_,_,_,rfl,az,(),aa,?_,?_,rfl⟩
  ·(show _=jg l g');unfold jg;first|(rw [e];rfl)|rfl
  ·(show _=kj l g');unfold kj;first|(rw [e];rfl)|rfl
 ·refine⟨(i+1),[],?_,?_,?_⟩
  rotate_right
  ·exact bV
  ·refine⟨cm w1,?_⟩
   rw [←hr,cO (cm w1),ur,show late g' (nth ae l i)=false from w7];rfl
  ·show l.length-(i+1)<l.length-i;have:=cm w1;omega
 ·have e:ur g' l 0= -1:=by rw [←hr,ZB3 (by have:=aA w8;omega)];rfl
  refine⟨[],[],_,_,_,rfl,az,(),aa,?_,?_,rfl⟩
  ·(show _=jg l g');unfold jg;first|(rw [e];rfl)|rfl
  ·(show _=kj l g');unfold kj;first|(rw [e];rfl)|rfl
theorem CH (p:Pt):∀(l:List Pt) (i:Nat),decide (ur p l i≥0)=l.any (late p)
 |[],_=>rfl
 |q::l,i=>by
  rw [ur,List.any_cons]
  cases late p q with
  |false=>exact CH p l (i+1)
  |true=>show decide ((i:Int)≥0)=true;exact decide_eq_true (Int.natCast_nonneg i)
def tj (l:List Pt) (f:Pt):Prop:=l.length≤1000000
def s6 (l:List Pt) (f:Pt):AV:=.s (.q (l.any (late f)))
def vh (l:List Pt) (f:Pt):List AV:=[.a [.int f.1,.int f.2.1,.int f.2.2.1,.int f.2.2.2.1,.int f.2.2.2.2]]
def yV:cn where
 A:=[.s (.vz ae),.fn 139 [0]]
 B:=[.a [.int,.int,.int,.int,.int]]
 pre:=fun x b=>tj (x.1) b
 r:=fun x b _=>s6 (x.1) b
 o:=fun x b _=>vh (x.1) b
 ro:=true
theorem W4:Has Tryz.prog 138 yV:=by
 refine Has.zv zT zF zF (l:=[(172,uc)]) ⟨PB,aa⟩ Tryz.func138 ?_
 rintro⟨(l:List Pt),_⟩ ⟨(f1:Int),(f2:Int),(f3:Int),(f4:Int),(f5:Int)⟩ (hp:tj l (f1,f2,f3,f4,f5))
 show vc _ _ _ _ (entry [.s (.vz ae l),.fn 139 [(0,0)]] [.a [.int f1,.int f2,.int f3,.int f4,.int f5]]) _
 let g':=(f1,f2,f3,f4,f5)
 have hp:l.length≤1000000:=hp
 refine⟨⟨⟨tv3,?_⟩,fun x1 w2=>?_⟩,fun x3 w4=>?_⟩
 all_goals first|refine aw ?_|refine ax ?_|exact a8|(dsimp only [uc,p6];omega)|exact a7|exact hp|skip
 refine⟨[],[],_,_,_,rfl,az,(),aa,?_,?_,rfl⟩
 ·(show _=s6 l g');unfold s6;first|(rw [←CH g' l 0];rfl)|rfl
 ·(show _=vh l g');unfold vh;first|(rw [←CH g' l 0];rfl)|rfl
end GL
namespace GL
def xl (s:ay) (p:Pt):List Pt:=bif au p then cu 4 else (bl (bF s p).1).1
def qo (s:ay) (p:Pt) (lv:Int):Bool:=bif au p then true else bif !(bF s p).2 then false else bif decide (p.2.2.2.2≠lv) then false else (bl (bF s p).1).2&& !((bl (bF s p).1).1.any (late p))
section
variable {s:ay}{p:Pt}{lv:Int}
theorem XM (h:au p=true):qo s p lv=true:=by unfold qo;rw [h];rfl
theorem XL (h:au p=false) (h1:(!(bF s p).2)=true):qo s p lv=false:=by unfold qo;rw [h,h1];rfl
theorem aey (h:au p=false) (h1:(!(bF s p).2)=false) (h2:decide (p.2.2.2.2≠lv)=true):qo s p lv=false:=by unfold qo;rw [h,h1,h2];rfl
theorem aex (h:au p=false) (h1:(!(bF s p).2)=false) (h2:decide (p.2.2.2.2≠lv)=false) (h3:false=(bl (bF s p).1).2):qo s p lv=false:=by unfold qo;rw [h,h1,h2,←h3];rfl
theorem aew (h:au p=false) (h1:(!(bF s p).2)=false) (h2:decide (p.2.2.2.2≠lv)=false) (h3:true=(bl (bF s p).1).2):qo s p lv= !((bl (bF s p).1).1.any (late p)):=by unfold qo;rw [h,h1,h2,←h3];rfl
theorem JB (h:au p=true):xl s p=cu 4:=by unfold xl;rw [h];rfl
theorem aeu (h:au p=false):xl s p=(bl (bF s p).1).1:=by unfold xl;rw [h];rfl
theorem abT (cG:aZ p=true) (hb:au p=false→p.2.1≤s.cg):qo s p lv=(bg s p lv).2∧(qo s p lv=true→xl s p=(bg s p lv).1):=by
 cases hh:au p with
 |true=>rw [XM hh,ko hh];exact⟨rfl,fun _=>JB hh⟩
 |false=>
  have hb:=hb hh
  cases hl:decide (p.2.2.2.2≠lv) with
  |true=>
   rw [vX hh hl]
   cases hr: !(bF s p).2 with
   |true=>rw [XL hh hr];exact⟨rfl,fun h=>by cases h⟩
   |false=>rw [aey hh hr hl];exact⟨rfl,fun h=>by cases h⟩
  |false=>
   have h1:(!(aZ p))=false:=by rw [cG];rfl
   have h3:decide (p.2.1>s.cg)=false:=decide_eq_false (by omega)
   cases hr: !(bF s p).2 with
   |true=>rw [XL hh hr,vW hh h1 hl h3 hr];exact⟨rfl,fun h=>by cases h⟩
   |false=>
    rw [vV hh h1 hl h3 hr]
    cases hf:(bl (bF s p).1).2 with
    |false=>
     rw [aex hh hr hl hf.symm,XK hf];exact⟨rfl,fun h=>by cases h⟩
    |true=>
     rw [aew hh hr hl hf.symm,aeu hh]
     cases ha:(bl (bF s p).1).1.any (late p) with
     |true=>rw [vY ha];exact⟨rfl,fun h=>by cases h⟩
     |false=>rw [sM ha];exact⟨by rw [hf];rfl,fun _=>rfl⟩
end
def kH (S:ay) (p:Pt) (lv:Int):Prop:=S.rd∧aZ p=true
def VL (S:ay) (p:Pt) (lv:Int) (z:Bool):Prop:=qo S p lv=true→z=true
def fQ (S:ay) (p:Pt) (lv:Int) (z:Bool):AV:=.t [match z with |true=>.s (.xs 0 5 0 (xl S p).length) |false=>.s (.v (.slice none 0 0)),.s (.q (qo S p lv))]
def gU (S:ay) (p:Pt) (lv:Int) (z:Bool):List AV:=match z with |true=>[.rs ae (xl S p)] |false=>[.zz]
def kn:cn where
 A:=[.vs xq,.a [.int,.int,.int,.int,.int],.s .int]
 B:=[]
 pre:=fun x b=>kH (x.1) (x.2.1) (x.2.2)
 α:=fun _ _=>Bool
 φ:=fun x b z=>VL (x.1) (x.2.1) (x.2.2) z
 r:=fun x b z=>fQ (x.1) (x.2.1) (x.2.2) z
 o:=fun x b z=>gU (x.1) (x.2.1) (x.2.2) z
 nf:=1
theorem zG:Has Tryz.prog 103 kn:=by
 refine Has.WK zT zF zF (l:=[(67,bG),(32,kC),(137,DC),(138,yV)]) ⟨eN,zD,abG,W4,aa⟩ Tryz.func103 ?_
 rintro⟨⟨(aj:List ByteArray),(ak:List Int),(an:List Int),(ao:Int),(ah:List Pt),(aq:Int),(ai:List Pt),(ar:Bool)⟩,⟨(p1:Int),(p2:Int),(p3:Int),(p4:Int),(p5:Int)⟩,(lv:Int)⟩ _ (hp:kH (aj,ak,an,ao,ah,aq,ai,ar) (p1,p2,p3,p4,p5) lv)
 show vc _ _ _ _ (entry [.s (.vs [.vz ab aj,.vz ag ak,.vz ag an,.v (.int .i64 ao),.vz ae ah,.v (.int .i64 aq),.vz ae ai,.q ar] 0),.a [.int p1,.int p2,.int p3,.int p4,.int p5],.int lv] []) _
 obtain⟨dE,cG⟩:=hp
 have dE:ay.rd (aj,ak,an,ao,ah,aq,ai,ar):=dE
 have cG:aZ (p1,p2,p3,p4,p5)=true:=cG
 have dj:∀q,(bF (aj,ak,an,ao,ah,aq,ai,ar) q).1.size≤1000000:=fun q=>zk dE
 have hF:=(vH (bF (aj,ak,an,ao,ah,aq,ai,ar) (p1,p2,p3,p4,p5)).1).1
 refine⟨⟨⟨tv6,aa⟩,aa⟩,fun x1 w2=>⟨fun w3=>⟨⟨?_,?_,?_⟩,?_⟩,fun w4=>⟨⟨⟨aa,tv6,aa⟩,fun x5 w6=>?_,?_,?_⟩,fun x7 w8=>⟨aa,fun w9=>?_,fun dx=>⟨fun kx=>?_,fun dI=>⟨⟨tv2,?_⟩,fun |false=>fun iS=>⟨aa,fun gN=>⟨⟨⟨tv3,?_⟩,fun kt kc=>?_⟩,fun x17 rO=>?_⟩,fun oH=>?_⟩ |true=>fun uE=>⟨aa,fun AY=>⟨⟨⟨⟨⟨?_,?_⟩,tv2⟩,?_⟩,fun x22 xF=>?_⟩,fun x24 w25=>?_⟩,fun w26=>?_⟩⟩⟩⟩⟩⟩⟩
 all_goals first|refine aw ?_|refine ax ?_|exact a8|(dsimp only [bG,cb,kC,k6,DC,qY,yV,tj];omega)|exact a7|exact dE.1|exact cG|exact dE.2 _ w6|exact dE.2 _ (by assumption)|exact ZA7 _|exact dj _|(show (bl (bF (aj,ak,an,ao,ah,aq,ai,ar) (p1,p2,p3,p4,p5)).1).1.length≤1000000;omega)|skip
 ·refine⟨[1014],[],_,_,_,rfl,az,true,0,(fun _=>rfl),?_,?_,rfl⟩
  ·(show _=fQ (aj,ak,an,ao,ah,aq,ai,ar) (p1,p2,p3,p4,p5) lv true);unfold fQ;first|(rw [XM (s:=(aj,ak,an,ao,ah,aq,ai,ar)) (lv:=lv) w3,JB (s:=(aj,ak,an,ao,ah,aq,ai,ar)) w3];rfl)|(rw [JB (s:=(aj,ak,an,ao,ah,aq,ai,ar)) w3];rfl)|rfl
  ·(show _=gU (aj,ak,an,ao,ah,aq,ai,ar) (p1,p2,p3,p4,p5) lv true);unfold gU;first|(rw [XM (s:=(aj,ak,an,ao,ah,aq,ai,ar)) (lv:=lv) w3,JB (s:=(aj,ak,an,ao,ah,aq,ai,ar)) w3];rfl)|(rw [JB (s:=(aj,ak,an,ao,ah,aq,ai,ar)) w3];rfl)|rfl
 ·have e:=XL (s:=(aj,ak,an,ao,ah,aq,ai,ar)) (lv:=lv) w4 w9
  refine⟨[],[],_,_,_,rfl,az,false,1,(fun h:qo (aj,ak,an,ao,ah,aq,ai,ar) (p1,p2,p3,p4,p5) lv=true=>absurd (e.symm.trans h) (by decide)),?_,?_,rfl⟩
  ·(show _=fQ (aj,ak,an,ao,ah,aq,ai,ar) (p1,p2,p3,p4,p5) lv false);unfold fQ;first|(rw [e];rfl)|rfl
  ·(show _=gU (aj,ak,an,ao,ah,aq,ai,ar) (p1,p2,p3,p4,p5) lv false);unfold gU;first|(rw [e];rfl)|rfl
 ·have e:=aey (s:=(aj,ak,an,ao,ah,aq,ai,ar)) (lv:=lv) w4 dx kx
  refine⟨[],[],_,_,_,rfl,az,false,1,(fun h:qo (aj,ak,an,ao,ah,aq,ai,ar) (p1,p2,p3,p4,p5) lv=true=>absurd (e.symm.trans h) (by decide)),?_,?_,rfl⟩
  ·(show _=fQ (aj,ak,an,ao,ah,aq,ai,ar) (p1,p2,p3,p4,p5) lv false);unfold fQ;first|(rw [e];rfl)|rfl
  ·(show _=gU (aj,ak,an,ao,ah,aq,ai,ar) (p1,p2,p3,p4,p5) lv false);unfold gU;first|(rw [e];rfl)|rfl
 ·cases gN
 ·have e:=aex (s:=(aj,ak,an,ao,ah,aq,ai,ar)) (lv:=lv) w4 dx dI (show false=(bl (bF (aj,ak,an,ao,ah,aq,ai,ar) (p1,p2,p3,p4,p5)).1).2 from iS)
  refine⟨[],[],_,_,_,rfl,az,false,1,(fun h:qo (aj,ak,an,ao,ah,aq,ai,ar) (p1,p2,p3,p4,p5) lv=true=>absurd (e.symm.trans h) (by decide)),?_,?_,rfl⟩
  ·(show _=fQ (aj,ak,an,ao,ah,aq,ai,ar) (p1,p2,p3,p4,p5) lv false);unfold fQ;first|(rw [e];rfl)|rfl
  ·(show _=gU (aj,ak,an,ao,ah,aq,ai,ar) (p1,p2,p3,p4,p5) lv false);unfold gU;first|(rw [e];rfl)|rfl
 ·have e:=aew (s:=(aj,ak,an,ao,ah,aq,ai,ar)) (lv:=lv) w4 dx dI (show true=(bl (bF (aj,ak,an,ao,ah,aq,ai,ar) (p1,p2,p3,p4,p5)).1).2 from uE)
  have e2:=aeu (s:=(aj,ak,an,ao,ah,aq,ai,ar)) w4
  refine⟨[320000],[],_,_,_,rfl,az,true,0,(fun _=>rfl),?_,?_,rfl⟩
  ·(show _=fQ (aj,ak,an,ao,ah,aq,ai,ar) (p1,p2,p3,p4,p5) lv true);unfold fQ;first|(rw [e,e2];rfl)|(rw [e2];rfl)|rfl
  ·(show _=gU (aj,ak,an,ao,ah,aq,ai,ar) (p1,p2,p3,p4,p5) lv true);unfold gU;first|(rw [e,e2];rfl)|(rw [e2];rfl)|rfl
 ·cases w26
end GL
end Go.Proofs.YtclcgjhhehbdeaaGreatDoor
