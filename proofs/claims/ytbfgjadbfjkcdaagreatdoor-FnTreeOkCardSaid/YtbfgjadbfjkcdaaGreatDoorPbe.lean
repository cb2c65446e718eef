/- FnTreeOk returns true for every code (its row lists package variables, tied by the card): part 31 of 39. -/
import Derived.Test.YtbfgjadbfjkcdaaGreatDoorPbd
set_option maxHeartbeats 20000000
set_option linter.all false
namespace Go.Proofs.YtbfgjadbfjkcdaaGreatDoor
namespace GL
structure ax.fit (s:ax) (p:Pt):Prop where
 ok:aV p=true
 b:p.2.1≤s.bY
theorem acn {s:ax} {p:Pt} {lv:Int} (h0:0≤s.bY) (hp:s.fit p):∀q∈(a8 s p lv).1,s.fit q:=by
 intro q hq
 refine ⟨sL s p lv q hq,?_⟩
 cases hh:ar p with
 |true=>
  rw [kq hh] at hq
  rw [(List.mem_replicate.1 hq).2];exact h0
 |false=>
  have nil:∀ {b:Bool},a8 s p lv=([],b)→False:=fun e=>by rw [e] at hq;cases hq
  have h1:(!(aV p))=false:=by rw [hp.ok];rfl
  have h3:decide (p.2.1 > s.bY)=false:=decide_eq_false (by have:=hp.b;omega)
  cases hl:decide (p.2.2.2.2≠lv) with
  |true=>exact (nil (wa hh hl)).elim
  |false=>
   cases hr: !(bA s p).2 with
   |true=>exact (nil (v8 hh h1 hl h3 hr)).elim
   |false=>
    rw [v7 hh h1 hl h3 hr] at hq
    cases ha:(bd (bA s p).1).1.any (late p) with
    |true=>rw [wb ha] at hq;cases hq
    |false=>
     rw [sM ha] at hq
     have:=List.any_eq_false.1 ha q hq
     have h2:¬(q.2.1 > p.2.1):=by simpa [late] using this
     have:=hp.b;omega
theorem QQ {s:ax} {lv:Int} (h0:0≤s.bY):∀ {l acc n:List Pt},(∀q∈l,s.fit q)→(∀q∈acc,s.fit q)→fo s lv l acc=some n→∀q∈n,s.fit q
 |[],acc,n,_,h2,h=>by cases h;exact h2
 |p::l,acc,n,h1,h2,h=>by
  unfold fo at h
  cases hb:(a8 s p lv).2 with
  |true=>
   rw [hb,cond_true] at h
   refine QQ h0 (fun q hq=>h1 q (by simp [hq])) (fun q hq=>?_) h
   rcases List.mem_append.1 hq with hq |hq
   ·exact h2 q hq
   ·exact acn h0 (h1 p (by simp)) q hq
  |false=>rw [hb] at h;cases h
theorem S5 {n:Int} {d:Nat} (h0:ir n 0 16=true) (h:d=4 ^ (bb n).toNat):n.toNat≤d:=by
 obtain ⟨h1,h2⟩:=cn.1 h0
 rw [h]
 unfold bb
 cases hc:decide (n≤1) with
 |true=>have:=cw hc;show n.toNat≤1;omega
 |false=>
  cases hd:decide (n≤4) with
  |true=>have:=cw hd;show n.toNat≤4;omega
  |false=>show n.toNat≤16;omega
theorem XQ {p:Pt} (h:ar p=true):p.2.1=0:=by rw [ic h];rfl
theorem XP {p:Pt} (h:ar p=true):p.2.2.2.2=0:=by rw [ic h];rfl
theorem abI {s:ax} {t:aZ} (h0:0≤s.bY) (h:decide (t.root.2.1 > s.bY)=true):oz s t=false:=by
 have hh:ar t.root=false:=by
  cases hh:ar t.root with
  |false=>rfl
  |true=>have:=cw h;rw [XQ hh] at this;omega
 cases hb:lf t with
 |true=>exact DR hb
 |false=>
  cases hd:decide (t.depth > 0) with
  |false=>
   have e:bn s t=([t.root],true):=vu hd
   rw [ZJ hb (by rw [e];rfl),e]
   exact wK hh (ZW h)
  |true=>
   have e:bn s t=([],false):=H4 hd (by rw [N0 (by rw [AE hh h];rfl)])
   exact ZK hb (by rw [e];rfl)
def vh (S:ax) (t:aZ):Prop:=S.rd∧0≤S.bY
def R0 (S:ax) (t:aZ) (z:Bool):Prop:=z=oz S t
def bN (S:ax) (t:aZ) (z:Bool):AV:=.t [match z with |true=>.s (.xs 0 5 0 t.many.toNat) |false=>.s (.v (.slice none 0 0)), .s (.q z)]
def cf (S:ax) (t:aZ) (z:Bool):List AV:=match z with |true=>[.rs ab (bn S t).1] |false=>[.zz]
def DC:Con where
 A:=[.vs xw, .a [.int, .int, .int, .int, .int, .int, .int]]
 B:=[]
 pre:=fun x b=>vh (x.1) (x.2)
 α:=fun _ _=>Bool
 φ:=fun x b z=>R0 (x.1) (x.2) z
 r:=fun x b z=>bN (x.1) (x.2) z
 o:=fun x b z=>cf (x.1) (x.2) z
 nf:=1
set_option maxRecDepth 100000 in
theorem abX:Has Tryz.prog 13 DC:=by
 refine Has.ofZI (fun _=>true) (fun _=>false) (fun _=>false) (l:=[(31,cu),(36,gF),(34,cx),(37,kn),(38,kD),(35,bB)]) ⟨ga,tI,jl,zM,zK,eJ,trivial⟩ (fn:=Tryz.f13) Tryz.func13 rfl (by decide) (cH rfl) ?_
 rintro ⟨⟨(ai:List ByteArray),(aj:List Int),(ak:List Int),(an:Int),(ag:List Pt),(ao:Int),(ah:List Pt),(aq:Bool)⟩,⟨(t1:Int),(t2:Int),(t3:Int),(t4:Int),(t5:Int),(t6:Int),(t7:Int)⟩⟩ _ (hp:vh (ai,aj,ak,an,ag,ao,ah,aq) (t1,t2,t3,t4,t5,t6,t7))
 show vc _ _ _ _ (entry [.s (.vs [.vz aa ai, .vz ae aj, .vz ae ak, .v (.int .i64 an), .vz ab ag, .v (.int .i64 ao), .vz ab ah, .q aq] 0), .a [.int t1, .int t2, .int t3, .int t4, .int t5, .int t6, .int t7]] []) _
 obtain ⟨dA,(h0:0≤an)⟩:=hp
 have dA:ax.rd (ai,aj,ak,an,ag,ao,ah,aq):=dA
 refine ⟨[.s 3],[.s 17],rfl,[.s 17, .b 1003],[.s 18],rfl,[.s 18],[.s 19],rfl,⟨⟨tv,tv,tv,tv⟩,tv⟩,?_,fun x1 w2=>⟨[.s 19],[.s 20],rfl,[.s 20],[.s 21],rfl,tv,fun w3=>⟨[.s 21],[.s 22],rfl,[.s 21],[.s 23],rfl,[.s 21],[.s 24],rfl,[.s 21],[.s 25],rfl,[.s 21],[.s 26],rfl,[.s 21],[.s 27],rfl,[.s 21, .s 27],[.s 28],rfl,[.s 28],[.s 29],rfl,[.s 29],[.s 30],rfl,[.s 29],[.s 31],rfl,[.s 29],[.s 32],rfl,[.s 29],[.s 33],rfl,[.s 29, .s 33],[.s 34],rfl,[.s 34],[.s 35],rfl,[.s 35],[.s 36],rfl,[.s 35],[.s 37],rfl,[.s 35],[.s 38],rfl,[.s 35],[.s 39],rfl,[.s 35],[.s 40],rfl,[.s 35],[.s 41],rfl,[.s 35],[.s 42],rfl,[.s 35],[.s 43],rfl,[.s 35, .s 43],[.s 44],rfl,?_⟩,fun w4=>⟨[.s 21, .s 3],[.s 22],rfl,[.s 21, .s 22, .b 1003],[.s 23],rfl,[.s 21, .s 3],[.s 24],rfl,[.s 21, .s 24, .b 1003],[.s 25],rfl,[.s 21, .s 25],[.s 26],rfl,⟨⟨tv,tv⟩,tv⟩,?_,fun x5 w6=>⟨[.s 21, .s 23, .s 26],[.s 27],rfl,[.s 21, .s 27],[.s 28],rfl,[.s 28],[.s 29],rfl,tv,fun w7=>⟨[.s 29],[.s 30],rfl,[.s 29],[.s 31],rfl,[.s 29],[.s 32],rfl,[.s 29],[.s 33],rfl,[.s 29, .s 33],[.s 34],rfl,[.s 34],[.s 35],rfl,[.s 35],[.s 36],rfl,[.s 35],[.s 37],rfl,[.s 35],[.s 38],rfl,[.s 35],[.s 39],rfl,[.s 35],[.s 40],rfl,[.s 35],[.s 41],rfl,[.s 35],[.s 42],rfl,[.s 35],[.s 43],rfl,[.s 35, .s 43],[.s 44],rfl,?_⟩,fun w8=>⟨[.s 29, .s 3],[.s 30],rfl,[.s 29, .s 30, .b 1003],[.s 31],rfl,[.s 29, .s 31],[.s 32],rfl,⟨⟨⟨tv,tv,tv,tv,tv,tv⟩,tv⟩,tv⟩,?_,fun x9 df=>⟨[.s 29, .s 32],[.s 33],rfl,[.s 29, .s 33],[.s 34],rfl,[.s 34],[.s 35],rfl,tv,fun ka=>⟨[.s 35],[.s 36],rfl,[.s 35],[.s 37],rfl,[.s 35],[.s 38],rfl,[.s 35],[.s 39],rfl,[.s 35],[.s 40],rfl,[.s 35],[.s 41],rfl,[.s 35],[.s 42],rfl,[.s 35],[.s 43],rfl,[.s 35, .s 43],[.s 44],rfl,?_⟩,fun dC=>⟨[.s 35, .s 3],[.s 36],rfl,[.s 35, .s 36],[.s 37],rfl,[.s 35, .s 37, .b 1003],[.s 38],rfl,[.s 35, .s 0],[.s 39],rfl,[.s 35, .s 39],[.s 40],rfl,[.s 35, .s 40],[.s 41],rfl,[.s 35, .s 41],[.s 42],rfl,[.s 35, .s 38, .s 42],[.s 43],rfl,[.s 35, .s 43],[.s 44],rfl,fun iA=>?_,fun gx=>⟨tv,?_⟩⟩⟩⟩⟩⟩⟩⟩
 all_goals first|refine au ?_|refine aw ?_|exact sa|(dsimp only [cu,di];omega)|(dsimp only [gF,ie];omega)|(dsimp only [cx,cM];omega)|(dsimp only [kn,kJ];omega)|(dsimp only [kD,k8];omega)|(dsimp only [bB,bV];omega)|exact sb|skip
 ·refine ⟨[],[],_,_,_,rfl,rp,false,1,(show false=oz (ai,aj,ak,an,ag,ao,ah,aq) (t1,t2,t3,t4,t5,t6,t7) from (DR (s:=(ai,aj,ak,an,ag,ao,ah,aq)) (t:=(t1,t2,t3,t4,t5,t6,t7)) (ZN w3)).symm),?_,?_,rfl⟩
  ·(show _=bN (ai,aj,ak,an,ag,ao,ah,aq) (t1,t2,t3,t4,t5,t6,t7) false);unfold bN;first |(rw [rfl];rfl) |rfl
  ·(show _=cf (ai,aj,ak,an,ag,ao,ah,aq) (t1,t2,t3,t4,t5,t6,t7) false);unfold cf;first |(rw [rfl];rfl) |rfl
 ·refine ⟨[],[],_,_,_,rfl,rp,false,1,(show false=oz (ai,aj,ak,an,ag,ao,ah,aq) (t1,t2,t3,t4,t5,t6,t7) from (DR (s:=(ai,aj,ak,an,ag,ao,ah,aq)) (t:=(t1,t2,t3,t4,t5,t6,t7)) (ZM w7)).symm),?_,?_,rfl⟩
  ·(show _=bN (ai,aj,ak,an,ag,ao,ah,aq) (t1,t2,t3,t4,t5,t6,t7) false);unfold bN;first |(rw [rfl];rfl) |rfl
  ·(show _=cf (ai,aj,ak,an,ag,ao,ah,aq) (t1,t2,t3,t4,t5,t6,t7) false);unfold cf;first |(rw [rfl];rfl) |rfl
 ·refine ⟨[],[],_,_,_,rfl,rp,false,1,(show false=oz (ai,aj,ak,an,ag,ao,ah,aq) (t1,t2,t3,t4,t5,t6,t7) from (DR (s:=(ai,aj,ak,an,ag,ao,ah,aq)) (t:=(t1,t2,t3,t4,t5,t6,t7)) (ZL ka)).symm),?_,?_,rfl⟩
  ·(show _=bN (ai,aj,ak,an,ag,ao,ah,aq) (t1,t2,t3,t4,t5,t6,t7) false);unfold bN;first |(rw [rfl];rfl) |rfl
  ·(show _=cf (ai,aj,ak,an,ag,ao,ah,aq) (t1,t2,t3,t4,t5,t6,t7) false);unfold cf;first |(rw [rfl];rfl) |rfl
 ·refine ⟨[],[],_,_,_,rfl,rp,false,1,(show false=oz (ai,aj,ak,an,ag,ao,ah,aq) (t1,t2,t3,t4,t5,t6,t7) from (abI (s:=(ai,aj,ak,an,ag,ao,ah,aq)) (t:=(t1,t2,t3,t4,t5,t6,t7)) h0 iA).symm),?_,?_,rfl⟩
  ·(show _=bN (ai,aj,ak,an,ag,ao,ah,aq) (t1,t2,t3,t4,t5,t6,t7) false);unfold bN;first |(rw [rfl];rfl) |rfl
  ·(show _=cf (ai,aj,ak,an,ag,ao,ah,aq) (t1,t2,t3,t4,t5,t6,t7) false);unfold cf;first |(rw [rfl];rfl) |rfl
 have aes:ir t7 0 16=true:=cB w4
 have hdp:t6=bb t7:=Decidable.not_not.1 (ca (p:=¬t6=bb t7) w8)
 have hB:lf (t1,t2,t3,t4,t5,t6,t7)=false:=zD (t:=(t1,t2,t3,t4,t5,t6,t7)) w4 w8 dC
 have hd2:=o9 t7
 rw [←hdp] at hd2
 have Z7:ax.fit (ai,aj,ak,an,ag,ao,ah,aq) (t1,t2,t3,t4,t5):=⟨cB dC,by have:=ca gx;show t2≤an;omega⟩
 refine lW (l:=[(31,cu),(36,gF),(34,cx),(37,kn),(38,kD),(35,bB)]) (ex:=fun _=>true) (wr:=fun _=>false) (pt:=fun _=>false) ⟨ga,tI,jl,zM,zK,eJ,trivial⟩ [.s 0, .s 3, .b 1003] (fun y:Int×List Pt×Nat=>[(.s 6, .s (.xs 1019 5 0 y.2.1.length)),(.s 7, .int y.1),(.b 1019, .rs ab y.2.1)]) (fun y=>(0≤y.1∧y.1≤t6)∧y.2.1.length=4 ^ (t6 - y.1).toNat∧y.1 < y.2.2∧tE (ai,aj,ak,an,ag,ao,ah,aq) y.2.2 y.1 y.2.1=bn (ai,aj,ak,an,ag,ao,ah,aq) (t1,t2,t3,t4,t5,t6,t7)∧∀q∈y.2.1,ax.fit (ai,aj,ak,an,ag,ao,ah,aq) q) (fun y=>y.1.toNat) (t6,[(t1,t2,t3,t4,t5)],3) [(1019,1047)] ⟨⟨hd2.1,Int.le_refl _⟩,by show 1=4 ^ (t6 - t6).toNat;rw [Int.sub_self];rfl,by show t6 < (3:Nat);omega,rfl,fun q hq=>by rw [List.mem_singleton.1 hq];exact Z7⟩ ru ?_
 rintro ⟨lv,l,f⟩ ⟨⟨(FH:0≤lv),(bM:lv≤t6)⟩,(hl:l.length=4 ^ (t6 - lv).toNat),(hf:lv < (f:Int)),(hr:tE (ai,aj,ak,an,ag,ao,ah,aq) f lv l=bn (ai,aj,ak,an,ag,ao,ah,aq) (t1,t2,t3,t4,t5,t6,t7)),(TY:∀q∈l,ax.fit (ai,aj,ak,an,ag,ao,ah,aq) q)⟩
 have ak0:l.length≤16:=by
  rw [hl]
  have:(t6 - lv).toNat=0∨(t6 - lv).toNat=1∨(t6 - lv).toNat=2:=by omega
  rcases this with h |h |h<;>rw [h]<;>decide
 refine ⟨fun w1=>?_,fun w2=>?_⟩
 all_goals first|refine au ?_|refine aw ?_|exact sa|(dsimp only [cu,di];omega)|(dsimp only [gF,ie];omega)|(dsimp only [cx,cM];omega)|(dsimp only [kn,kJ];omega)|(dsimp only [kD,k8];omega)|(dsimp only [bB,bV];omega)|exact sb|skip
 ·have mV:decide (lv > 0)=true:=w1
  obtain ⟨g,rfl⟩:∃g,f=g+1:=⟨f - 1,by have:=cw mV;omega⟩
  refine lW (l:=[(31,cu),(36,gF),(34,cx),(37,kn),(38,kD),(35,bB)]) (ex:=fun _=>true) (wr:=fun _=>false) (pt:=fun _=>false) ⟨ga,tI,jl,zM,zK,eJ,tv⟩ [.s 0, .s 3, .b 1003, .s 6, .s 7, .b 1019, .s 54, .s 55] (fun y:Nat×List Pt=>match y.1 with |0=>[(.s 8, .s (.v (.slice none 0 0))),(.s 56, .int 0)] |n+1=>[(.s 8, .s (.xs 1021 5 0 y.2.length)),(.s 56, .int ((n+1:Nat):Int)),(.b 1021, .rs ab y.2)]) (fun y=>y.1≤l.length∧y.2.length=4 * y.1∧fo (ai,aj,ak,an,ag,ao,ah,aq) lv (l.drop y.1) y.2=fo (ai,aj,ak,an,ag,ao,ah,aq) lv l []) (fun y=>l.length - y.1) (0,[]) [] ⟨Nat.zero_le _,rfl,rfl⟩ ru ?_
  rintro ⟨i,acc⟩ ⟨(hi:i≤l.length),(ab7:acc.length=4 * i),(hs:fo (ai,aj,ak,an,ag,ao,ah,aq) lv (l.drop i) acc=fo (ai,aj,ak,an,ag,ao,ah,aq) lv l [])⟩
  have cg:decide ((i:Int) < (l.length:Int))=true→i < l.length:=fun h=>by have:=cw h;omega
  have cJ:i < l.length→l.drop i=nth ab l i::l.drop (i+1):=fun h=>bP (ek:=ab) h
  have hft:i < l.length→ax.fit (ai,aj,ak,an,ag,ao,ah,aq) (nth ab l i):=fun h=>TY _ (bS (ek:=ab) h)
  have hfb:i < l.length→qi (ai,aj,ak,an,ag,ao,ah,aq) (nth ab l i) lv=(a8 (ai,aj,ak,an,ag,ao,ah,aq) (nth ab l i) lv).2∧(qi (ai,aj,ak,an,ag,ao,ah,aq) (nth ab l i) lv=true→xo (ai,aj,ak,an,ag,ao,ah,aq) (nth ab l i)=(a8 (ai,aj,ak,an,ag,ao,ah,aq) (nth ab l i) lv).1):=fun h=>acd (hft h).ok (fun _=>(hft h).b)
  have iu:i < l.length→(!(qi (ai,aj,ak,an,ag,ao,ah,aq) (nth ab l i) lv))=true→false=oz (ai,aj,ak,an,ag,ao,ah,aq) (t1,t2,t3,t4,t5,t6,t7):=fun h h2=>by
   rw [(hfb h).1] at h2
   have e:fo (ai,aj,ak,an,ag,ao,ah,aq) lv l []=none:=by rw [←hs,cJ h,N0 (s:=(ai,aj,ak,an,ag,ao,ah,aq)) (lv:=lv) (p:=nth ab l i) h2]
   exact (ZK hB (by rw [←hr,H4 mV e];rfl)).symm
  have hgo:i < l.length→(!(qi (ai,aj,ak,an,ag,ao,ah,aq) (nth ab l i) lv))=false→(xo (ai,aj,ak,an,ag,ao,ah,aq) (nth ab l i)).length=4∧fo (ai,aj,ak,an,ag,ao,ah,aq) lv (l.drop (i+1)) (acc++xo (ai,aj,ak,an,ag,ao,ah,aq) (nth ab l i))=fo (ai,aj,ak,an,ag,ao,ah,aq) lv l []:=fun h h2=>by
   have e:=(hfb h).2 (cB h2)
   have h3:=h2
   rw [(hfb h).1] at h3
   rw [e]
   exact ⟨(iz (ai,aj,ak,an,ag,ao,ah,aq) (nth ab l i) lv).2 (cB h3),by rw [←hs,cJ h,NZ (s:=(ai,aj,ak,an,ag,ao,ah,aq)) (lv:=lv) (p:=nth ab l i) h3]⟩
  have ze:0 < l.length:=by rw [hl];exact Nat.pow_pos (by decide)
  cases i with
  |zero=>
   have ha0:acc=[]:=List.length_eq_zero_iff.1 (by rw [ab7])
   subst ha0
   refine ⟨fun w1=>⟨⟨?_,?_⟩,?_,⟨⟨tv,⟨tv,tv,tv,tv,tv,tv⟩,tv,tv⟩,?_,?_⟩,fun |false=>fun w2=>⟨fun w3=>?_,fun w4=>⟨⟨⟨?_,?_⟩,tv⟩,⟨?_,?_⟩,?_⟩⟩ |true=>fun w5=>⟨fun w6=>?_,fun w7=>⟨⟨⟨?_,?_⟩,?_,?_⟩,⟨?_,?_⟩,?_⟩⟩⟩,fun w8=>⟨⟨?_,?_⟩,?_⟩⟩
   all_goals first|refine au ?_|refine aw ?_|exact sa|(dsimp only [cu,di];omega)|(dsimp only [gF,ie];omega)|(dsimp only [cx,cM];omega)|(dsimp only [kn,kJ];omega)|(dsimp only [kD,k8];omega)|(dsimp only [bB,bV];omega)|exact sb|exact dA|exact (hft (cg w1)).ok|exact absurd ((show qi (ai,aj,ak,an,ag,ao,ah,aq) (nth ab l 0) lv=true→false=true from w2) (cB w4)) (by decide)|(show 0 < (xo (ai,aj,ak,an,ag,ao,ah,aq) (nth ab l 0)).length;rw [(hgo (cg w1) w7).1];decide)|(show (xo (ai,aj,ak,an,ag,ao,ah,aq) (nth ab l 0)).length≤1048576;rw [(hgo (cg w1) w7).1];decide)|(exfalso;have h9:¬((0:Int) < (l.length:Int)):=ca w8;omega)|skip
   ·refine ⟨[],[],_,_,_,rfl,rp,false,1,(iu (cg w1) w3),?_,?_,rfl⟩
    ·(show _=bN (ai,aj,ak,an,ag,ao,ah,aq) (t1,t2,t3,t4,t5,t6,t7) false);unfold bN;first |(rw [rfl];rfl) |rfl
    ·(show _=cf (ai,aj,ak,an,ag,ao,ah,aq) (t1,t2,t3,t4,t5,t6,t7) false);unfold cf;first |(rw [rfl];rfl) |rfl
   ·refine ⟨[],[],_,_,_,rfl,rp,false,1,(iu (cg w1) w6),?_,?_,rfl⟩
    ·(show _=bN (ai,aj,ak,an,ag,ao,ah,aq) (t1,t2,t3,t4,t5,t6,t7) false);unfold bN;first |(rw [rfl];rfl) |rfl
    ·(show _=cf (ai,aj,ak,an,ag,ao,ah,aq) (t1,t2,t3,t4,t5,t6,t7) false);unfold cf;first |(rw [rfl];rfl) |rfl
   ·refine ⟨(1,xo (ai,aj,ak,an,ag,ao,ah,aq) (nth ab l 0)),[(1021,1071)],?_,?_,?_⟩
    rotate_right
    ·exact rq
    ·exact ⟨ze,by show (xo (ai,aj,ak,an,ag,ao,ah,aq) (nth ab l 0)).length=4 * 1;rw [(hgo (cg w1) w7).1],(hgo (cg w1) w7).2⟩
    ·show l.length - 1 < l.length - 0;omega
  |succ i=>
   refine ⟨fun w1=>⟨⟨?_,?_⟩,?_,⟨⟨tv,⟨tv,tv,tv,tv,tv,tv⟩,tv,tv⟩,?_,?_⟩,fun |false=>fun w2=>⟨fun w3=>?_,fun w4=>⟨⟨⟨?_,?_⟩,tv⟩,⟨?_,?_⟩,?_⟩⟩ |true=>fun w5=>⟨fun w6=>?_,fun w7=>⟨⟨⟨?_,?_⟩,?_,?_⟩,⟨?_,?_⟩,?_⟩⟩⟩,fun w8=>⟨⟨?_,?_⟩,?_⟩⟩
   all_goals first|refine au ?_|refine aw ?_|exact sa|(dsimp only [cu,di];omega)|(dsimp only [gF,ie];omega)|(dsimp only [cx,cM];omega)|(dsimp only [kn,kJ];omega)|(dsimp only [kD,k8];omega)|(dsimp only [bB,bV];omega)|exact sb|exact dA|exact (hft (cg w1)).ok|exact absurd ((show qi (ai,aj,ak,an,ag,ao,ah,aq) (nth ab l (i+1)) lv=true→false=true from w2) (cB w4)) (by decide)|(show acc.length+(xo (ai,aj,ak,an,ag,ao,ah,aq) (nth ab l (i+1))).length≤1048576;rw [(hgo (cg w1) w7).1,ab7];omega)|skip
   ·refine ⟨[],[],_,_,_,rfl,rp,false,1,(iu (cg w1) w3),?_,?_,rfl⟩
    ·(show _=bN (ai,aj,ak,an,ag,ao,ah,aq) (t1,t2,t3,t4,t5,t6,t7) false);unfold bN;first |(rw [rfl];rfl) |rfl
    ·(show _=cf (ai,aj,ak,an,ag,ao,ah,aq) (t1,t2,t3,t4,t5,t6,t7) false);unfold cf;first |(rw [rfl];rfl) |rfl
   ·refine ⟨[],[],_,_,_,rfl,rp,false,1,(iu (cg w1) w6),?_,?_,rfl⟩
    ·(show _=bN (ai,aj,ak,an,ag,ao,ah,aq) (t1,t2,t3,t4,t5,t6,t7) false);unfold bN;first |(rw [rfl];rfl) |rfl
    ·(show _=cf (ai,aj,ak,an,ag,ao,ah,aq) (t1,t2,t3,t4,t5,t6,t7) false);unfold cf;first |(rw [rfl];rfl) |rfl
   ·refine ⟨(i+2,acc++xo (ai,aj,ak,an,ag,ao,ah,aq) (nth ab l (i+1))),[(1021,1071)],?_,?_,?_⟩
    rotate_right
    ·exact rq
    ·exact ⟨cg w1,by show List.length (_++_)=4 * (i+2);rw [List.length_append,(hgo (cg w1) w7).1,ab7];omega,(hgo (cg w1) w7).2⟩
    ·show l.length - (i+2) < l.length - (i+1);have:=cg w1;omega
   ·have FJ:¬i+1 < l.length:=by have:=ca (p:=((i+1:Nat):Int) < (l.length:Int)) w8;omega
    have e:fo (ai,aj,ak,an,ag,ao,ah,aq) lv l []=some acc:=by rw [←hs,List.drop_eq_nil_of_le (by omega)];rfl
    have h1:lv > 0:=cw mV
    refine ⟨(lv - 1,acc,g),[(1019,1021)],?_,?_,?_⟩
    rotate_right
    ·exact rq
    ·refine ⟨⟨by show 0≤lv - 1;omega,by show lv - 1≤t6;omega⟩,?_,by show lv - 1 < (g:Int);omega,by rw [←hr,CD mV e],QQ h0 TY (fun q hq=>by cases hq) e⟩
     show acc.length=4 ^ (t6 - (lv - 1)).toNat
     rw [rT e,hl,show (t6 - (lv - 1)).toNat=(t6 - lv).toNat+1 by omega,Nat.pow_succ]
     show 0+4 * _=_;omega
    ·show (lv - 1).toNat < lv.toNat;omega
 ·refine lW (l:=[(31,cu),(36,gF),(34,cx),(37,kn),(38,kD),(35,bB)]) (ex:=fun _=>true) (wr:=fun _=>false) (pt:=fun _=>false) ⟨ga,tI,jl,zM,zK,eJ,tv⟩ [.s 0, .s 3, .b 1003, .s 6, .b 1019, .s 74, .s 75] (fun i:Nat=>[(.s 76, .int i)]) (fun i=>i≤l.length∧j3 (ai,aj,ak,an,ag,ao,ah,aq) t7 i (l.drop i)=j3 (ai,aj,ak,an,ag,ao,ah,aq) t7 0 l) (fun i=>l.length - i) 0 [] ⟨Nat.zero_le _,rfl⟩ ru ?_
  rintro i ⟨(hi:i≤l.length),(hs:j3 (ai,aj,ak,an,ag,ao,ah,aq) t7 i (l.drop i)=j3 (ai,aj,ak,an,ag,ao,ah,aq) t7 0 l)⟩
  have cg:decide ((i:Int) < (l.length:Int))=true→i < l.length:=fun h=>by have:=cw h;omega
  have cJ:i < l.length→l.drop i=nth ab l i::l.drop (i+1):=fun h=>bP (ek:=ab) h
  have hft:i < l.length→ax.fit (ai,aj,ak,an,ag,ao,ah,aq) (nth ab l i):=fun h=>TY _ (bS (ek:=ab) h)
  have akW:lv=0:=by have:=ca (p:=lv > 0) w2;omega
  have hE:bn (ai,aj,ak,an,ag,ao,ah,aq) (t1,t2,t3,t4,t5,t6,t7)=(l,true):=by
   rw [←hr]
   cases f with
   |zero=>rfl
   |succ g=>exact vu w2
  have hM:oz (ai,aj,ak,an,ag,ao,ah,aq) (t1,t2,t3,t4,t5,t6,t7)=j3 (ai,aj,ak,an,ag,ao,ah,aq) t7 0 l:=by rw [ZJ hB (by rw [hE];rfl),hE]
  have hlm:t7≤(l.length:Int):=by
   have h1:=S5 (n:=t7) (d:=l.length) aes (by rw [hl,akW,Int.sub_zero,hdp])
   have:=(cn.1 aes).1;omega
  have h70:=(cn.1 aes).1
  have iu:i < l.length→ar (nth ab l i)=false→qY (ai,aj,ak,an,ag,ao,ah,aq) t7 i (nth ab l i)=true→false=oz (ai,aj,ak,an,ag,ao,ah,aq) (t1,t2,t3,t4,t5,t6,t7):=fun h h2 h3=>by rw [hM,←hs,cJ h,wK (s:=(ai,aj,ak,an,ag,ao,ah,aq)) (p:=nth ab l i) h2 h3]
  have hnh:(!(bA (ai,aj,ak,an,ag,ao,ah,aq) (nth ab l i)).2)=true→ar (nth ab l i)=false:=fun h=>by
   cases hh:ar (nth ab l i) with
   |false=>rfl
   |true=>rw [fL hh] at h;cases h
  have hnl:decide ((nth ab l i).2.2.2.2≠0)=true→ar (nth ab l i)=false:=fun h=>by
   cases hh:ar (nth ab l i) with
   |false=>rfl
   |true=>exact absurd (XP hh) (cw (p:=¬(nth ab l i).2.2.2.2=0) h)
  refine ⟨fun w1=>⟨⟨?_,?_⟩,?_,⟨⟨tv,⟨tv,tv,tv,tv,tv,tv⟩,tv⟩,fun x2 w3=>?_,?_,?_⟩,fun x4 w5=>⟨tv,fun w6=>?_,fun w7=>⟨tv,fun w8=>?_,fun w9=>⟨tv,fun df=>⟨⟨⟨⟨tv,tv,tv,tv,tv,tv⟩,tv⟩,tv⟩,fun kx dC=>⟨fun iA=>?_,fun gx=>⟨⟨?_,?_⟩,?_⟩⟩⟩,fun oU=>⟨⟨?_,?_⟩,?_⟩⟩⟩⟩⟩,fun j9=>⟨⟨?_,?_,?_,?_⟩,?_⟩⟩
  all_goals first|refine au ?_|refine aw ?_|exact sa|(dsimp only [cu,di];omega)|(dsimp only [gF,ie];omega)|(dsimp only [cx,cM];omega)|(dsimp only [kn,kJ];omega)|(dsimp only [kD,k8];omega)|(dsimp only [bB,bV];omega)|exact sb|exact dA.2|exact dA.1|exact (hft (cg w1)).ok|exact dA.2 _ (by assumption)|exact h70|exact hlm|skip
  ·refine ⟨[],[],_,_,_,rfl,rp,false,1,(iu (cg w1) (hnh w6) (ZY (s:=(ai,aj,ak,an,ag,ao,ah,aq)) w6)),?_,?_,rfl⟩
   ·(show _=bN (ai,aj,ak,an,ag,ao,ah,aq) (t1,t2,t3,t4,t5,t6,t7) false);unfold bN;first |(rw [rfl];rfl) |rfl
   ·(show _=cf (ai,aj,ak,an,ag,ao,ah,aq) (t1,t2,t3,t4,t5,t6,t7) false);unfold cf;first |(rw [rfl];rfl) |rfl
  ·refine ⟨[],[],_,_,_,rfl,rp,false,1,(iu (cg w1) (hnl w8) (ZX (s:=(ai,aj,ak,an,ag,ao,ah,aq)) w8)),?_,?_,rfl⟩
   ·(show _=bN (ai,aj,ak,an,ag,ao,ah,aq) (t1,t2,t3,t4,t5,t6,t7) false);unfold bN;first |(rw [rfl];rfl) |rfl
   ·(show _=cf (ai,aj,ak,an,ag,ao,ah,aq) (t1,t2,t3,t4,t5,t6,t7) false);unfold cf;first |(rw [rfl];rfl) |rfl
  ·refine ⟨[],[],_,_,_,rfl,rp,false,1,(iu (cg w1) (qV iA) (ZV (s:=(ai,aj,ak,an,ag,ao,ah,aq)) df)),?_,?_,rfl⟩
   ·(show _=bN (ai,aj,ak,an,ag,ao,ah,aq) (t1,t2,t3,t4,t5,t6,t7) false);unfold bN;first |(rw [rfl];rfl) |rfl
   ·(show _=cf (ai,aj,ak,an,ag,ao,ah,aq) (t1,t2,t3,t4,t5,t6,t7) false);unfold cf;first |(rw [rfl];rfl) |rfl
  ·refine ⟨(i+1),[],?_,?_,?_⟩
   rotate_right
   ·exact rq
   ·exact ⟨cg w1,by rw [←hs,cJ (cg w1),FB (s:=(ai,aj,ak,an,ag,ao,ah,aq)) (p:=nth ab l i) (cB gx)];rfl⟩
   ·show l.length - (i+1) < l.length - i;have:=cg w1;omega
  ·refine ⟨(i+1),[],?_,?_,?_⟩
   rotate_right
   ·exact rq
   ·refine ⟨cg w1,?_⟩
    rw [←hs,cJ (cg w1)]
    cases hh:ar (nth ab l i) with
    |true=>rw [FB (s:=(ai,aj,ak,an,ag,ao,ah,aq)) (p:=nth ab l i) hh];rfl
    |false=>rw [O4 (s:=(ai,aj,ak,an,ag,ao,ah,aq)) (p:=nth ab l i) hh (O5 (s:=(ai,aj,ak,an,ag,ao,ah,aq)) w7 w9 (decide_eq_false (by have:=(hft (cg w1)).b;omega)) oU)];rfl
   ·show l.length - (i+1) < l.length - i;have:=cg w1;omega
  ·have FJ:¬i < l.length:=by have:=ca (p:=(i:Int) < (l.length:Int)) j9;omega
   have e:oz (ai,aj,ak,an,ag,ao,ah,aq) (t1,t2,t3,t4,t5,t6,t7)=true:=by rw [hM,←hs,List.drop_eq_nil_of_le (by omega)];rfl
   have e2:(bn (ai,aj,ak,an,ag,ao,ah,aq) (t1,t2,t3,t4,t5,t6,t7)).1=l:=by rw [hE]
   refine ⟨[1019],[],_,_,_,rfl,rp,true,0,(show true=oz (ai,aj,ak,an,ag,ao,ah,aq) (t1,t2,t3,t4,t5,t6,t7) from e.symm),?_,?_,rfl⟩
   ·(show _=bN (ai,aj,ak,an,ag,ao,ah,aq) (t1,t2,t3,t4,t5,t6,t7) true);unfold bN;first |(rw [e2];rfl) |rfl
   ·(show _=cf (ai,aj,ak,an,ag,ao,ah,aq) (t1,t2,t3,t4,t5,t6,t7) true);unfold cf;first |(rw [e2];rfl) |rfl
end GL
namespace GL
noncomputable section
def yq (l:List Pt):Prop:=l.length≤1000000
def V2 (l:List Pt) (z:Bool):Prop:=z=true→l=[]
def pD (l:List Pt) (z:Bool):AV:=match z with |true=>.s (.v (.slice none 0 0)) |false=>.s (.xs 0 5 0 l.length)
def se (l:List Pt) (z:Bool):List AV:=match z with |true=>[.zz] |false=>[.rs ab l]
def J5:Con where
 A:=[.s (.vz ab)]
 B:=[]
 pre:=fun x b=>yq x
 α:=fun _ _=>Bool
 φ:=fun x b z=>V2 x z
 r:=fun x b z=>pD x z
 o:=fun x b z=>se x z
 nf:=1
set_option maxRecDepth 100000 in
theorem aeb:Has Tryz.prog 14 J5:=by
 refine Has.ofZI (fun _=>true) (fun _=>false) (fun _=>false) (l:=[]) trivial (fn:=Tryz.f14) Tryz.func14 rfl (by decide) (cH rfl) ?_
 rintro (l:List Pt) _ (hp:yq l)
 show vc _ _ _ _ (entry [.s (.vz ab l)] []) _
 have hp:l.length≤1000000:=hp
 refine ⟨?_,fun |false=>fun w1=>⟨fun w2=>?_,fun w3=>⟨tv,⟨⟨?_,?_⟩,tv⟩,?_⟩⟩ |true=>fun w4=>⟨fun w5=>?_,fun w6=>⟨tv,⟨⟨?_,?_⟩,tv⟩,?_⟩⟩⟩
 all_goals first|refine au ?_|refine aw ?_|exact sa|exact sb|(show 0+l.length≤1048576;omega)|exact ⟨false,fun h=>by cases h⟩|skip
 ·cases w2
 ·refine ⟨[1007],[],_,_,_,rfl,rp,false,0,(w1),?_,?_,rfl⟩
  ·(show _=pD l false);unfold pD;first |((show AV.s (.xs 0 5 0 (0+l.length))=AV.s (.xs 0 5 0 l.length);rw [Nat.zero_add])) |((show [AV.rs ab ([]++l)]=[AV.rs ab l];rfl)) |rfl
  ·(show _=se l false);unfold se;first |((show AV.s (.xs 0 5 0 (0+l.length))=AV.s (.xs 0 5 0 l.length);rw [Nat.zero_add])) |((show [AV.rs ab ([]++l)]=[AV.rs ab l];rfl)) |rfl
 ·refine ⟨[],[],_,_,_,rfl,rp,true,1,(w4),?_,?_,rfl⟩
  ·(show _=pD l true);unfold pD;first |(rw [rfl];rfl) |rfl
  ·(show _=se l true);unfold se;first |(rw [rfl];rfl) |rfl
 ·cases w6
def gI (s:ax) (t:aZ):List Pt×Bool:=bif gz s&&oz s t then ((bn s t).1.take t.many.toNat,true) else ([],false)
theorem zi {s:ax} {t:aZ}:(gI s t).2=(gz s&&oz s t):=by unfold gI;cases gz s&&oz s t<;>rfl
theorem aaO {s:ax} {t:aZ} (h:gz s=false):gI s t=([],false):=by unfold gI;rw [h];rfl
theorem LB {s:ax} {t:aZ} (h:oz s t=false):gI s t=([],false):=by unfold gI;rw [h,Bool.and_false];rfl
theorem LA {s:ax} {t:aZ} (h:gz s=true) (h2:oz s t=true):gI s t=((bn s t).1.take t.many.toNat,true):=by unfold gI;rw [h,h2];rfl
theorem KK.rd {s:ax} (k:KK s):s.rd:=⟨k.len,fun x hx=>by
 obtain ⟨i,hi,rfl⟩:=List.getElem_of_mem hx
 have h1:=(k.row i (by have:=k.len;omega)).1
 unfold nth at h1;rw [List.getElem?_eq_getElem hi] at h1;exact Nat.le_trans h1 (by omega)⟩
theorem OX {s:ax} {t:aZ} (h:oz s t=true):lf t=false:=by
 cases hb:lf t with
 |false=>rfl
 |true=>rw [DR hb] at h;cases h
theorem ahD {s:ax} {t:aZ} (h:oz s t=true):t.rd:=HP (OX h)
theorem S9 {s:ax}:∀ {f:Nat} {lv:Int} {l:List Pt},lv < (f:Int)→(tE s f lv l).2=true→(tE s f lv l).1.length=l.length * 4 ^ lv.toNat
 |0,lv,l,h,_=>by
  rw [show lv.toNat=0 by omega];exact (Nat.mul_one _).symm
 |f+1,lv,l,h,h2=>by
  cases hp:decide (lv > 0) with
  |false=>
   have:=ca hp
   rw [vu hp,show lv.toNat=0 by omega];exact (Nat.mul_one _).symm
  |true=>
   have hp':=cw hp
   match e:fo s lv l [] with
   |none=>rw [H4 hp e] at h2;cases h2
   |some n=>
    rw [CD hp e] at h2 ⊢
    rw [S9 (by omega) h2,rT e,show lv.toNat=(lv - 1).toNat+1 by omega,Nat.pow_succ]
    show (0+4 * l.length) * _=_
    rw [Nat.zero_add,Nat.mul_comm 4,Nat.mul_assoc,Nat.mul_comm 4]
theorem SM {s:ax} {t:aZ} (h:oz s t=true):t.many.toNat≤(bn s t).1.length:=by
 have hb:=OX h
 have hl:(bn s t).2=true:=by
  cases hl: !(bn s t).2 with
  |false=>exact cB hl
  |true=>rw [ZK hb hl] at h;cases h
 unfold lf at hb
 simp only [Bool.or_eq_false_iff,decide_eq_false_iff_not,Decidable.not_not] at hb
 obtain ⟨h1,h2,h3⟩:=hb
 have:=o9 t.many
 refine S5 (cB h1) ?_
 have e:=S9 (s:=s) (f:=3) (lv:=t.depth) (l:=[t.root]) (by omega) hl
 rw [←h2];exact e.trans (Nat.one_mul _)
def kz (S:ax) (t:aZ):Prop:=S.gone.length≤1000000∧S.dead.length≤1000000
def EO (S:ax) (t:aZ) (z:Bool):Prop:=z=true→(gI S t).1=[]
def cU (S:ax) (t:aZ) (z:Bool):AV:=.t [match z with |true=>.s (.v (.slice none 0 0)) |false=>.s (.xs 0 5 0 (gI S t).1.length), .s (.q (gI S t).2)]
def dj (S:ax) (t:aZ) (z:Bool):List AV:=match z with |true=>[.zz] |false=>[.rs ab (gI S t).1]
def ko:Con where
 A:=[.a xw, .a [.int, .int, .int, .int, .int, .int, .int]]
 B:=[]
 pre:=fun x b=>kz (x.1) (x.2)
 α:=fun _ _=>Bool
 φ:=fun x b z=>EO (x.1) (x.2) z
 r:=fun x b z=>cU (x.1) (x.2) z
 o:=fun x b z=>dj (x.1) (x.2) z
 nf:=1
set_option maxRecDepth 100000 in
theorem xC:Has Tryz.prog 7 ko:=by
 refine Has.ofZI (fun _=>true) (fun _=>false) (fun d=>d==17) (l:=[(12,y5),(13,DC),(14,J5)]) ⟨XF,abX,aeb,trivial⟩ (fn:=Tryz.f7) Tryz.func7 rfl (by decide) (cH rfl) ?_
 rintro ⟨⟨(ai:List ByteArray),(aj:List Int),(ak:List Int),(an:Int),(ag:List Pt),(ao:Int),(ah:List Pt),(aq:Bool)⟩,⟨(t1:Int),(t2:Int),(t3:Int),(t4:Int),(t5:Int),(t6:Int),(t7:Int)⟩⟩ _ (hp:kz (ai,aj,ak,an,ag,ao,ah,aq) (t1,t2,t3,t4,t5,t6,t7))
 show vc _ _ _ _ (entry [.a [.vz aa ai, .vz ae aj, .vz ae ak, .int an, .vz ab ag, .int ao, .vz ab ah, .q aq], .a [.int t1, .int t2, .int t3, .int t4, .int t5, .int t6, .int t7]] []) _
 obtain ⟨hg,hd⟩:=hp
 have hk:(!(gz (ai,aj,ak,an,ag,ao,ah,aq)))=false→KK (ai,aj,ak,an,ag,ao,ah,aq):=fun h=>QS.1 (cB h)
 have dA:(!(gz (ai,aj,ak,an,ag,ao,ah,aq)))=false→ax.rd (ai,aj,ak,an,ag,ao,ah,aq):=fun h=>(hk h).rd
 have hlen:∀b:Bool,b=oz (ai,aj,ak,an,ag,ao,ah,aq) (t1,t2,t3,t4,t5,t6,t7)→b=true→(bn (ai,aj,ak,an,ag,ao,ah,aq) (t1,t2,t3,t4,t5,t6,t7)).1.length≤16:=fun b h h2=>qX (ahD (h ▸ h2))
 refine ⟨⟨⟨⟨tv,tv,tv,tv,tv,tv,tv,tv,tv⟩,tv⟩,?_,?_⟩,fun x1 w2=>⟨fun w3=>?_,fun w4=>⟨⟨⟨tv,⟨tv,tv,tv,tv,tv,tv,tv,tv⟩,tv⟩,?_,?_⟩,fun |false=>fun w5=>⟨⟨⟨tv,tv⟩,?_⟩,fun |false=>fun w6=>?_ |true=>fun w7=>?_⟩ |true=>fun w8=>⟨⟨⟨?_,tv⟩,?_⟩,fun |false=>fun w9=>?_ |true=>fun df=>?_⟩⟩⟩⟩
 all_goals first|refine au ?_|refine aw ?_|exact sa|(dsimp only [y5,tj];omega)|(dsimp only [DC,vh];omega)|(dsimp only [J5,yq];omega)|exact sb|exact hg|exact hd|exact dA w4|(show 0≤an;have h:1≤an∧an≤900:=(hk w4).bY;omega)|exact Nat.zero_le _|(show 0+t7.toNat≤_;rw [Nat.zero_add];exact SM (s:=(ai,aj,ak,an,ag,ao,ah,aq)) (t:=(t1,t2,t3,t4,t5,t6,t7)) (show true=oz (ai,aj,ak,an,ag,ao,ah,aq) (t1,t2,t3,t4,t5,t6,t7) from w8).symm)|(show (List.take _ _).length≤1000000;have:=hlen true w8 rfl;rw [List.length_take];exact Nat.le_trans (Nat.min_le_right _ _) (Nat.le_trans this (by decide)))|skip
 ·have e:=aaO (s:=(ai,aj,ak,an,ag,ao,ah,aq)) (t:=(t1,t2,t3,t4,t5,t6,t7)) (qV w3)
  refine ⟨[],[],_,_,_,rfl,rp,true,1,(fun _=>show (gI (ai,aj,ak,an,ag,ao,ah,aq) (t1,t2,t3,t4,t5,t6,t7)).1=[] by rw [e]),?_,?_,rfl⟩
  ·(show _=cU (ai,aj,ak,an,ag,ao,ah,aq) (t1,t2,t3,t4,t5,t6,t7) true);unfold cU;first |(rw [e];rfl) |rfl
  ·(show _=dj (ai,aj,ak,an,ag,ao,ah,aq) (t1,t2,t3,t4,t5,t6,t7) true);unfold dj;first |(rw [e];rfl) |rfl
 ·have e:=LB (s:=(ai,aj,ak,an,ag,ao,ah,aq)) (t:=(t1,t2,t3,t4,t5,t6,t7)) (show false=oz (ai,aj,ak,an,ag,ao,ah,aq) (t1,t2,t3,t4,t5,t6,t7) from w5).symm
  refine ⟨[180000],[],_,_,_,rfl,rp,false,0,(fun h=>by cases h),?_,?_,rfl⟩
  ·(show _=cU (ai,aj,ak,an,ag,ao,ah,aq) (t1,t2,t3,t4,t5,t6,t7) false);unfold cU;first |(rw [e];rfl) |rfl
  ·(show _=dj (ai,aj,ak,an,ag,ao,ah,aq) (t1,t2,t3,t4,t5,t6,t7) false);unfold dj;first |(rw [e];rfl) |rfl
 ·have e:=LB (s:=(ai,aj,ak,an,ag,ao,ah,aq)) (t:=(t1,t2,t3,t4,t5,t6,t7)) (show false=oz (ai,aj,ak,an,ag,ao,ah,aq) (t1,t2,t3,t4,t5,t6,t7) from w5).symm
  refine ⟨[],[],_,_,_,rfl,rp,true,1,(fun _=>show (gI (ai,aj,ak,an,ag,ao,ah,aq) (t1,t2,t3,t4,t5,t6,t7)).1=[] by rw [e]),?_,?_,rfl⟩
  ·(show _=cU (ai,aj,ak,an,ag,ao,ah,aq) (t1,t2,t3,t4,t5,t6,t7) true);unfold cU;first |(rw [e];rfl) |rfl
  ·(show _=dj (ai,aj,ak,an,ag,ao,ah,aq) (t1,t2,t3,t4,t5,t6,t7) true);unfold dj;first |(rw [e];rfl) |rfl
 ·have e:=LA (s:=(ai,aj,ak,an,ag,ao,ah,aq)) (t:=(t1,t2,t3,t4,t5,t6,t7)) (cB w4) (show true=oz (ai,aj,ak,an,ag,ao,ah,aq) (t1,t2,t3,t4,t5,t6,t7) from w8).symm
  refine ⟨[180000],[],_,_,_,rfl,rp,false,0,(fun h=>by cases h),?_,?_,rfl⟩
  ·(show _=cU (ai,aj,ak,an,ag,ao,ah,aq) (t1,t2,t3,t4,t5,t6,t7) false);unfold cU;first |(rw [e];rfl) |rfl
  ·(show _=dj (ai,aj,ak,an,ag,ao,ah,aq) (t1,t2,t3,t4,t5,t6,t7) false);unfold dj;first |(rw [e];rfl) |rfl
 ·have e:=LA (s:=(ai,aj,ak,an,ag,ao,ah,aq)) (t:=(t1,t2,t3,t4,t5,t6,t7)) (cB w4) (show true=oz (ai,aj,ak,an,ag,ao,ah,aq) (t1,t2,t3,t4,t5,t6,t7) from w8).symm
  refine ⟨[],[],_,_,_,rfl,rp,true,1,(fun _=>show (gI (ai,aj,ak,an,ag,ao,ah,aq) (t1,t2,t3,t4,t5,t6,t7)).1=[] by rw [e];exact df rfl),?_,?_,rfl⟩
  ·(show _=cU (ai,aj,ak,an,ag,ao,ah,aq) (t1,t2,t3,t4,t5,t6,t7) true);unfold cU;first |(rw [e];rfl) |rfl
  ·(show _=dj (ai,aj,ak,an,ag,ao,ah,aq) (t1,t2,t3,t4,t5,t6,t7) true);unfold dj;first |(rw [e];rfl) |rfl
def vi (S:ax) (t:aZ):Prop:=S.gone.length≤1000000∧S.dead.length≤1000000
def nG (S:ax) (t:aZ):AV:=.s (.q (gz S&&oz S t))
def WL (S:ax) (t:aZ):List AV:=[]
def DD:Con where
 A:=[.a xw, .a [.int, .int, .int, .int, .int, .int, .int]]
 B:=[]
 pre:=fun x b=>vi (x.1) (x.2)
 α:=fun _ _=>Unit
 φ:=fun _ _ _=>True
 r:=fun x b _=>nG (x.1) (x.2)
 o:=fun x b _=>WL (x.1) (x.2)
 nf:=0
set_option maxRecDepth 100000 in
theorem abY:Has Tryz.prog 5 DD:=by
 refine Has.ofEI (fun _=>true) (fun _=>false) (fun _=>false) (l:=[(7,ko)]) ⟨xC,trivial⟩ (fn:=Tryz.f5) Tryz.func5 rfl (by decide) (cH rfl) ?_
 rintro ⟨⟨(ai:List ByteArray),(aj:List Int),(ak:List Int),(an:Int),(ag:List Pt),(ao:Int),(ah:List Pt),(aq:Bool)⟩,⟨(t1:Int),(t2:Int),(t3:Int),(t4:Int),(t5:Int),(t6:Int),(t7:Int)⟩⟩ _ (hp:vi (ai,aj,ak,an,ag,ao,ah,aq) (t1,t2,t3,t4,t5,t6,t7))
 show vc _ _ _ _ (entry [.a [.vz aa ai, .vz ae aj, .vz ae ak, .int an, .vz ab ag, .int ao, .vz ab ah, .q aq], .a [.int t1, .int t2, .int t3, .int t4, .int t5, .int t6, .int t7]] []) _
 obtain ⟨hg,hd⟩:=hp
 refine ⟨⟨⟨⟨tv,tv,tv,tv,tv,tv,tv,tv,tv⟩,⟨tv,tv,tv,tv,tv,tv,tv,tv⟩,tv⟩,?_,?_⟩,fun |false=>fun w1=>?_ |true=>fun w2=>?_⟩
 all_goals first|refine au ?_|refine aw ?_|exact sa|(dsimp only [ko,kz];omega)|exact sb|exact hg|exact hd|skip
 ·refine ⟨[],[],_,_,_,rfl,rp,(),tv,?_,?_,rfl⟩
  ·(show _=nG (ai,aj,ak,an,ag,ao,ah,aq) (t1,t2,t3,t4,t5,t6,t7));unfold nG;first |(rw [←zi (s:=(ai,aj,ak,an,ag,ao,ah,aq)) (t:=(t1,t2,t3,t4,t5,t6,t7))];rfl) |rfl
  ·rfl
 ·refine ⟨[],[],_,_,_,rfl,rp,(),tv,?_,?_,rfl⟩
  ·(show _=nG (ai,aj,ak,an,ag,ao,ah,aq) (t1,t2,t3,t4,t5,t6,t7));unfold nG;first |(rw [←zi (s:=(ai,aj,ak,an,ag,ao,ah,aq)) (t:=(t1,t2,t3,t4,t5,t6,t7))];rfl) |rfl
  ·rfl
end
end GL
end Go.Proofs.YtbfgjadbfjkcdaaGreatDoor
