/- FnTreeOk returns true for every code (its row lists package variables, tied by the card): part 16 of 39. -/
import Derived.Test.YtbfgjadbfjkcdaaGreatDoorPao
set_option maxHeartbeats 20000000
set_option linter.all false
namespace Go.Proofs.YtbfgjadbfjkcdaaGreatDoor
namespace GL
def nV (l:List Pt):Bool:= !(l.any fun p=> !(ar p))
def tc (l:List Pt):Prop:=l.length≤1000000
def pv (l:List Pt):AV:=.q (nV l)
def abg (l:List Pt):List AV:=[]
def JW:Con where
 A:=[.s (.vz ab)]
 B:=[]
 pre:=fun x b=>tc x
 α:=fun _ _=>Unit
 φ:=fun _ _ _=>True
 r:=fun x b _=>pv x
 o:=fun x b _=>abg x
 nf:=0
set_option maxRecDepth 100000 in
theorem ad0:Has Tryz.prog 120 JW:=by
 refine Has.ofE (fun _=>true) (fun _=>false) (fun _=>false) (l:=[(26,bc)]) ⟨cr,trivial⟩ (fn:=Tryz.f120) Tryz.func120 rfl (by decide) (cH rfl) ?_
 rintro (l:List Pt) _ (hp:tc l)
 show vc _ _ _ _ (entry [.s (.vz ab l)] []) _
 unfold tc at hp
 refine cI (l:=[(26,bc)]) (ex:=fun _=>true) (wr:=fun _=>false) (pt:=fun _=>false) ⟨cr,tv⟩ [.s 0] (fun i:Nat=>[(.s 3, .int i)]) (fun i=>i≤l.length∧(l.drop i).any (fun p=> !(ar p))=l.any (fun p=> !(ar p))) (fun i=>l.length - i) 0 [] ⟨Nat.zero_le _,rfl⟩ ru ?_
 rintro i ⟨hi,hr⟩
 have cg:decide ((i:Int) < (l.length:Int))=true→i < l.length:=fun h=>by have:=cw h;omega
 have ob:decide ((i:Int) < (l.length:Int))=false→¬i < l.length:=fun h=>by have:=ca h;omega
 refine ⟨fun w1=>⟨⟨?_,?_⟩,⟨⟨⟨tv,tv,tv,tv,tv,tv⟩,tv⟩,tv⟩,fun x2 w3=>⟨fun w4=>?_,fun w5=>⟨⟨?_,?_⟩,?_⟩⟩⟩,fun w6=>?_⟩
 all_goals first|refine au ?_|refine aw ?_|exact sa|(dsimp only [bc,bW];omega)|exact sb|skip
 ·have e:nV l=false:=by unfold nV;rw [YN (cg w1) hr w4];rfl
  refine ⟨[],[],_,_,_,rfl,rp,(),tv,?_,?_,rfl⟩
  ·(show _=pv l);unfold pv;first |(rw [e];rfl) |rfl
  ·rfl
 ·refine ⟨(i+1),[],?_,?_,?_⟩
  rotate_right
  ·exact rq
  ·exact ⟨cg w1,afC (cg w1) hr w5⟩
  ·show l.length - (i+1) < l.length - i;have:=cg w1;omega
 ·have e:nV l=true:=by unfold nV;rw [YO (ob w6) hr];rfl
  refine ⟨[],[],_,_,_,rfl,rp,(),tv,?_,?_,rfl⟩
  ·(show _=pv l);unfold pv;first |(rw [e];rfl) |rfl
  ·rfl
def qY (s:ax) (many i:Int) (p:Pt):Bool:= !(bA s p).2||(decide (p.2.2.2.2≠0)||(decide (p.2.1 > s.bY)||decide (i≥many)))
def j3 (s:ax) (many:Int):Int→List Pt→Bool
 |_,[]=>true
 |i,p::l=>bif ar p then j3 s many (i+1) l else bif qY s many i p then false else j3 s many (i+1) l
def lf (t:aZ):Bool:= !(ir t.many 0 16)||(decide (t.depth≠bb t.many)|| !(aV t.root))
def oz (s:ax) (t:aZ):Bool:=bif lf t then false else bif !(bn s t).2 then false else j3 s t.many 0 (bn s t).1
theorem DR {s:ax} {t:aZ} (h:lf t=true):oz s t=false:=by unfold oz;rw [h];rfl
theorem ZK {s:ax} {t:aZ} (h:lf t=false) (h2:(!(bn s t).2)=true):oz s t=false:=by unfold oz;rw [h,h2];rfl
theorem ZJ {s:ax} {t:aZ} (h:lf t=false) (h2:(!(bn s t).2)=false):oz s t=j3 s t.many 0 (bn s t).1:=by unfold oz;rw [h,h2];rfl
theorem ZN {t:aZ} (h:(!(ir t.many 0 16))=true):lf t=true:=by unfold lf;rw [h];rfl
theorem ZM {t:aZ} (h:decide (t.depth≠bb t.many)=true):lf t=true:=by unfold lf;rw [h,Bool.true_or,Bool.or_true]
theorem ZL {t:aZ} (h:(!(aV t.root))=true):lf t=true:=by unfold lf;rw [h,Bool.or_true,Bool.or_true]
theorem zD {t:aZ} (h1:(!(ir t.many 0 16))=false) (h2:decide (t.depth≠bb t.many)=false) (h3:(!(aV t.root))=false):lf t=false:=by unfold lf;rw [h1,h2,h3];rfl
theorem HP {t:aZ} (h:lf t=false):t.rd:=by
 unfold lf at h
 simp only [Bool.or_eq_false_iff,decide_eq_false_iff_not,Decidable.not_not] at h
 obtain ⟨h1,h2,h3⟩:=h
 exact ⟨by rw [h2];exact (o9 _).2,cB h3⟩
theorem FB {s:ax} {many i:Int} {p:Pt} {l:List Pt} (h:ar p=true):j3 s many i (p::l)=j3 s many (i+1) l:=by rw [j3,h];rfl
theorem wK {s:ax} {many i:Int} {p:Pt} {l:List Pt} (h:ar p=false) (hb:qY s many i p=true):j3 s many i (p::l)=false:=by rw [j3,h,hb];rfl
theorem O4 {s:ax} {many i:Int} {p:Pt} {l:List Pt} (h:ar p=false) (hb:qY s many i p=false):j3 s many i (p::l)=j3 s many (i+1) l:=by rw [j3,h,hb];rfl
theorem ZY {s:ax} {many i:Int} {p:Pt} (h:(!(bA s p).2)=true):qY s many i p=true:=by unfold qY;rw [h];rfl
theorem ZX {s:ax} {many i:Int} {p:Pt} (h:decide (p.2.2.2.2≠0)=true):qY s many i p=true:=by unfold qY;rw [h,Bool.true_or,Bool.or_true]
theorem ZW {s:ax} {many i:Int} {p:Pt} (h:decide (p.2.1 > s.bY)=true):qY s many i p=true:=by unfold qY;rw [h,Bool.true_or,Bool.or_true,Bool.or_true]
theorem ZV {s:ax} {many i:Int} {p:Pt} (h:decide (i≥many)=true):qY s many i p=true:=by unfold qY;rw [h,Bool.or_true,Bool.or_true,Bool.or_true]
theorem O5 {s:ax} {many i:Int} {p:Pt} (h1:(!(bA s p).2)=false) (h2:decide (p.2.2.2.2≠0)=false) (h3:decide (p.2.1 > s.bY)=false) (h4:decide (i≥many)=false):qY s many i p=false:=by unfold qY;rw [h1,h2,h3,h4];rfl
def zw (S:ax) (t:aZ):Prop:=S.rd
def dX (S:ax) (t:aZ):AV:=.q (oz S t)
def afM (S:ax) (t:aZ):List AV:=[]
def JV:Con where
 A:=[.a xw, .a [.int, .int, .int, .int, .int, .int, .int]]
 B:=[]
 pre:=fun x b=>zw (x.1) (x.2)
 α:=fun _ _=>Unit
 φ:=fun _ _ _=>True
 r:=fun x b _=>dX (x.1) (x.2)
 o:=fun x b _=>afM (x.1) (x.2)
 nf:=0
set_option maxRecDepth 100000 in
theorem adZ:Has Tryz.prog 11 JV:=by
 refine Has.ofE (fun _=>true) (fun _=>false) (fun _=>false) (l:=[(24,dy),(27,dx),(25,cS),(28,kP),(26,bc),(29,et)]) ⟨im,jM,iq,yK,cr,lZ,trivial⟩ (fn:=Tryz.f11) Tryz.func11 rfl (by decide) (cH rfl) ?_
 rintro ⟨⟨(ai:List ByteArray),(aj:List Int),(ak:List Int),(an:Int),(ag:List Pt),(ao:Int),(ah:List Pt),(aq:Bool)⟩,⟨(t1:Int),(t2:Int),(t3:Int),(t4:Int),(t5:Int),(t6:Int),(t7:Int)⟩⟩ _ (hp:zw (ai,aj,ak,an,ag,ao,ah,aq) (t1,t2,t3,t4,t5,t6,t7))
 show vc _ _ _ _ (entry [.a [.vz aa ai, .vz ae aj, .vz ae ak, .int an, .vz ab ag, .int ao, .vz ab ah, .q aq], .a [.int t1, .int t2, .int t3, .int t4, .int t5, .int t6, .int t7]] []) _
 have dA:ax.rd (ai,aj,ak,an,ag,ao,ah,aq):=hp
 have akM:ai.length=64:=dA.len
 refine ⟨[.s 3],[.s 11],rfl,[.s 11, .b 1003],[.s 12],rfl,[.s 12],[.s 13],rfl,⟨⟨tv,tv,tv,tv⟩,tv⟩,?_,fun x1 w2=>⟨[.s 13],[.s 14],rfl,[.s 14],[.s 15],rfl,tv,fun w3=>⟨[.s 15],[.s 16],rfl,[.s 15],[.s 17],rfl,[.s 15],[.s 18],rfl,[.s 15],[.s 19],rfl,[.s 15],[.s 20],rfl,[.s 15],[.s 21],rfl,[.s 15, .s 21],[.s 22],rfl,[.s 22],[.s 23],rfl,[.s 23],[.s 24],rfl,[.s 23],[.s 25],rfl,[.s 23],[.s 26],rfl,[.s 23],[.s 27],rfl,[.s 23, .s 27],[.s 28],rfl,?_⟩,fun w4=>⟨[.s 15, .s 3],[.s 16],rfl,[.s 15, .s 16, .b 1003],[.s 17],rfl,[.s 15, .s 3],[.s 18],rfl,[.s 15, .s 18, .b 1003],[.s 19],rfl,[.s 15, .s 19],[.s 20],rfl,⟨⟨tv,tv⟩,tv⟩,?_,fun x5 w6=>⟨[.s 15, .s 17, .s 20],[.s 21],rfl,[.s 15, .s 21],[.s 22],rfl,[.s 22],[.s 23],rfl,tv,fun w7=>⟨[.s 23],[.s 24],rfl,[.s 23],[.s 25],rfl,[.s 23],[.s 26],rfl,[.s 23],[.s 27],rfl,[.s 23, .s 27],[.s 28],rfl,?_⟩,fun w8=>⟨[.s 23, .s 3],[.s 24],rfl,[.s 23, .s 24, .b 1003],[.s 25],rfl,[.s 23, .s 25],[.s 26],rfl,⟨⟨⟨tv,tv,tv,tv,tv,tv⟩,tv⟩,tv⟩,?_,fun x9 df=>⟨[.s 23, .s 26],[.s 27],rfl,[.s 23, .s 27],[.s 28],rfl,fun ka=>?_,fun dC=>⟨⟨⟨⟨tv,tv,tv,tv,tv,tv,tv,tv,tv⟩,⟨tv,tv,tv,tv,tv,tv,tv,tv⟩,tv⟩,?_,?_⟩,fun rP gx=>⟨fun oU=>?_,fun j9=>?_⟩⟩⟩⟩⟩⟩⟩⟩
 all_goals first|refine au ?_|refine aw ?_|exact sa|(dsimp only [dy,gO];omega)|(dsimp only [dx,eX];omega)|(dsimp only [cS,dS];omega)|(dsimp only [kP,lM];omega)|(dsimp only [bc,bW];omega)|(dsimp only [et,fN];omega)|exact sb|exact dA|exact (HP (t:=(t1,t2,t3,t4,t5,t6,t7)) (zD w4 w8 dC)).dep|skip
 ·refine ⟨[],[],_,_,_,rfl,rp,(),tv,?_,?_,rfl⟩
  ·(show _=dX (ai,aj,ak,an,ag,ao,ah,aq) (t1,t2,t3,t4,t5,t6,t7));unfold dX;first |(rw [DR (s:=(ai,aj,ak,an,ag,ao,ah,aq)) (t:=(t1,t2,t3,t4,t5,t6,t7)) (ZN w3)];rfl) |rfl
  ·rfl
 ·refine ⟨[],[],_,_,_,rfl,rp,(),tv,?_,?_,rfl⟩
  ·(show _=dX (ai,aj,ak,an,ag,ao,ah,aq) (t1,t2,t3,t4,t5,t6,t7));unfold dX;first |(rw [DR (s:=(ai,aj,ak,an,ag,ao,ah,aq)) (t:=(t1,t2,t3,t4,t5,t6,t7)) (ZM w7)];rfl) |rfl
  ·rfl
 ·refine ⟨[],[],_,_,_,rfl,rp,(),tv,?_,?_,rfl⟩
  ·(show _=dX (ai,aj,ak,an,ag,ao,ah,aq) (t1,t2,t3,t4,t5,t6,t7));unfold dX;first |(rw [DR (s:=(ai,aj,ak,an,ag,ao,ah,aq)) (t:=(t1,t2,t3,t4,t5,t6,t7)) (ZL ka)];rfl) |rfl
  ·rfl
 ·refine ⟨[],[],_,_,_,rfl,rp,(),tv,?_,?_,rfl⟩
  ·(show _=dX (ai,aj,ak,an,ag,ao,ah,aq) (t1,t2,t3,t4,t5,t6,t7));unfold dX;first |(rw [ZK (s:=(ai,aj,ak,an,ag,ao,ah,aq)) (t:=(t1,t2,t3,t4,t5,t6,t7)) (zD w4 w8 dC) oU];rfl) |rfl
  ·rfl
 ·have hB:=zD (t:=(t1,t2,t3,t4,t5,t6,t7)) w4 w8 dC
  have hM:=ZJ (s:=(ai,aj,ak,an,ag,ao,ah,aq)) (t:=(t1,t2,t3,t4,t5,t6,t7)) hB j9
  have sP:aZ.rd (t1,t2,t3,t4,t5,t6,t7):=HP hB
  have hl:=qX (s:=(ai,aj,ak,an,ag,ao,ah,aq)) sP
  have cq:=H8 (s:=(ai,aj,ak,an,ag,ao,ah,aq)) sP
  refine cI (l:=[(24,dy),(27,dx),(25,cS),(28,kP),(26,bc),(29,et)]) (ex:=fun _=>true) (wr:=fun _=>false) (pt:=fun _=>false) ⟨im,jM,iq,yK,cr,lZ,tv⟩ [.s 2, .b 1002, .s 3, .b 1003, .s 5, .b 330000] (fun i:Nat=>[(.s 7, .int i)]) (fun i=>i≤(bn (ai,aj,ak,an,ag,ao,ah,aq) (t1,t2,t3,t4,t5,t6,t7)).1.length∧j3 (ai,aj,ak,an,ag,ao,ah,aq) t7 i ((bn (ai,aj,ak,an,ag,ao,ah,aq) (t1,t2,t3,t4,t5,t6,t7)).1.drop i)=j3 (ai,aj,ak,an,ag,ao,ah,aq) t7 0 (bn (ai,aj,ak,an,ag,ao,ah,aq) (t1,t2,t3,t4,t5,t6,t7)).1) (fun i=>(bn (ai,aj,ak,an,ag,ao,ah,aq) (t1,t2,t3,t4,t5,t6,t7)).1.length - i) 0 [] ⟨Nat.zero_le _,rfl⟩ ru ?_
  rintro i ⟨hi,hr⟩
  have cg:decide ((i:Int) < ((bn (ai,aj,ak,an,ag,ao,ah,aq) (t1,t2,t3,t4,t5,t6,t7)).1.length:Int))=true→i < (bn (ai,aj,ak,an,ag,ao,ah,aq) (t1,t2,t3,t4,t5,t6,t7)).1.length:=fun h=>by have:=cw h;omega
  have cJ:i < (bn (ai,aj,ak,an,ag,ao,ah,aq) (t1,t2,t3,t4,t5,t6,t7)).1.length→(bn (ai,aj,ak,an,ag,ao,ah,aq) (t1,t2,t3,t4,t5,t6,t7)).1.drop i=nth ab (bn (ai,aj,ak,an,ag,ao,ah,aq) (t1,t2,t3,t4,t5,t6,t7)).1 i::(bn (ai,aj,ak,an,ag,ao,ah,aq) (t1,t2,t3,t4,t5,t6,t7)).1.drop (i+1):=fun h=>bP (ek:=ab) h
  have ha:=nT (oA cq i)
  refine ⟨fun w1=>⟨⟨?_,?_⟩,?_,⟨⟨⟨tv,tv,tv,tv,tv,tv⟩,tv⟩,tv⟩,fun x2 w3=>⟨fun w4=>⟨⟨?_,?_⟩,?_⟩,fun w5=>⟨⟨⟨⟨tv,tv,tv,tv,tv,tv,tv,tv,tv⟩,⟨tv,tv,tv,tv,tv,tv⟩,tv⟩,fun x6 w7=>?_,?_,?_⟩,fun x8 w9=>⟨tv,fun df=>?_,fun ka=>⟨tv,fun dC=>?_,fun iA=>⟨tv,fun gx=>?_,fun oU=>⟨fun j9=>?_,fun wu=>⟨⟨?_,?_⟩,?_⟩⟩⟩⟩⟩⟩⟩⟩,fun qI=>?_⟩
  all_goals first|refine au ?_|refine aw ?_|exact sa|(dsimp only [dy,gO];omega)|(dsimp only [dx,eX];omega)|(dsimp only [cS,dS];omega)|(dsimp only [kP,lM];omega)|(dsimp only [bc,bW];omega)|(dsimp only [et,fN];omega)|exact sb|exact dA|exact cg w1|exact cw w1|exact dA.sz _ (by assumption)|exact ha.1|(show _ < (ai.length:Int);rw [akM];exact ha.2)|skip
  ·refine ⟨(i+1),[],?_,?_,?_⟩
   rotate_right
   ·exact rq
   ·exact ⟨cg w1,by rw [←hr,cJ (cg w1),FB (s:=(ai,aj,ak,an,ag,ao,ah,aq)) (p:=(nth ab (bn (ai,aj,ak,an,ag,ao,ah,aq) (t1,t2,t3,t4,t5,t6,t7)).1 i)) w4];rfl⟩
   ·show (bn (ai,aj,ak,an,ag,ao,ah,aq) (t1,t2,t3,t4,t5,t6,t7)).1.length - (i+1) < (bn (ai,aj,ak,an,ag,ao,ah,aq) (t1,t2,t3,t4,t5,t6,t7)).1.length - i;have:=cg w1;omega
  ·refine ⟨[],[],_,_,_,rfl,rp,(),tv,?_,?_,rfl⟩
   ·(show _=dX (ai,aj,ak,an,ag,ao,ah,aq) (t1,t2,t3,t4,t5,t6,t7));unfold dX;first |(rw [hM,←hr,cJ (cg w1),wK (s:=(ai,aj,ak,an,ag,ao,ah,aq)) (p:=(nth ab (bn (ai,aj,ak,an,ag,ao,ah,aq) (t1,t2,t3,t4,t5,t6,t7)).1 i)) w5 (ZY (s:=(ai,aj,ak,an,ag,ao,ah,aq)) (p:=(nth ab (bn (ai,aj,ak,an,ag,ao,ah,aq) (t1,t2,t3,t4,t5,t6,t7)).1 i)) df)];rfl) |rfl
   ·rfl
  ·refine ⟨[],[],_,_,_,rfl,rp,(),tv,?_,?_,rfl⟩
   ·(show _=dX (ai,aj,ak,an,ag,ao,ah,aq) (t1,t2,t3,t4,t5,t6,t7));unfold dX;first |(rw [hM,←hr,cJ (cg w1),wK (s:=(ai,aj,ak,an,ag,ao,ah,aq)) (p:=(nth ab (bn (ai,aj,ak,an,ag,ao,ah,aq) (t1,t2,t3,t4,t5,t6,t7)).1 i)) w5 (ZX (s:=(ai,aj,ak,an,ag,ao,ah,aq)) (p:=(nth ab (bn (ai,aj,ak,an,ag,ao,ah,aq) (t1,t2,t3,t4,t5,t6,t7)).1 i)) dC)];rfl) |rfl
   ·rfl
  ·refine ⟨[],[],_,_,_,rfl,rp,(),tv,?_,?_,rfl⟩
   ·(show _=dX (ai,aj,ak,an,ag,ao,ah,aq) (t1,t2,t3,t4,t5,t6,t7));unfold dX;first |(rw [hM,←hr,cJ (cg w1),wK (s:=(ai,aj,ak,an,ag,ao,ah,aq)) (p:=(nth ab (bn (ai,aj,ak,an,ag,ao,ah,aq) (t1,t2,t3,t4,t5,t6,t7)).1 i)) w5 (ZW (s:=(ai,aj,ak,an,ag,ao,ah,aq)) (p:=(nth ab (bn (ai,aj,ak,an,ag,ao,ah,aq) (t1,t2,t3,t4,t5,t6,t7)).1 i)) gx)];rfl) |rfl
   ·rfl
  ·refine ⟨[],[],_,_,_,rfl,rp,(),tv,?_,?_,rfl⟩
   ·(show _=dX (ai,aj,ak,an,ag,ao,ah,aq) (t1,t2,t3,t4,t5,t6,t7));unfold dX;first |(rw [hM,←hr,cJ (cg w1),wK (s:=(ai,aj,ak,an,ag,ao,ah,aq)) (p:=(nth ab (bn (ai,aj,ak,an,ag,ao,ah,aq) (t1,t2,t3,t4,t5,t6,t7)).1 i)) w5 (ZV (s:=(ai,aj,ak,an,ag,ao,ah,aq)) (p:=(nth ab (bn (ai,aj,ak,an,ag,ao,ah,aq) (t1,t2,t3,t4,t5,t6,t7)).1 i)) j9)];rfl) |rfl
   ·rfl
  ·refine ⟨(i+1),[],?_,?_,?_⟩
   rotate_right
   ·exact rq
   ·exact ⟨cg w1,by rw [←hr,cJ (cg w1),O4 (s:=(ai,aj,ak,an,ag,ao,ah,aq)) (p:=(nth ab (bn (ai,aj,ak,an,ag,ao,ah,aq) (t1,t2,t3,t4,t5,t6,t7)).1 i)) w5 (O5 (s:=(ai,aj,ak,an,ag,ao,ah,aq)) (p:=(nth ab (bn (ai,aj,ak,an,ag,ao,ah,aq) (t1,t2,t3,t4,t5,t6,t7)).1 i)) ka iA oU wu)];rfl⟩
   ·show (bn (ai,aj,ak,an,ag,ao,ah,aq) (t1,t2,t3,t4,t5,t6,t7)).1.length - (i+1) < (bn (ai,aj,ak,an,ag,ao,ah,aq) (t1,t2,t3,t4,t5,t6,t7)).1.length - i;have:=cg w1;omega
  ·have FJ:¬i < (bn (ai,aj,ak,an,ag,ao,ah,aq) (t1,t2,t3,t4,t5,t6,t7)).1.length:=by have:=ca (p:=(i:Int) < ((bn (ai,aj,ak,an,ag,ao,ah,aq) (t1,t2,t3,t4,t5,t6,t7)).1.length:Int)) qI;omega
   have e:j3 (ai,aj,ak,an,ag,ao,ah,aq) t7 0 (bn (ai,aj,ak,an,ag,ao,ah,aq) (t1,t2,t3,t4,t5,t6,t7)).1=true:=by rw [←hr,List.drop_eq_nil_of_le (by omega)];rfl
   refine ⟨[],[],_,_,_,rfl,rp,(),tv,?_,?_,rfl⟩
   ·(show _=dX (ai,aj,ak,an,ag,ao,ah,aq) (t1,t2,t3,t4,t5,t6,t7));unfold dX;first |(rw [hM,e];rfl) |rfl
   ·rfl
end GL
namespace GL
theorem UD:∀ {l:List Pt} {i:Nat} {out o:ByteArray} {sm m:Bool},gR l i out sm=some (o,m)→o.size≤out.size+65 * l.length
 |[],i,out,o,sm,m,h=>by cases h;exact Nat.le_refl _
 |p::l,i,out,o,sm,m,h=>by
  unfold gR at h
  cases hb:aV p with
  |true=>
   rw [hb,cond_true] at h
   have h1:=UD h
   have h2:=gh p
   rw [ByteArray.size_append] at h1
   rw [List.length_cons]
   cases hd:decide ((i:Int) > 0) with
   |true=>rw [hd,cond_true,ByteArray.size_append,sz1] at h1;omega
   |false=>rw [hd,cond_false] at h1;omega
  |false=>rw [hb] at h;cases h
theorem XW (l:List Pt):(bz l).1.size≤1000:=by
 unfold bz
 cases hc:decide ((l.length:Int)≠4) with
 |true=>exact Nat.zero_le _
 |false=>
  have h4:=ca hc
  show (q6 l).1.size≤1000
  unfold q6
  cases hf:gR l 0 ⟨#[]⟩ false with
  |none=>exact Nat.zero_le _
  |some r=>
   obtain ⟨o,sm⟩:=r
   have h1:=UD hf
   rw [sz0] at h1
   show (q7 o sm).1.size≤1000
   unfold q7
   cases !sm with
   |true=>exact Nat.zero_le _
   |false=>show o.size≤1000;omega
def fw (s:ax) (l:List Pt) (old:Pt):Bool:= !(ar old)&&(iP old (bz l).1&&decide (nth aa s.rows old.1.toNat=(bz l).1))
def dT (s:ax) (l:List Pt) (lv:Int) (old:Pt):ax×Pt×Bool:=
 bif nV l then (s,bL,true) else bif fw s l old then (s,old,true) else a6 s (bz l).1 lv
theorem JF {s:ax} {l:List Pt} {lv:Int} {old:Pt} (h:nV l=true):dT s l lv old=(s,bL,true):=by unfold dT;rw [h];rfl
theorem JE {s:ax} {l:List Pt} {lv:Int} {old:Pt} (h:nV l=false) (h2:fw s l old=true):dT s l lv old=(s,old,true):=by unfold dT;rw [h,h2];rfl
theorem tQ {s:ax} {l:List Pt} {lv:Int} {old:Pt} (h:nV l=false) (h2:fw s l old=false):dT s l lv old=a6 s (bz l).1 lv:=by unfold dT;rw [h,h2];rfl
theorem M4 {s:ax} {l:List Pt} {old:Pt} (h1:(!(ar old))=true) (h2:iP old (bz l).1=true) (h3:decide (nth aa s.rows old.1.toNat=(bz l).1)=true):fw s l old=true:=by unfold fw;rw [h1,h2,h3];rfl
theorem M7 {s:ax} {l:List Pt} {old:Pt} (h1:(!(ar old))=false):fw s l old=false:=by unfold fw;rw [h1];rfl
theorem M6 {s:ax} {l:List Pt} {old:Pt} (h2:iP old (bz l).1=false):fw s l old=false:=by unfold fw;rw [h2,Bool.false_and,Bool.and_false]
theorem M5 {s:ax} {l:List Pt} {old:Pt} (h3:decide (nth aa s.rows old.1.toNat=(bz l).1)=false):fw s l old=false:=by unfold fw;rw [h3,Bool.and_false,Bool.and_false]
structure ax.akA (s:ax):Prop where
 ok:s.n64
def kZ (S:ax) (l:List Pt) (lv:Int) (o:Pt):Prop:=S.akA∧l.length≤1000000∧0≤o.1∧o.1 < 64
def gL (S:ax) (l:List Pt) (lv:Int) (o:Pt):AV:=.t [.a (lA 0 1 2 3 4 (dT S l lv o).1),ptA (dT S l lv o).2.1, .s (.q (dT S l lv o).2.2)]
def ji (S:ax) (l:List Pt) (lv:Int) (o:Pt):List AV:=GD (dT S l lv o).1
def jV:Con where
 A:=[.a (stB 0 1 2 3 4), .s (.vz ab), .s .int, .a [.int, .int, .int, .int, .int]]
 B:=[.r aa, .r ae, .r ae, .r ab, .r ab]
 pre:=fun x b=>whole x.1.1 x.1.2.1 x.1.2.2.1 x.1.2.2.2.2.1 x.1.2.2.2.2.2.2.1 (b.1) (b.2.1) (b.2.2.1) (b.2.2.2.1) (b.2.2.2.2)∧kZ ((b.1,b.2.1,b.2.2.1,x.1.2.2.2.1,b.2.2.2.1,x.1.2.2.2.2.2.1,b.2.2.2.2,x.1.2.2.2.2.2.2.2)) (x.2.1) (x.2.2.1) (x.2.2.2)
 α:=fun _ _=>Unit
 φ:=fun _ _ _=>True
 r:=fun x b _=>gL ((b.1,b.2.1,b.2.2.1,x.1.2.2.2.1,b.2.2.2.1,x.1.2.2.2.2.2.1,b.2.2.2.2,x.1.2.2.2.2.2.2.2)) (x.2.1) (x.2.2.1) (x.2.2.2)
 o:=fun x b _=>ji ((b.1,b.2.1,b.2.2.1,x.1.2.2.2.1,b.2.2.2.1,x.1.2.2.2.2.2.1,b.2.2.2.2,x.1.2.2.2.2.2.2.2)) (x.2.1) (x.2.2.1) (x.2.2.2)
 nf:=0
set_option maxRecDepth 100000 in
theorem wR:Has Tryz.prog 83 jV:=by
 refine Has.ofE (fun _=>true) (fun _=>false) (fun _=>false) (l:=[(120,JW),(121,J7),(26,bc),(57,sJ),(48,nb)]) ⟨ad0,aed,cr,MK,CK,trivial⟩ (fn:=Tryz.f83) Tryz.func83 rfl (by decide) (cH rfl) ?_
 rintro ⟨⟨(AS:Nat),(AR:Nat),(AQ:Nat),(an:Int),(AO:Nat),(ao:Int),(AN:Nat),(aq:Bool)⟩,(l:List Pt),(lv:Int),⟨(o1:Int),(o2:Int),(o3:Int),(o4:Int),(o5:Int)⟩⟩ ⟨(ai:List ByteArray),(aj:List Int),(ak:List Int),(ag:List Pt),(ah:List Pt)⟩ ⟨⟨(gr:AS=List.length ai),(gq:AR=List.length aj),(gp:AQ=List.length ak),(gn:AO=List.length ag),(gm:AN=List.length ah)⟩,(hp:kZ (ai,aj,ak,an,ag,ao,ah,aq) l lv (o1,o2,o3,o4,o5))⟩
 subst gr gq gp gn gm
 show vc _ _ _ _ (entry [.a [.xs 0 1 0 ai.length, .xs 1 1 0 aj.length, .xs 2 1 0 ak.length, .int an, .xs 3 5 0 ag.length, .int ao, .xs 4 5 0 ah.length, .q aq], .s (.vz ab l), .int lv, .a [.int o1, .int o2, .int o3, .int o4, .int o5]] [.rs aa ai, .rs ae aj, .rs ae ak, .rs ab ag, .rs ab ah]) _
 obtain ⟨⟨⟨l1,l2,l3⟩⟩,h2,(h3:0≤o1),(h4:o1 < 64)⟩:=hp
 dsimp only [ax.rows,ax.refs,ax.last] at l1 l2 l3
 have db:=XW l
 refine ⟨⟨⟨tv,tv⟩,?_⟩,fun x1 w2=>⟨fun w3=>?_,fun w4=>⟨⟨⟨tv,tv⟩,tv⟩,fun x5 w6=>⟨⟨⟨⟨tv,tv,tv,tv,tv,tv⟩,tv⟩,tv⟩,fun x7 w8=>⟨tv,fun w9=>⟨⟨⟨⟨tv,tv,tv,tv,tv,tv⟩,tv,tv⟩,?_⟩,fun x10 ka=>⟨tv,fun dC=>⟨⟨?_,?_⟩,?_,fun iA=>⟨[.s 4, .b 1004],[.s 40],rfl,[.s 7, .b 1007],[.s 41],rfl,[.s 8, .s 40, .b 1008],[.b 1008],rfl,[.s 9, .s 41, .b 1009],[.b 1009],rfl,[],[.s 10],rfl,?_⟩,fun gx=>⟨⟨⟨⟨tv,tv,tv,tv,tv,tv,tv,tv,tv⟩,tv,tv,tv⟩,⟨?_,?_,?_,?_,?_⟩,⟨?_,?_,?_⟩,?_⟩,fun ku j9=>?_⟩⟩,fun wu=>⟨⟨⟨⟨tv,tv,tv,tv,tv,tv,tv,tv,tv⟩,tv,tv,tv⟩,⟨?_,?_,?_,?_,?_⟩,⟨?_,?_,?_⟩,?_⟩,fun qy ot=>?_⟩⟩⟩,fun um=>⟨⟨⟨⟨tv,tv,tv,tv,tv,tv,tv,tv,tv⟩,tv,tv,tv⟩,⟨?_,?_,?_,?_,?_⟩,⟨?_,?_,?_⟩,?_⟩,fun x21 zf=>?_⟩⟩⟩⟩⟩⟩
 all_goals first|refine au ?_|refine aw ?_|exact sa|(dsimp only [JW,tc];omega)|(dsimp only [J7,yt];omega)|(dsimp only [bc,bW];omega)|(dsimp only [sJ,nP];omega)|(dsimp only [nb,nM];omega)|exact sb|(show ((bz l).1.size:Int)≤1000000000000;omega)|exact l1|exact l2|exact l3|exact h2|skip
 ·refine ⟨[],[],_,_,_,rfl,rp,(),tv,?_,?_,rfl⟩
  ·(show _=gL (ai,aj,ak,an,ag,ao,ah,aq) l lv (o1,o2,o3,o4,o5));unfold gL;first |(rw [JF (s:=(ai,aj,ak,an,ag,ao,ah,aq)) (l:=l) (lv:=lv) (old:=(o1,o2,o3,o4,o5)) w3];rfl) |rfl
  ·(show _=ji (ai,aj,ak,an,ag,ao,ah,aq) l lv (o1,o2,o3,o4,o5));unfold ji;first |(rw [JF (s:=(ai,aj,ak,an,ag,ao,ah,aq)) (l:=l) (lv:=lv) (old:=(o1,o2,o3,o4,o5)) w3];rfl) |rfl
 ·refine ⟨[],[],_,_,_,rfl,rp,(),tv,?_,?_,rfl⟩
  ·(show _=gL (ai,aj,ak,an,ag,ao,ah,aq) l lv (o1,o2,o3,o4,o5));unfold gL;first |(rw [JE (s:=(ai,aj,ak,an,ag,ao,ah,aq)) (l:=l) (lv:=lv) (old:=(o1,o2,o3,o4,o5)) w4 (M4 (s:=(ai,aj,ak,an,ag,ao,ah,aq)) (l:=l) (old:=(o1,o2,o3,o4,o5)) w9 dC iA)];rfl) |rfl
  ·(show _=ji (ai,aj,ak,an,ag,ao,ah,aq) l lv (o1,o2,o3,o4,o5));unfold ji;first |(rw [JE (s:=(ai,aj,ak,an,ag,ao,ah,aq)) (l:=l) (lv:=lv) (old:=(o1,o2,o3,o4,o5)) w4 (M4 (s:=(ai,aj,ak,an,ag,ao,ah,aq)) (l:=l) (old:=(o1,o2,o3,o4,o5)) w9 dC iA)];rfl) |rfl
 ·refine ⟨[],[],_,_,_,rfl,rp,(),tv,?_,?_,rfl⟩
  ·(show _=gL (ai,aj,ak,an,ag,ao,ah,aq) l lv (o1,o2,o3,o4,o5));unfold gL;first |(rw [tQ (s:=(ai,aj,ak,an,ag,ao,ah,aq)) (l:=l) (lv:=lv) (old:=(o1,o2,o3,o4,o5)) w4 (M5 (s:=(ai,aj,ak,an,ag,ao,ah,aq)) (l:=l) (old:=(o1,o2,o3,o4,o5)) gx)];rfl) |rfl
  ·(show _=ji (ai,aj,ak,an,ag,ao,ah,aq) l lv (o1,o2,o3,o4,o5));unfold ji;first |(rw [tQ (s:=(ai,aj,ak,an,ag,ao,ah,aq)) (l:=l) (lv:=lv) (old:=(o1,o2,o3,o4,o5)) w4 (M5 (s:=(ai,aj,ak,an,ag,ao,ah,aq)) (l:=l) (old:=(o1,o2,o3,o4,o5)) gx)];rfl) |rfl
 ·refine ⟨[],[],_,_,_,rfl,rp,(),tv,?_,?_,rfl⟩
  ·(show _=gL (ai,aj,ak,an,ag,ao,ah,aq) l lv (o1,o2,o3,o4,o5));unfold gL;first |(rw [tQ (s:=(ai,aj,ak,an,ag,ao,ah,aq)) (l:=l) (lv:=lv) (old:=(o1,o2,o3,o4,o5)) w4 (M6 (s:=(ai,aj,ak,an,ag,ao,ah,aq)) (l:=l) (old:=(o1,o2,o3,o4,o5)) wu)];rfl) |rfl
  ·(show _=ji (ai,aj,ak,an,ag,ao,ah,aq) l lv (o1,o2,o3,o4,o5));unfold ji;first |(rw [tQ (s:=(ai,aj,ak,an,ag,ao,ah,aq)) (l:=l) (lv:=lv) (old:=(o1,o2,o3,o4,o5)) w4 (M6 (s:=(ai,aj,ak,an,ag,ao,ah,aq)) (l:=l) (old:=(o1,o2,o3,o4,o5)) wu)];rfl) |rfl
 ·refine ⟨[],[],_,_,_,rfl,rp,(),tv,?_,?_,rfl⟩
  ·(show _=gL (ai,aj,ak,an,ag,ao,ah,aq) l lv (o1,o2,o3,o4,o5));unfold gL;first |(rw [tQ (s:=(ai,aj,ak,an,ag,ao,ah,aq)) (l:=l) (lv:=lv) (old:=(o1,o2,o3,o4,o5)) w4 (M7 (s:=(ai,aj,ak,an,ag,ao,ah,aq)) (l:=l) (old:=(o1,o2,o3,o4,o5)) um)];rfl) |rfl
  ·(show _=ji (ai,aj,ak,an,ag,ao,ah,aq) l lv (o1,o2,o3,o4,o5));unfold ji;first |(rw [tQ (s:=(ai,aj,ak,an,ag,ao,ah,aq)) (l:=l) (lv:=lv) (old:=(o1,o2,o3,o4,o5)) w4 (M7 (s:=(ai,aj,ak,an,ag,ao,ah,aq)) (l:=l) (old:=(o1,o2,o3,o4,o5)) um)];rfl) |rfl
def bl (s:ax) (t:aZ):List Pt:=
 bif decide (t.depth=0)||ar t.root then [] else
 bif decide (t.depth=2) then t.root::(a8 s t.root 2).1.filter (fun p=> !(ar p)) else [t.root]
theorem IU {s:ax} {t:aZ} (h:decide (t.depth=0)=true):bl s t=[]:=by unfold bl;rw [h];rfl
theorem zR {s:ax} {t:aZ} (h:ar t.root=true):bl s t=[]:=by unfold bl;rw [h,Bool.or_true];rfl
theorem zQ {s:ax} {t:aZ} (h:decide (t.depth=0)=false) (h2:ar t.root=false) (h3:decide (t.depth=2)=false):bl s t=[t.root]:=by unfold bl;rw [h,h2,h3];rfl
theorem IT {s:ax} {t:aZ} (h:decide (t.depth=0)=false) (h2:ar t.root=false) (h3:decide (t.depth=2)=true):bl s t=t.root::(a8 s t.root 2).1.filter (fun p=> !(ar p)):=by unfold bl;rw [h,h2,h3];rfl
theorem aeJ {l:List Pt} {f:Pt→Bool} {i:Nat} (hi:i < l.length) (h:f (nth ab l i)=true):(l.take (i+1)).filter f=(l.take i).filter f++[nth ab l i]:=by
 rw [F9 hi,List.filter_append,List.filter_cons,h];rfl
theorem aeK {l:List Pt} {f:Pt→Bool} {i:Nat} (hi:i < l.length) (h:f (nth ab l i)=false):(l.take (i+1)).filter f=(l.take i).filter f:=by
 rw [F9 hi,List.filter_append,List.filter_cons,h];simp
def gX (S:ax) (t:aZ):Prop:=S.rd
def gd (S:ax) (t:aZ):AV:=.s (.xs 0 5 0 (bl S t).length)
def ig (S:ax) (t:aZ):List AV:=[.rs ab (bl S t)]
def fG:Con where
 A:=[.a xw, .a [.int, .int, .int, .int, .int, .int, .int]]
 B:=[]
 pre:=fun x b=>gX (x.1) (x.2)
 α:=fun _ _=>Unit
 φ:=fun _ _ _=>True
 r:=fun x b _=>gd (x.1) (x.2)
 o:=fun x b _=>ig (x.1) (x.2)
 nf:=1
set_option maxRecDepth 100000 in
theorem oZ:Has Tryz.prog 81 fG:=by
 refine Has.ofE (fun _=>true) (fun _=>false) (fun _=>false) (l:=[(26,bc),(56,dU)]) ⟨cr,lk,trivial⟩ (fn:=Tryz.f81) Tryz.func81 rfl (by decide) (cH rfl) ?_
 rintro ⟨⟨(ai:List ByteArray),(aj:List Int),(ak:List Int),(an:Int),(ag:List Pt),(ao:Int),(ah:List Pt),(aq:Bool)⟩,⟨(t1:Int),(t2:Int),(t3:Int),(t4:Int),(t5:Int),(t6:Int),(t7:Int)⟩⟩ _ (hp:gX (ai,aj,ak,an,ag,ao,ah,aq) (t1,t2,t3,t4,t5,t6,t7))
 show vc _ _ _ _ (entry [.a [.vz aa ai, .vz ae aj, .vz ae ak, .int an, .vz ab ag, .int ao, .vz ab ah, .q aq], .a [.int t1, .int t2, .int t3, .int t4, .int t5, .int t6, .int t7]] []) _
 have dA:ax.rd (ai,aj,ak,an,ag,ao,ah,aq):=hp
 refine ⟨tv,tv,fun w1=>?_,fun w2=>⟨⟨⟨⟨tv,tv,tv,tv,tv,tv⟩,tv⟩,tv⟩,fun x3 w4=>⟨fun w5=>?_,fun w6=>⟨tv,⟨⟨?_,?_⟩,?_,?_⟩,fun w7=>⟨⟨⟨⟨tv,tv,tv,tv,tv,tv,tv,tv,tv⟩,⟨tv,tv,tv,tv,tv,tv⟩,tv,tv⟩,?_⟩,fun x8 w9=>?_⟩,fun df=>?_⟩⟩⟩⟩
 all_goals first|refine au ?_|refine aw ?_|exact sa|(dsimp only [bc,bW];omega)|(dsimp only [dU,fx];omega)|exact sb|exact dA|skip
 ·refine ⟨[1009],[],_,_,_,rfl,rp,(),tv,?_,?_,rfl⟩
  ·(show _=gd (ai,aj,ak,an,ag,ao,ah,aq) (t1,t2,t3,t4,t5,t6,t7));unfold gd;first |(rw [IU (s:=(ai,aj,ak,an,ag,ao,ah,aq)) (t:=(t1,t2,t3,t4,t5,t6,t7)) w1];rfl) |rfl
  ·(show _=ig (ai,aj,ak,an,ag,ao,ah,aq) (t1,t2,t3,t4,t5,t6,t7));unfold ig;first |(rw [IU (s:=(ai,aj,ak,an,ag,ao,ah,aq)) (t:=(t1,t2,t3,t4,t5,t6,t7)) w1];rfl) |rfl
 ·refine ⟨[1009],[],_,_,_,rfl,rp,(),tv,?_,?_,rfl⟩
  ·(show _=gd (ai,aj,ak,an,ag,ao,ah,aq) (t1,t2,t3,t4,t5,t6,t7));unfold gd;first |(rw [zR (s:=(ai,aj,ak,an,ag,ao,ah,aq)) (t:=(t1,t2,t3,t4,t5,t6,t7)) w5];rfl) |rfl
  ·(show _=ig (ai,aj,ak,an,ag,ao,ah,aq) (t1,t2,t3,t4,t5,t6,t7));unfold ig;first |(rw [zR (s:=(ai,aj,ak,an,ag,ao,ah,aq)) (t:=(t1,t2,t3,t4,t5,t6,t7)) w5];rfl) |rfl
 ·have hB:=(iz (ai,aj,ak,an,ag,ao,ah,aq) (t1,t2,t3,t4,t5) 2).1
  have hM:=IT (s:=(ai,aj,ak,an,ag,ao,ah,aq)) (t:=(t1,t2,t3,t4,t5,t6,t7)) w2 w6 w7
  refine cI (l:=[(26,bc),(56,dU)]) (ex:=fun _=>true) (wr:=fun _=>false) (pt:=fun _=>false) ⟨cr,lk,tv⟩ [.s 6, .b 320000] (fun y:Nat×List Pt=>[(.s 5, .s (.xs 1023 5 0 y.2.length)),(.s 8, .int y.1),(.b 1023, .rs ab y.2)]) (fun y=>y.1≤(a8 (ai,aj,ak,an,ag,ao,ah,aq) (t1,t2,t3,t4,t5) 2).1.length∧y.2.length≤y.1+1∧y.2=(t1,t2,t3,t4,t5)::((a8 (ai,aj,ak,an,ag,ao,ah,aq) (t1,t2,t3,t4,t5) 2).1.take y.1).filter (fun p=> !(ar p))) (fun y=>(a8 (ai,aj,ak,an,ag,ao,ah,aq) (t1,t2,t3,t4,t5) 2).1.length - y.1) (0,[(t1,t2,t3,t4,t5)]) [] ⟨Nat.zero_le _,Nat.le_refl _,rfl⟩ ru ?_
  rintro ⟨i,out⟩ ⟨(hi:i≤(a8 (ai,aj,ak,an,ag,ao,ah,aq) (t1,t2,t3,t4,t5) 2).1.length),(hlo:out.length≤i+1),(he:out=(t1,t2,t3,t4,t5)::((a8 (ai,aj,ak,an,ag,ao,ah,aq) (t1,t2,t3,t4,t5) 2).1.take i).filter (fun p=> !(ar p)))⟩
  have cg:decide ((i:Int) < ((a8 (ai,aj,ak,an,ag,ao,ah,aq) (t1,t2,t3,t4,t5) 2).1.length:Int))=true→i < (a8 (ai,aj,ak,an,ag,ao,ah,aq) (t1,t2,t3,t4,t5) 2).1.length:=fun h=>by have:=cw h;omega
  refine ⟨fun w1=>⟨⟨?_,?_⟩,?_,⟨⟨⟨tv,tv,tv,tv,tv,tv⟩,tv⟩,tv⟩,fun x2 w3=>⟨fun w4=>⟨⟨?_,?_⟩,?_,tv,⟨⟨?_,?_⟩,?_,?_⟩,⟨?_,?_⟩,?_⟩,fun w5=>⟨⟨?_,?_⟩,?_⟩⟩⟩,fun w6=>?_⟩
  all_goals first|refine au ?_|refine aw ?_|exact sa|(dsimp only [bc,bW];omega)|(dsimp only [dU,fx];omega)|exact sb|exact cg w1|exact cw w1|(show out.length+1≤1048576;omega)|skip
  ·refine ⟨(i+1,out++[nth ab (a8 (ai,aj,ak,an,ag,ao,ah,aq) (t1,t2,t3,t4,t5) 2).1 i]),[(1023,1052)],?_,?_,?_⟩
   rotate_right
   ·exact rq
   ·exact ⟨cg w1,by show List.length (_++_)≤_;rw [List.length_append];show out.length+1≤i+1+1;omega,by show _=_::_;rw [aeJ (l:=(a8 (ai,aj,ak,an,ag,ao,ah,aq) (t1,t2,t3,t4,t5) 2).1) (cg w1) w4,he];rfl⟩
   ·show (a8 (ai,aj,ak,an,ag,ao,ah,aq) (t1,t2,t3,t4,t5) 2).1.length - (i+1) < (a8 (ai,aj,ak,an,ag,ao,ah,aq) (t1,t2,t3,t4,t5) 2).1.length - i;have:=cg w1;omega
  ·refine ⟨(i+1,out),[],?_,?_,?_⟩
   rotate_right
   ·exact rq
   ·exact ⟨cg w1,by show out.length≤i+1+1;omega,by show _=_::_;rw [aeK (l:=(a8 (ai,aj,ak,an,ag,ao,ah,aq) (t1,t2,t3,t4,t5) 2).1) (cg w1) w5];exact he⟩
   ·show (a8 (ai,aj,ak,an,ag,ao,ah,aq) (t1,t2,t3,t4,t5) 2).1.length - (i+1) < (a8 (ai,aj,ak,an,ag,ao,ah,aq) (t1,t2,t3,t4,t5) 2).1.length - i;have:=cg w1;omega
  ·have FJ:¬i < (a8 (ai,aj,ak,an,ag,ao,ah,aq) (t1,t2,t3,t4,t5) 2).1.length:=by have:=ca (p:=(i:Int) < ((a8 (ai,aj,ak,an,ag,ao,ah,aq) (t1,t2,t3,t4,t5) 2).1.length:Int)) w6;omega
   have e:bl (ai,aj,ak,an,ag,ao,ah,aq) (t1,t2,t3,t4,t5,t6,t7)=out:=by rw [hM,he,List.take_of_length_le (by omega)]
   refine ⟨[1023],[],_,_,_,rfl,rp,(),tv,?_,?_,rfl⟩
   ·(show _=gd (ai,aj,ak,an,ag,ao,ah,aq) (t1,t2,t3,t4,t5,t6,t7));unfold gd;first |(rw [e];rfl) |rfl
   ·(show _=ig (ai,aj,ak,an,ag,ao,ah,aq) (t1,t2,t3,t4,t5,t6,t7));unfold ig;first |(rw [e];rfl) |rfl
 ·refine ⟨[1023],[],_,_,_,rfl,rp,(),tv,?_,?_,rfl⟩
  ·(show _=gd (ai,aj,ak,an,ag,ao,ah,aq) (t1,t2,t3,t4,t5,t6,t7));unfold gd;first |(rw [zQ (s:=(ai,aj,ak,an,ag,ao,ah,aq)) (t:=(t1,t2,t3,t4,t5,t6,t7)) w2 w6 df];rfl) |rfl
  ·(show _=ig (ai,aj,ak,an,ag,ao,ah,aq) (t1,t2,t3,t4,t5,t6,t7));unfold ig;first |(rw [zQ (s:=(ai,aj,ak,an,ag,ao,ah,aq)) (t:=(t1,t2,t3,t4,t5,t6,t7)) w2 w6 df];rfl) |rfl
def dG (s:ax) (t:aZ) (d lv:Int):List Pt:=
 bif decide (t.depth≠d) then cl 4 else bif decide (lv=d) then [t.root] else bif !(a8 s t.root d).2 then cl 4 else (a8 s t.root d).1
theorem B5 {s:ax} {t:aZ} {d lv:Int} (h:decide (t.depth≠d)=true):dG s t d lv=cl 4:=by unfold dG;rw [h];rfl
theorem HN {s:ax} {t:aZ} {d lv:Int} (h:decide (t.depth≠d)=false) (h2:decide (lv=d)=true):dG s t d lv=[t.root]:=by unfold dG;rw [h,h2];rfl
theorem OW {s:ax} {t:aZ} {d lv:Int} (h:decide (t.depth≠d)=false) (h2:decide (lv=d)=false) (h3:(!(a8 s t.root d).2)=true):dG s t d lv=cl 4:=by unfold dG;rw [h,h2,h3];rfl
theorem HM {s:ax} {t:aZ} {d lv:Int} (h:decide (t.depth≠d)=false) (h2:decide (lv=d)=false) (h3:(!(a8 s t.root d).2)=false):dG s t d lv=(a8 s t.root d).1:=by unfold dG;rw [h,h2,h3];rfl
def kW (S:ax) (t:aZ) (d:Int) (lv:Int):Prop:=S.rd
def jE (S:ax) (t:aZ) (d:Int) (lv:Int):AV:=.s (.xs 0 5 0 (dG S t d lv).length)
def lU (S:ax) (t:aZ) (d:Int) (lv:Int):List AV:=[.rs ab (dG S t d lv)]
def jS:Con where
 A:=[.a xw, .a [.int, .int, .int, .int, .int, .int, .int], .s .int, .s .int]
 B:=[]
 pre:=fun x b=>kW (x.1) (x.2.1) (x.2.2.1) (x.2.2.2)
 α:=fun _ _=>Unit
 φ:=fun _ _ _=>True
 r:=fun x b _=>jE (x.1) (x.2.1) (x.2.2.1) (x.2.2.2)
 o:=fun x b _=>lU (x.1) (x.2.1) (x.2.2.1) (x.2.2.2)
 nf:=1
set_option maxRecDepth 100000 in
theorem wO:Has Tryz.prog 82 jS:=by
 refine Has.ofE (fun _=>true) (fun _=>false) (fun _=>false) (l:=[(78,jU),(56,dU)]) ⟨wQ,lk,trivial⟩ (fn:=Tryz.f82) Tryz.func82 rfl (by decide) (cH rfl) ?_
 rintro ⟨⟨(ai:List ByteArray),(aj:List Int),(ak:List Int),(an:Int),(ag:List Pt),(ao:Int),(ah:List Pt),(aq:Bool)⟩,⟨(t1:Int),(t2:Int),(t3:Int),(t4:Int),(t5:Int),(t6:Int),(t7:Int)⟩,(d:Int),(lv:Int)⟩ _ (hp:kW (ai,aj,ak,an,ag,ao,ah,aq) (t1,t2,t3,t4,t5,t6,t7) d lv)
 show vc _ _ _ _ (entry [.a [.vz aa ai, .vz ae aj, .vz ae ak, .int an, .vz ab ag, .int ao, .vz ab ah, .q aq], .a [.int t1, .int t2, .int t3, .int t4, .int t5, .int t6, .int t7], .int d, .int lv] []) _
 have dA:ax.rd (ai,aj,ak,an,ag,ao,ah,aq):=hp
 refine ⟨fun w1=>⟨⟨⟨tv,tv⟩,?_,?_⟩,fun x2 w3=>?_⟩,fun w4=>⟨fun w5=>⟨tv,?_⟩,fun w6=>⟨⟨⟨⟨tv,tv,tv,tv,tv,tv,tv,tv,tv⟩,⟨tv,tv,tv,tv,tv,tv⟩,tv,tv⟩,?_⟩,fun x7 w8=>⟨fun w9=>⟨⟨⟨tv,tv⟩,?_,?_⟩,fun x10 ka=>?_⟩,fun dC=>?_⟩⟩⟩⟩
 all_goals first|refine au ?_|refine aw ?_|exact sa|(dsimp only [jU,kY];omega)|(dsimp only [dU,fx];omega)|exact sb|exact dA|skip
 ·refine ⟨[160000],[],_,_,_,rfl,rp,(),tv,?_,?_,rfl⟩
  ·(show _=jE (ai,aj,ak,an,ag,ao,ah,aq) (t1,t2,t3,t4,t5,t6,t7) d lv);unfold jE;first |(rw [B5 (s:=(ai,aj,ak,an,ag,ao,ah,aq)) (t:=(t1,t2,t3,t4,t5,t6,t7)) (d:=d) (lv:=lv) w1];rfl) |rfl
  ·(show _=lU (ai,aj,ak,an,ag,ao,ah,aq) (t1,t2,t3,t4,t5,t6,t7) d lv);unfold lU;first |(rw [B5 (s:=(ai,aj,ak,an,ag,ao,ah,aq)) (t:=(t1,t2,t3,t4,t5,t6,t7)) (d:=d) (lv:=lv) w1];rfl) |rfl
 ·refine ⟨[1021],[],_,_,_,rfl,rp,(),tv,?_,?_,rfl⟩
  ·(show _=jE (ai,aj,ak,an,ag,ao,ah,aq) (t1,t2,t3,t4,t5,t6,t7) d lv);unfold jE;first |(rw [HN (s:=(ai,aj,ak,an,ag,ao,ah,aq)) (t:=(t1,t2,t3,t4,t5,t6,t7)) (d:=d) (lv:=lv) w4 w5];rfl) |rfl
  ·(show _=lU (ai,aj,ak,an,ag,ao,ah,aq) (t1,t2,t3,t4,t5,t6,t7) d lv);unfold lU;first |(rw [HN (s:=(ai,aj,ak,an,ag,ao,ah,aq)) (t:=(t1,t2,t3,t4,t5,t6,t7)) (d:=d) (lv:=lv) w4 w5];rfl) |rfl
 ·trace_state
  refine ⟨[330000],[],_,_,_,rfl,rp,(),tv,?_,?_,rfl⟩
  ·(show _=jE (ai,aj,ak,an,ag,ao,ah,aq) (t1,t2,t3,t4,t5,t6,t7) d lv);unfold jE;first |(rw [OW (s:=(ai,aj,ak,an,ag,ao,ah,aq)) (t:=(t1,t2,t3,t4,t5,t6,t7)) (d:=d) (lv:=lv) w4 w6 w9];rfl) |rfl
  ·(show _=lU (ai,aj,ak,an,ag,ao,ah,aq) (t1,t2,t3,t4,t5,t6,t7) d lv);unfold lU;first |(rw [OW (s:=(ai,aj,ak,an,ag,ao,ah,aq)) (t:=(t1,t2,t3,t4,t5,t6,t7)) (d:=d) (lv:=lv) w4 w6 w9];rfl) |rfl
 ·refine ⟨[280000],[],_,_,_,rfl,rp,(),tv,?_,?_,rfl⟩
  ·(show _=jE (ai,aj,ak,an,ag,ao,ah,aq) (t1,t2,t3,t4,t5,t6,t7) d lv);unfold jE;first |(rw [HM (s:=(ai,aj,ak,an,ag,ao,ah,aq)) (t:=(t1,t2,t3,t4,t5,t6,t7)) (d:=d) (lv:=lv) w4 w6 dC];rfl) |rfl
  ·(show _=lU (ai,aj,ak,an,ag,ao,ah,aq) (t1,t2,t3,t4,t5,t6,t7) d lv);unfold lU;first |(rw [HM (s:=(ai,aj,ak,an,ag,ao,ah,aq)) (t:=(t1,t2,t3,t4,t5,t6,t7)) (d:=d) (lv:=lv) w4 w6 dC];rfl) |rfl
end GL
namespace GL
def ptrEq (p q:Pt):Bool:=decide (p.1=q.1)&&(decide (p.2.1=q.2.1)&&(decide (p.2.2.1=q.2.2.1)&&(decide (p.2.2.2.1=q.2.2.2.1)&&decide (p.2.2.2.2=q.2.2.2.2))))
theorem r4 {p q:Pt}:ptrEq p q=true↔p=q:=by
 unfold ptrEq
 simp only [Bool.and_eq_true,decide_eq_true_eq]
 constructor
 ·rintro ⟨h1,h2,h3,h4,h5⟩
  obtain ⟨a,b,c,d,e⟩:=p
  obtain ⟨a',b',c',d',e'⟩:=q
  simp only at h1 h2 h3 h4 h5
  subst h1 h2 h3 h4 h5;rfl
 ·rintro rfl;exact ⟨rfl,rfl,rfl,rfl,rfl⟩
def B1:Nat→List Pt→List Pt
 |0,l=>l
 |f+1,l=>bif decide ((l.length:Int) % 4≠0) then B1 f (l++[bL]) else l
def eF (l:List Pt):List Pt:=B1 4 l
theorem ac6 {f:Nat} {l:List Pt} (h:decide ((l.length:Int) % 4≠0)=true):B1 (f+1) l=B1 f (l++[bL]):=by rw [B1,h];rfl
theorem ac7 {f:Nat} {l:List Pt} (h:decide ((l.length:Int) % 4≠0)=false):B1 f l=l:=by
 cases f with
 |zero=>rfl
 |succ f=>rw [B1,h];rfl
theorem R3:∀(f:Nat) (l:List Pt),4≤f+(l.length % 4)∨l.length % 4=0→(B1 f l).length=(l.length+3) / 4 * 4
 |0,l,h=>by show l.length=_;omega
 |f+1,l,h=>by
  unfold B1
  cases hd:decide ((l.length:Int) % 4≠0) with
  |true=>
   have:=cw hd
   rw [cond_true,R3 f _ (by rw [List.length_append];show 4≤f+(l.length+1) % 4∨(l.length+1) % 4=0;omega),List.length_append]
   show (l.length+1+3) / 4 * 4=_;omega
  |false=>
   have:=ca hd
   rw [cond_false];omega
theorem HF (l:List Pt):(eF l).length=(l.length+3) / 4 * 4:=R3 4 l (by omega)
def qC (l:List Pt) (i:Nat):List Pt:=(l.drop (0+((i:Int) * 4).toNat)).take ((((i:Int)+1) * 4).toNat - ((i:Int) * 4).toNat)
def fB:Nat→ax→Int→List Pt→List Pt→Nat→List Pt→List Pt→ax×Option (List Pt×List Pt)
 |0,s,_,_,_,_,next,stays=>(s,some (next,stays))
 |f+1,s,lv,j4,l,i,next,stays=>
  bif decide ((i:Int) * 4 < l.length) then
   (bif !(dT s (qC l i) lv (nth ab j4 i)).2.2 then ((dT s (qC l i) lv (nth ab j4 i)).1,none) else
    fB f (dT s (qC l i) lv (nth ab j4 i)).1 lv j4 l (i+1) (next++[(dT s (qC l i) lv (nth ab j4 i)).2.1])
     (bif ptrEq (dT s (qC l i) lv (nth ab j4 i)).2.1 (nth ab j4 i) then stays++[(dT s (qC l i) lv (nth ab j4 i)).2.1] else stays))
  else (s,some (next,stays))
def mm:Nat→ax→aZ→Int→Int→List Pt→List Pt→ax×Option (List Pt×List Pt)
 |0,s,_,_,_,l,stays=>(s,some (l,stays))
 |f+1,s,t,d,lv,l,stays=>bif decide (lv≤d) then
   (match fB 5 s lv (dG s t d lv) (eF l) 0 [] stays with
    |(s',none)=>(s',none)
    |(s',some (n,st))=>mm f s' t d (lv+1) n st)
  else (s,some (l,stays))
def gQ (stays:List Pt) (o:Pt):Bool:=stays.any fun q=>ptrEq q o
def dQ:List Pt→List Pt→ax→ax
 |[],_,s=>s
 |o::l,stays,s=>dQ l stays (bif gQ stays o then s else cG s o)
def rootOf (l:List Pt):Pt:=bif decide ((l.length:Int) > 0) then nth ab l 0 else bL
def LZ (p:Pt) (d many:Int):aZ:=(p.1,p.2.1,p.2.2.1,p.2.2.2.1,p.2.2.2.2,d,many)
def ny:aZ:=(0,0,0,0,0,0,0)
def akC (s0:ax) (t:aZ) (many:Int):ax×Option (List Pt×List Pt)→ax×aZ×Bool
 |(s',none)=>(s',ny,false)
 |(s',some (l,stays))=>(dQ (bl s0 t) stays s',LZ (rootOf l) (bb many) many,true)
def bK (s:ax) (t:aZ) (leaves:List Pt) (many:Int):ax×aZ×Bool:=akC s t many (mm 3 s t (bb many) 1 (leaves.take many.toNat) [])
def trA (t:aZ):A0:=.a [.int t.1, .int t.2.1, .int t.2.2.1, .int t.2.2.2.1, .int t.2.2.2.2.1, .int t.2.2.2.2.2.1, .int t.2.2.2.2.2.2]
structure ax.wf (s:ax):Prop where
 n:s.n64
 sz:∀x∈s.rows,x.size≤1000000
theorem ax.wf.rd {s:ax} (h:s.wf):s.rd:=⟨h.n.1,h.sz⟩
theorem VA {l:List ByteArray} {k:Nat} {x:ByteArray} (h:∀y∈l,y.size≤1000000) (hx:x.size≤1000000):∀y∈l.set k x,y.size≤1000000:=by
 intro y hy
 rcases List.mem_or_eq_of_mem_set hy with h1 |h1
 ·exact h y h1
 ·rw [h1];exact hx
theorem jC (s:ax) (text:ByteArray) (lv:Int):(a6 s text lv).2.2=false∧(a6 s text lv).1=s∨∃k:Nat,(a6 s text lv).2.2=true∧(a6 s text lv).1=uN s text k∧text.size≤128:=by
 unfold a6
 cases hd:decide (cY s text lv < 0) with
 |true=>exact .inl ⟨rfl,rfl⟩
 |false=>
  cases ho:(gi (cY s text lv) s.bY lv text).2 with
  |false=>exact .inl ⟨rfl,rfl⟩
  |true=>
   refine .inr ⟨(cY s text lv).toNat,rfl,rfl,?_⟩
   unfold gi at ho
   cases hc:ir text.size 1 128&&aV (cY s text lv,s.bY,text.size,sV text,lv) with
   |true=>
    simp only [Bool.and_eq_true] at hc
    have:=cn.1 hc.1
    omega
   |false=>rw [hc] at ho;cases ho
theorem AW {s:ax} {text:ByteArray} {lv:Int} (h:s.wf):(a6 s text lv).1.wf:=by
 rcases jC s text lv with ⟨_,e⟩ |⟨k,_,e,hs⟩
 ·rw [e];exact h
 ·rw [e]
  exact ⟨⟨by show (List.set _ _ _).length=64;rw [List.length_set];exact h.n.1,by show (List.set _ _ _).length=64;rw [List.length_set];exact h.n.2.1,by show (List.set _ _ _).length=64;rw [List.length_set];exact h.n.2.2⟩,VA h.sz (by omega)⟩
theorem PV {s:ax} {l:List Pt} {lv:Int} {o:Pt} (h:s.wf):(dT s l lv o).1.wf:=by
 unfold dT
 cases nV l with
 |true=>exact h
 |false=>
  cases fw s l o with
  |true=>exact h
  |false=>exact AW h
theorem acg {s:ax} {l:List Pt} {lv:Int} {o:Pt} (h:(dT s l lv o).2.2=false):(dT s l lv o).1=s:=by
 unfold dT at h ⊢
 cases hn:nV l with
 |true=>rw [hn] at h;cases h
 |false=>
  rw [hn,cond_false] at h
  show (bif fw s l o then (s,o,true) else a6 s (bz l).1 lv).1=s
  cases hk:fw s l o with
  |true=>rw [hk] at h;cases h
  |false=>
   rw [hk,cond_false] at h
   show (a6 s (bz l).1 lv).1=s
   rcases jC s (bz l).1 lv with ⟨_,e⟩ |⟨k,e,_⟩
   ·exact e
   ·rw [e] at h;cases h
theorem C2 (s:ax) (l:List Pt) (lv:Int) (o:Pt):(dT s l lv o).1.gone=s.gone∧(dT s l lv o).1.dead=s.dead∧(dT s l lv o).1.bY=s.bY∧(dT s l lv o).1.bT=s.bT∧(dT s l lv o).1.same=s.same:=by
 unfold dT
 cases nV l with
 |true=>exact ⟨rfl,rfl,rfl,rfl,rfl⟩
 |false=>
  cases fw s l o with
  |true=>exact ⟨rfl,rfl,rfl,rfl,rfl⟩
  |false=>
   show (a6 s (bz l).1 lv).1.gone=_∧_
   rcases jC s (bz l).1 lv with ⟨_,e⟩ |⟨k,_,e,_⟩
   ·rw [cond_false,cond_false,e];exact ⟨rfl,rfl,rfl,rfl,rfl⟩
   ·rw [cond_false,cond_false,e];exact ⟨rfl,rfl,rfl,rfl,rfl⟩
theorem qf {s:ax} {p:Pt} (h:s.wf):(cG s p).wf:=by
 unfold cG
 cases ar p with
 |true=>exact h
 |false=>
  cases decide (p.2.1≤s.bT) with
  |true=>exact ⟨h.n,h.sz⟩
  |false=>
   cases decide (p.2.1 < s.bY) with
   |true=>exact ⟨h.n,h.sz⟩
   |false=>
    show (fU s p.1.toNat).wf
    have hl:=xe s p.1.toNat
    refine ⟨⟨hl.1.trans h.n.1,hl.2.1.trans h.n.2.1,hl.2.2.trans h.n.2.2⟩,?_⟩
    show∀x∈(bif uD s p.1.toNat then s.rows.set p.1.toNat ByteArray.empty else s.rows),_
    cases uD s p.1.toNat with
    |true=>exact VA h.sz (Nat.zero_le _)
    |false=>exact h.sz
theorem o6 (s:ax) (p:Pt):(cG s p).gone.length≤s.gone.length+1∧(cG s p).dead.length≤s.dead.length+1:=by
 unfold cG
 cases ar p with
 |true=>exact ⟨Nat.le_succ _,Nat.le_succ _⟩
 |false=>
  cases decide (p.2.1≤s.bT) with
  |true=>exact ⟨Nat.le_succ _,by show (s.dead++[p]).length≤_;rw [List.length_append];exact Nat.le_refl _⟩
  |false=>
   cases decide (p.2.1 < s.bY) with
   |true=>exact ⟨by show (s.gone++[p]).length≤_;rw [List.length_append];exact Nat.le_refl _,Nat.le_succ _⟩
   |false=>exact ⟨Nat.le_succ _,Nat.le_succ _⟩
theorem ZI {s:ax} {t:aZ} {d lv:Int} (h:t.rd):∀q∈dG s t d lv,aV q=true:=by
 unfold dG
 cases decide (t.depth≠d) with
 |true=>exact wV 4
 |false=>
  cases decide (lv=d) with
  |true=>
   intro q hq
   simp only [cond_false,cond_true,List.mem_cons,List.not_mem_nil,or_false] at hq
   subst hq;exact h.ok
  |false=>
   cases !(a8 s t.root d).2 with
   |true=>exact wV 4
   |false=>exact sL s t.root d
theorem adr (s:ax) (t:aZ) (d lv:Int):1≤(dG s t d lv).length∧(lv≠d→(dG s t d lv).length=4)∧(dG s t d lv).length≤4:=by
 unfold dG
 cases decide (t.depth≠d) with
 |true=>exact ⟨by show 1≤4;omega,fun _=>rfl,Nat.le_refl _⟩
 |false=>
  cases hd:decide (lv=d) with
  |true=>exact ⟨Nat.le_refl _,fun h=>absurd (cw hd) h,by show 1≤4;omega⟩
  |false=>
   cases hb: !(a8 s t.root d).2 with
   |true=>exact ⟨by show 1≤4;omega,fun _=>rfl,Nat.le_refl _⟩
   |false=>
    have:=(iz s t.root d).2 (cB hb)
    show 1≤(a8 s t.root d).1.length∧(_→(a8 s t.root d).1.length=4)∧(a8 s t.root d).1.length≤4
    omega
theorem MM {s:ax} {t:aZ} (h:t.rd):∀q∈bl s t,aV q=true:=by
 unfold bl
 cases decide (t.depth=0)||ar t.root with
 |true=>intro q hq;cases hq
 |false=>
  cases decide (t.depth=2) with
  |true=>
   intro q hq
   rcases List.mem_cons.1 hq with hq |hq
   ·rw [hq];exact h.ok
   ·exact sL s t.root 2 q (List.mem_filter.1 hq).1
  |false=>
   intro q hq
   simp only [cond_false,List.mem_cons,List.not_mem_nil,or_false] at hq
   subst hq;exact h.ok
theorem IS (s:ax) (t:aZ):(bl s t).length≤5:=by
 unfold bl
 cases decide (t.depth=0)||ar t.root with
 |true=>exact Nat.zero_le _
 |false=>
  cases decide (t.depth=2) with
  |true=>
   have h1:=(iz s t.root 2).1
   have h2:=List.length_filter_le (fun p=> !(ar p)) (a8 s t.root 2).1
   show (t.root::(a8 s t.root 2).1.filter (fun p=> !(ar p))).length≤5
   rw [List.length_cons];omega
  |false=>show 1≤5;omega
end GL
end Go.Proofs.YtbfgjadbfjkcdaaGreatDoor
