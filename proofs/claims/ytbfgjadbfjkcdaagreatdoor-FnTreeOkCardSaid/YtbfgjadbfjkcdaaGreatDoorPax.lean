/- FnTreeOk returns true for every code (its row lists package variables, tied by the card): part 24 of 39. -/
import Derived.Test.YtbfgjadbfjkcdaaGreatDoorPaq
import Derived.Test.YtbfgjadbfjkcdaaGreatDoorPar
import Derived.Test.YtbfgjadbfjkcdaaGreatDoorPas
import Derived.Test.YtbfgjadbfjkcdaaGreatDoorPat
import Derived.Test.YtbfgjadbfjkcdaaGreatDoorPaw
set_option maxHeartbeats 20000000
set_option linter.all false
namespace Go.Proofs.YtbfgjadbfjkcdaaGreatDoor
namespace GL
theorem I9:∀ {l:List ByteArray} {out:ByteArray},out.size≤2048→(dw l out).1.size≤2048
 |[],out,h=>h
 |x::l,out,h=>by
  cases h1:decide ((x.size:Int) > 2048) with
  |true=>rw [M1 h1];exact Nat.zero_le _
  |false=>cases h2:decide (((out++bQ x.size++⟨#[58]⟩++x).size:Int) > 2048) with
   |true=>rw [M0 h2];exact Nat.zero_le _
   |false=>rw [MZ h1 h2];exact I9 (by have:=ca h2;omega)
theorem PT (l:List ByteArray):(cz l).1.size≤2048:=by
 cases h:decide ((l.length:Int)≤60) with
 |true=>rw [gv h];exact I9 (Nat.zero_le _)
 |false=>rw [tN h];exact Nat.zero_le _
theorem W4 (n:fl):(az n).size≤2048:=by
 unfold az
 cases cm n with
 |false=>exact Nat.zero_le _
 |true=>exact PT _
def th (S:ax) (t:aZ) (k:Int) (n:fl):Prop:=S.wg 1046000∧t.ok∧0≤k∧k≤15
def pA (S:ax) (t:aZ) (k:Int) (n:fl):AV:=.t [.a (lA 0 1 2 5 6 (aU S t k (az n)).1),trA (aU S t k (az n)).2.1, .s (.q (aU S t k (az n)).2.2)]
def sd (S:ax) (t:aZ) (k:Int) (n:fl):List AV:=[.rs aa (aU S t k (az n)).1.rows, .rs ae (aU S t k (az n)).1.refs, .rs ae (aU S t k (az n)).1.last, .zz, .zz, .rs ab (aU S t k (az n)).1.gone, .rs ab (aU S t k (az n)).1.dead]
def vU:Con where
 A:=[.a (stB 0 1 2 3 4), .a [.int, .int, .int, .int, .int, .int, .int], .s .int, .a [.int, .int, .int, .int, .int, .int, .int, .int, .int, .int]]
 B:=[.r aa, .r ae, .r ae, .r ab, .r ab]
 pre:=fun x b=>whole x.1.1 x.1.2.1 x.1.2.2.1 x.1.2.2.2.2.1 x.1.2.2.2.2.2.2.1 (b.1) (b.2.1) (b.2.2.1) (b.2.2.2.1) (b.2.2.2.2)∧th ((b.1,b.2.1,b.2.2.1,x.1.2.2.2.1,b.2.2.2.1,x.1.2.2.2.2.2.1,b.2.2.2.2,x.1.2.2.2.2.2.2.2)) (x.2.1) (x.2.2.1) (x.2.2.2)
 α:=fun _ _=>Unit
 φ:=fun _ _ _=>True
 r:=fun x b _=>pA ((b.1,b.2.1,b.2.2.1,x.1.2.2.2.1,b.2.2.2.1,x.1.2.2.2.2.2.1,b.2.2.2.2,x.1.2.2.2.2.2.2.2)) (x.2.1) (x.2.2.1) (x.2.2.2)
 o:=fun x b _=>sd ((b.1,b.2.1,b.2.2.1,x.1.2.2.2.1,b.2.2.2.1,x.1.2.2.2.2.2.1,b.2.2.2.2,x.1.2.2.2.2.2.2.2)) (x.2.1) (x.2.2.1) (x.2.2.2)
 nf:=2
 mv:=true
set_option maxRecDepth 100000 in
theorem TM:Has Tryz.prog 63 vU:=by
 refine Has.ofZ (fun _=>true) (fun _=>false) (fun _=>false) (l:=[(77,sK),(18,eo)]) ⟨ML,lY,trivial⟩ (fn:=Tryz.f63) Tryz.func63 rfl (by decide) (cH rfl) ?_
 rintro ⟨⟨(AS:Nat),(AR:Nat),(AQ:Nat),(an:Int),(AO:Nat),(ao:Int),(AN:Nat),(aq:Bool)⟩,⟨(t1:Int),(t2:Int),(t3:Int),(t4:Int),(t5:Int),(t6:Int),(t7:Int)⟩,(k:Int),⟨(n1:Int),(n2:Int),(n3:Int),(n4:Int),(n5:Int),(n6:Int),(n7:Int),(n8:Int),(n9:Int),(ck:Int)⟩⟩ ⟨(ai:List ByteArray),(aj:List Int),(ak:List Int),(ag:List Pt),(ah:List Pt)⟩ ⟨⟨(gr:AS=List.length ai),(gq:AR=List.length aj),(gp:AQ=List.length ak),(gn:AO=List.length ag),(gm:AN=List.length ah)⟩,(hp:th (ai,aj,ak,an,ag,ao,ah,aq) (t1,t2,t3,t4,t5,t6,t7) k (n1,n2,n3,n4,n5,n6,n7,n8,n9,ck))⟩
 subst gr gq gp gn gm
 show vc _ _ _ _ (entry [.a [.xs 0 1 0 ai.length, .xs 1 1 0 aj.length, .xs 2 1 0 ak.length, .int an, .xs 3 5 0 ag.length, .int ao, .xs 4 5 0 ah.length, .q aq], .a [.int t1, .int t2, .int t3, .int t4, .int t5, .int t6, .int t7], .int k, .a [.int n1, .int n2, .int n3, .int n4, .int n5, .int n6, .int n7, .int n8, .int n9, .int ck]] [.rs aa ai, .rs ae aj, .rs ae ak, .rs ab ag, .rs ab ah]) _
 obtain ⟨ll,cq,hk0,ET⟩:=hp
 have ll:ax.wg (ai,aj,ak,an,ag,ao,ah,aq) 1046000:=ll
 have cq:aZ.ok (t1,t2,t3,t4,t5,t6,t7):=cq
 have db:=W4 (n1,n2,n3,n4,n5,n6,n7,n8,n9,ck)
 refine ⟨[.s 4, .b 1004],[.s 11],rfl,[.s 5, .b 1005],[.s 12],rfl,[.s 2],[.s 13],rfl,[.s 7, .b 1007],[.s 14],rfl,[.s 14],[.s 15],rfl,⟨⟨⟨tv,tv,tv,tv,tv,tv,tv,tv,tv,tv,tv⟩,tv⟩,tv⟩,?_,fun x1 w2=>⟨[.s 11, .s 12, .s 13, .s 15, .b 0, .b 1, .b 2, .b 3, .b 4, .b 1000170001, .b 1000170000],[.s 16, .b 0, .b 1, .b 2, .b 3, .b 4, .b 1000170000, .b 1000170001],rfl,⟨⟨⟨tv,tv,tv,tv,tv,tv,tv,tv,tv⟩,⟨tv,tv,tv,tv,tv,tv,tv,tv⟩,tv,tv,tv⟩,⟨?_,?_,?_,?_,?_⟩,?_,?_,?_,?_,?_,?_,?_,?_⟩,?_,fun |false=>fun w3=>⟨[.s 16],[.s 17],rfl,[.s 16],[.s 18],rfl,[.s 16],[.s 19],rfl,[.s 8, .s 17, .b 1008],[.b 1008],rfl,[.s 9, .s 18, .b 1009],[.b 1009],rfl,[.s 19],[.s 10],rfl,?_⟩ |true=>fun w4=>⟨[.s 16],[.s 17],rfl,[.s 16],[.s 18],rfl,[.s 16],[.s 19],rfl,[.s 8, .s 17, .b 1008],[.b 1008],rfl,[.s 9, .s 18, .b 1009],[.b 1009],rfl,[.s 19],[.s 10],rfl,?_⟩⟩⟩
 all_goals first|refine au ?_|refine aw ?_|exact sa|(dsimp only [sK,qU];omega)|(dsimp only [eo,fD];omega)|exact sb|exact ll.wf|exact cq.rd|exact cq.m1|exact ll.g|exact ll.d|exact Nat.le_trans db (by decide)|exact ⟨_,rfl⟩|skip
 ·have hz:(aU (ai,aj,ak,an,ag,ao,ah,aq) (t1,t2,t3,t4,t5,t6,t7) k (az (n1,n2,n3,n4,n5,n6,n7,n8,n9,ck))).2.2=false:=(show false=(aU (ai,aj,ak,an,ag,ao,ah,aq) (t1,t2,t3,t4,t5,t6,t7) k (az (n1,n2,n3,n4,n5,n6,n7,n8,n9,ck))).2.2 from w3).symm
  refine ⟨[3,4],[],_,_,_,rfl,rp,(),0,tv,?_,?_,rfl⟩
  ·(show _=pA (ai,aj,ak,an,ag,ao,ah,aq) (t1,t2,t3,t4,t5,t6,t7) k (n1,n2,n3,n4,n5,n6,n7,n8,n9,ck));unfold pA;first |(rw [hz];rfl) |rfl
  ·(show _=sd (ai,aj,ak,an,ag,ao,ah,aq) (t1,t2,t3,t4,t5,t6,t7) k (n1,n2,n3,n4,n5,n6,n7,n8,n9,ck));unfold sd;first |(rw [hz];rfl) |rfl
 ·have hz:(aU (ai,aj,ak,an,ag,ao,ah,aq) (t1,t2,t3,t4,t5,t6,t7) k (az (n1,n2,n3,n4,n5,n6,n7,n8,n9,ck))).2.2=true:=(show true=(aU (ai,aj,ak,an,ag,ao,ah,aq) (t1,t2,t3,t4,t5,t6,t7) k (az (n1,n2,n3,n4,n5,n6,n7,n8,n9,ck))).2.2 from w4).symm
  refine ⟨[1000170000,1000170001],[],_,_,_,rfl,rp,(),0,tv,?_,?_,rfl⟩
  ·(show _=pA (ai,aj,ak,an,ag,ao,ah,aq) (t1,t2,t3,t4,t5,t6,t7) k (n1,n2,n3,n4,n5,n6,n7,n8,n9,ck));unfold pA;first |(rw [hz];rfl) |rfl
  ·(show _=sd (ai,aj,ak,an,ag,ao,ah,aq) (t1,t2,t3,t4,t5,t6,t7) k (n1,n2,n3,n4,n5,n6,n7,n8,n9,ck));unfold sd;first |(rw [hz];rfl) |rfl
theorem ac0:∀ {f:Nat} {s:ByteArray},∀x∈pcF f s,x.size≤s.size
 |0,s,x,h=>by cases h
 |f+1,s,x,h=>by
  cases h1:decide ((s.size:Int) > 128) with
  |true=>
   rw [ac3 h1] at h
   rcases List.mem_cons.1 h with h |h
   ·rw [h,ByteArray.size_extract];omega
   ·have:=ac0 x h
    rw [ByteArray.size_extract] at this;omega
  |false=>cases h2:decide (s≠⟨#[]⟩) with
   |true=>rw [ac2 h1 h2] at h;rw [List.mem_singleton.1 h];exact Nat.le_refl _
   |false=>rw [ac1 h1 h2] at h;cases h
def BW (S:ax) (t:aZ) (text:ByteArray):Prop:=S.wg 1045000∧t.ok∧text.size≤1000000
def jD (S:ax) (t:aZ) (text:ByteArray):AV:=.t [.a (lA 0 1 2 5 6 (dB S t text).1),trA (dB S t text).2.1, .s (.q (dB S t text).2.2)]
def lT (S:ax) (t:aZ) (text:ByteArray):List AV:=[.rs aa (dB S t text).1.rows, .rs ae (dB S t text).1.refs, .rs ae (dB S t text).1.last, .zz, .zz, .rs ab (dB S t text).1.gone, .rs ab (dB S t text).1.dead]
def P0:Con where
 A:=[.a (stB 0 1 2 3 4), .a [.int, .int, .int, .int, .int, .int, .int], .s .str]
 B:=[.r aa, .r ae, .r ae, .r ab, .r ab]
 pre:=fun x b=>whole x.1.1 x.1.2.1 x.1.2.2.1 x.1.2.2.2.2.1 x.1.2.2.2.2.2.2.1 (b.1) (b.2.1) (b.2.2.1) (b.2.2.2.1) (b.2.2.2.2)∧BW ((b.1,b.2.1,b.2.2.1,x.1.2.2.2.1,b.2.2.2.1,x.1.2.2.2.2.2.1,b.2.2.2.2,x.1.2.2.2.2.2.2.2)) (x.2.1) (x.2.2)
 α:=fun _ _=>Unit
 φ:=fun _ _ _=>True
 r:=fun x b _=>jD ((b.1,b.2.1,b.2.2.1,x.1.2.2.2.1,b.2.2.2.1,x.1.2.2.2.2.2.1,b.2.2.2.2,x.1.2.2.2.2.2.2.2)) (x.2.1) (x.2.2)
 o:=fun x b _=>lT ((b.1,b.2.1,b.2.2.1,x.1.2.2.2.1,b.2.2.2.1,x.1.2.2.2.2.2.1,b.2.2.2.2,x.1.2.2.2.2.2.2.2)) (x.2.1) (x.2.2)
 nf:=2
 mv:=true
set_option maxRecDepth 100000 in
theorem af4:Has Tryz.prog 130 P0:=by
 refine Has.ofZ (fun _=>true) (fun _=>false) (fun _=>false) (l:=[(153,qk),(18,eo),(135,mb)]) ⟨ID,lY,zI,trivial⟩ (fn:=Tryz.f130) Tryz.func130 rfl (by decide) (cH rfl) ?_
 rintro ⟨⟨(AS:Nat),(AR:Nat),(AQ:Nat),(an:Int),(AO:Nat),(ao:Int),(AN:Nat),(aq:Bool)⟩,⟨(t1:Int),(t2:Int),(t3:Int),(t4:Int),(t5:Int),(t6:Int),(t7:Int)⟩,(text:ByteArray)⟩ ⟨(ai:List ByteArray),(aj:List Int),(ak:List Int),(ag:List Pt),(ah:List Pt)⟩ ⟨⟨(gr:AS=List.length ai),(gq:AR=List.length aj),(gp:AQ=List.length ak),(gn:AO=List.length ag),(gm:AN=List.length ah)⟩,(hp:BW (ai,aj,ak,an,ag,ao,ah,aq) (t1,t2,t3,t4,t5,t6,t7) text)⟩
 subst gr gq gp gn gm
 show vc _ _ _ _ (entry [.a [.xs 0 1 0 ai.length, .xs 1 1 0 aj.length, .xs 2 1 0 ak.length, .int an, .xs 3 5 0 ag.length, .int ao, .xs 4 5 0 ah.length, .q aq], .a [.int t1, .int t2, .int t3, .int t4, .int t5, .int t6, .int t7], .str text] [.rs aa ai, .rs ae aj, .rs ae ak, .rs ab ag, .rs ab ah]) _
 obtain ⟨ll,cq,hts⟩:=hp
 have ll:ax.wg (ai,aj,ak,an,ag,ao,ah,aq) 1045000:=ll
 have cq:aZ.ok (t1,t2,t3,t4,t5,t6,t7):=cq
 have hps:∀x∈kA text,x.size≤1000000:=fun x hx=>Nat.le_trans (ac0 x hx) hts
 refine ⟨⟨⟨tv,tv⟩,?_⟩,fun x1 w2=>⟨fun w3=>⟨[.s 3, .b 1003],[.s 19],rfl,[.s 4, .b 1004],[.s 20],rfl,[.s 6, .s 19, .b 1006],[.b 1006],rfl,[.s 7, .s 20, .b 1007],[.b 1007],rfl,[],[.s 8],rfl,?_⟩,fun w4=>?_⟩⟩
 all_goals first|refine au ?_|refine aw ?_|exact sa|(dsimp only [qk,lI];omega)|(dsimp only [eo,fD];omega)|(dsimp only [mb,mI];omega)|exact sb|skip
 ·have e:dB (ai,aj,ak,an,ag,ao,ah,aq) (t1,t2,t3,t4,t5,t6,t7) text=((ai,aj,ak,an,ag,ao,ah,aq),(t1,t2,t3,t4,t5,t6,t7),false):=by unfold dB;rw [w3];rfl
  refine ⟨[3,4],[],_,_,_,rfl,rp,(),0,tv,?_,?_,rfl⟩
  ·(show _=jD (ai,aj,ak,an,ag,ao,ah,aq) (t1,t2,t3,t4,t5,t6,t7) text);unfold jD;first |(rw [e];rfl) |rfl
  ·(show _=lT (ai,aj,ak,an,ag,ao,ah,aq) (t1,t2,t3,t4,t5,t6,t7) text);unfold lT;first |(rw [e];rfl) |rfl
 ·have hl:=ca w4
  have hM:dB (ai,aj,ak,an,ag,ao,ah,aq) (t1,t2,t3,t4,t5,t6,t7) text=KB (iO (kA text) 0 (ai,aj,ak,an,ag,ao,ah,aq) (t1,t2,t3,t4,t5,t6,t7)) (kA text).length:=by unfold dB;rw [w4];rfl
  refine cI (l:=[(153,qk),(18,eo),(135,mb)]) (ex:=fun _=>true) (wr:=fun _=>false) (pt:=fun _=>false) ⟨ID,lY,zI,tv⟩ [.s 6, .s 7, .b 1006, .b 1007, .s 9, .b 160000] (fun y:Nat×ax×aZ=>[(.s 3, .s (.bp 1003 0)),(.s 4, .s (.bp 1004 0)),(.s 10, .int y.1),(.b 1003, .a (lA 0 1 2 1000000001 1000000002 y.2.1)),(.b 0, .rs aa y.2.1.rows),(.b 1, .rs ae y.2.1.refs),(.b 2, .rs ae y.2.1.last),(.b 1000000001, .rs ab y.2.1.gone),(.b 1000000002, .rs ab y.2.1.dead),(.b 1004, .a [.int y.2.2.1, .int y.2.2.2.1, .int y.2.2.2.2.1, .int y.2.2.2.2.2.1, .int y.2.2.2.2.2.2.1, .int y.2.2.2.2.2.2.2.1, .int y.2.2.2.2.2.2.2.2])]) (fun y=>y.2.1.wg (1045000+6 * y.1)∧y.2.2.ok∧y.1≤(kA text).length∧iO ((kA text).drop y.1) y.1 y.2.1 y.2.2=iO (kA text) 0 (ai,aj,ak,an,ag,ao,ah,aq) (t1,t2,t3,t4,t5,t6,t7)) (fun y=>(kA text).length - y.1) (0,(ai,aj,ak,an,ag,ao,ah,aq),(t1,t2,t3,t4,t5,t6,t7)) [(1000000001,3),(1000000002,4)] ⟨ll,cq,Nat.zero_le _,rfl⟩ ru ?_
  rintro ⟨i,u,tt⟩ ⟨(hu:u.wg (1045000+6 * i)),(ht:tt.ok),(hi:i≤(kA text).length),(hr:iO ((kA text).drop i) i u tt=iO (kA text) 0 (ai,aj,ak,an,ag,ao,ah,aq) (t1,t2,t3,t4,t5,t6,t7))⟩
  have bM:decide ((i:Int) < ((kA text).length:Int))=true→i < (kA text).length:=fun h=>by have:=cw h;omega
  have hxs:i < (kA text).length→(nth aa (kA text) i).size≤1000000:=fun h=>hps _ (bS (ek:=aa) h)
  have hpo:=fun h:i < 16=>nq (k:=(i:Int)) (text:=nth aa (kA text) i) hu ht (by omega) (by omega)
  have ajy:∀r,iO (kA text) 0 (ai,aj,ak,an,ag,ao,ah,aq) (t1,t2,t3,t4,t5,t6,t7)=r→r.2.2=false→dB (ai,aj,ak,an,ag,ao,ah,aq) (t1,t2,t3,t4,t5,t6,t7) text=r:=fun r h1 h2=>by rw [hM,h1];unfold KB;rw [h2];rfl
  refine ⟨fun w1=>⟨[.s 3, .b 1003],[.s 28],rfl,[.s 4, .b 1004],[.s 29],rfl,[.s 10],[.s 30],rfl,[.s 9],[.s 31],rfl,[.s 10],[.s 32],rfl,[.s 31, .s 32],[.s 33],rfl,⟨?_,?_⟩,[.s 33, .b 160000],[.s 34],rfl,?_,[.s 28, .s 29, .s 30, .s 34, .b 0, .b 1, .b 2, .b 1000000001, .b 1000000002, .b 1000360001, .b 1000360000],[.s 35, .b 0, .b 1, .b 2, .b 1000000001, .b 1000000002, .b 1000360000, .b 1000360001],rfl,⟨⟨⟨tv,tv,tv,tv,tv,tv,tv,tv,tv⟩,⟨tv,tv,tv,tv,tv,tv,tv,tv⟩,tv,tv,tv⟩,⟨?_,?_,?_,?_,?_⟩,?_,?_,?_,?_,?_,?_,?_,?_⟩,?_,fun |false=>fun w2=>⟨[.s 35],[.s 27],rfl,[.s 27],[.s 36],rfl,[.s 27],[.s 37],rfl,[.s 27],[.s 38],rfl,[.b 1011],[.s 11, .b 1011],rfl,[.b 1012],[.s 12, .b 1012],rfl,[.s 11, .s 36, .b 1011],[.b 1011],rfl,[.s 12, .s 37, .b 1012],[.b 1012],rfl,[.s 38],[.s 13],rfl,fun w3=>⟨[.s 3, .b 1003],[.s 41],rfl,[.s 4, .b 1004],[.s 42],rfl,[.s 6, .s 41, .b 1006],[.b 1006],rfl,[.s 7, .s 42, .b 1007],[.b 1007],rfl,[],[.s 8],rfl,?_⟩,fun w4=>⟨⟨?_,?_⟩,?_⟩⟩ |true=>fun w5=>⟨[.s 35],[.s 27],rfl,[.s 27],[.s 36],rfl,[.s 27],[.s 37],rfl,[.s 27],[.s 38],rfl,[.b 1011],[.s 11, .b 1011],rfl,[.b 1012],[.s 12, .b 1012],rfl,[.s 11, .s 36, .b 1011],[.b 1011],rfl,[.s 12, .s 37, .b 1012],[.b 1012],rfl,[.s 38],[.s 13],rfl,fun w6=>⟨[.s 3, .b 1003],[.s 41],rfl,[.s 4, .b 1004],[.s 42],rfl,[.s 6, .s 41, .b 1006],[.b 1006],rfl,[.s 7, .s 42, .b 1007],[.b 1007],rfl,[],[.s 8],rfl,?_⟩,fun w7=>⟨⟨?_,?_⟩,?_⟩⟩⟩,fun w8=>⟨⟨⟨⟨tv,tv,tv,tv,tv,tv,tv,tv,tv⟩,⟨tv,tv,tv,tv,tv,tv,tv,tv⟩,tv,tv⟩,⟨?_,?_,?_,?_,?_⟩,?_,?_,?_,?_,?_,?_⟩,fun |false=>fun w9=>?_ |true=>fun df=>?_⟩⟩
  all_goals first|refine au ?_|refine aw ?_|exact sa|(dsimp only [qk,lI];omega)|(dsimp only [eo,fD];omega)|(dsimp only [mb,mI];omega)|exact sb|exact bM w1|exact hu.wf|exact ht.rd|exact ht.m1|exact Nat.le_trans hu.g (by omega)|exact Nat.le_trans hu.d (by omega)|exact hxs (bM w1)|exact ⟨_,rfl⟩|exact Int.natCast_nonneg _|(show ((kA text).length:Int)≤16;omega)|skip
  ·have mo:=bM w1
   have hz:(aU u tt i (nth aa (kA text) i)).2.2=false:=(show false=(aU u tt i (nth aa (kA text) i)).2.2 from w2).symm
   have xl:=(hpo (by omega)).2.2 hz
   have e:dB (ai,aj,ak,an,ag,ao,ah,aq) (t1,t2,t3,t4,t5,t6,t7) text=((aU u tt i (nth aa (kA text) i)).1,tt,false):=ajy _ (by rw [←hr,bP (ek:=aa) mo,OC hz]) rfl
   refine ⟨[1000000001,1000000002],[],_,_,_,rfl,rp,(),0,tv,?_,?_,rfl⟩
   ·(show _=jD (ai,aj,ak,an,ag,ao,ah,aq) (t1,t2,t3,t4,t5,t6,t7) text);unfold jD;first |(rw [e];rfl) |(rw [e];exact congrArg (fun x=>AV.t [A0.a x,trA tt,A0.s (SV.q false)]) (nD (b0:=0) (b1:=1) (b2:=2) (b3:=5) (b4:=6) xl hu.wf)) |(rw [e];have h3:=xl.gone;have h4:=xl.dead;exact congr (congrArg (fun (a b:List Pt)=>[AV.rs aa (aU u tt i (nth aa (kA text) i)).1.rows,AV.rs ae (aU u tt i (nth aa (kA text) i)).1.refs,AV.rs ae (aU u tt i (nth aa (kA text) i)).1.last,AV.zz,AV.zz,AV.rs ab a,AV.rs ab b]) h3.symm) h4.symm) |rfl
   ·(show _=lT (ai,aj,ak,an,ag,ao,ah,aq) (t1,t2,t3,t4,t5,t6,t7) text);unfold lT;first |(rw [e];rfl) |(rw [e];exact congrArg (fun x=>AV.t [A0.a x,trA tt,A0.s (SV.q false)]) (nD (b0:=0) (b1:=1) (b2:=2) (b3:=5) (b4:=6) xl hu.wf)) |(rw [e];have h3:=xl.gone;have h4:=xl.dead;exact congr (congrArg (fun (a b:List Pt)=>[AV.rs aa (aU u tt i (nth aa (kA text) i)).1.rows,AV.rs ae (aU u tt i (nth aa (kA text) i)).1.refs,AV.rs ae (aU u tt i (nth aa (kA text) i)).1.last,AV.zz,AV.zz,AV.rs ab a,AV.rs ab b]) h3.symm) h4.symm) |rfl
  ·exact absurd (show true=false from w4) Bool.noConfusion
  ·exact absurd (show false=true from w6) Bool.noConfusion
  ·have mo:=bM w1
   have hz:(aU u tt i (nth aa (kA text) i)).2.2=true:=(show true=(aU u tt i (nth aa (kA text) i)).2.2 from w5).symm
   have h2:=hpo (by omega)
   refine ⟨(i+1,(aU u tt i (nth aa (kA text) i)).1,(aU u tt i (nth aa (kA text) i)).2.1),[(1000000001,1000360000),(1000000002,1000360001)],?_,?_,?_⟩
   rotate_right
   ·exact rq
   ·exact ⟨h2.1.mono (by show 1045000+6 * i+6≤1045000+6 * (i+1);omega),h2.2.1,mo,by rw [←hr,bP (ek:=aa) mo,OB hz]⟩
   ·show (kA text).length - (i+1) < (kA text).length - i;omega
  ·have FJ:=ca (p:=(i:Int) < ((kA text).length:Int)) w8
   have e0:iO (kA text) 0 (ai,aj,ak,an,ag,ao,ah,aq) (t1,t2,t3,t4,t5,t6,t7)=(u,tt,true):=by rw [←hr,List.drop_eq_nil_of_le (by omega)];rfl
   have hz:(cA u tt (kA text).length).2.2=false:=(show false=(cA u tt (kA text).length).2.2 from w9).symm
   have e:dB (ai,aj,ak,an,ag,ao,ah,aq) (t1,t2,t3,t4,t5,t6,t7) text=cA u tt (kA text).length:=by rw [hM,e0];rfl
   refine ⟨[1000000001,1000000002],[],_,_,_,rfl,rp,(),0,tv,?_,?_,rfl⟩
   ·(show _=jD (ai,aj,ak,an,ag,ao,ah,aq) (t1,t2,t3,t4,t5,t6,t7) text);unfold jD;first |(rw [e,hz];rfl) |(rw [e];rfl) |rfl
   ·(show _=lT (ai,aj,ak,an,ag,ao,ah,aq) (t1,t2,t3,t4,t5,t6,t7) text);unfold lT;first |(rw [e,hz];rfl) |(rw [e];rfl) |rfl
  ·have FJ:=ca (p:=(i:Int) < ((kA text).length:Int)) w8
   have e0:iO (kA text) 0 (ai,aj,ak,an,ag,ao,ah,aq) (t1,t2,t3,t4,t5,t6,t7)=(u,tt,true):=by rw [←hr,List.drop_eq_nil_of_le (by omega)];rfl
   have hz:(cA u tt (kA text).length).2.2=true:=(show true=(cA u tt (kA text).length).2.2 from df).symm
   have e:dB (ai,aj,ak,an,ag,ao,ah,aq) (t1,t2,t3,t4,t5,t6,t7) text=cA u tt (kA text).length:=by rw [hM,e0];rfl
   refine ⟨[1000500000,1000500001],[],_,_,_,rfl,rp,(),0,tv,?_,?_,rfl⟩
   ·(show _=jD (ai,aj,ak,an,ag,ao,ah,aq) (t1,t2,t3,t4,t5,t6,t7) text);unfold jD;first |(rw [e,hz];rfl) |(rw [e];rfl) |rfl
   ·(show _=lT (ai,aj,ak,an,ag,ao,ah,aq) (t1,t2,t3,t4,t5,t6,t7) text);unfold lT;first |(rw [e,hz];rfl) |(rw [e];rfl) |rfl
end GL
namespace GL
theorem FT {s:ax}:∀ {f:Nat} {l out r:List Pt},jZ f s l out=some r→(∀p∈l,aV p=true)→(∀p∈out,aV p=true)→(∀p∈r,aV p=true)∧r.length≤out.length+f
 |0,l,out,r,h,_,_=>by rw [jZ] at h;cases h
 |f+1,[],out,r,h,_,ho=>by rw [jZ] at h;have h:=Option.some.inj h;rw [←h];exact ⟨ho,by omega⟩
 |f+1,p::l,out,r,h,hl,ho=>by
  have hp:=hl p (by simp)
  have hl':∀q∈l,aV q=true:=fun q hq=>hl q (by simp [hq])
  have ho':∀q∈out++[p],aV q=true:=fun q hq=>by
   rcases List.mem_append.1 hq with hq |hq
   ·exact ho q hq
   ·rw [List.mem_singleton.1 hq];exact hp
  have hlen:(out++[p]).length=out.length+1:=by rw [List.length_append];rfl
  rw [jZ] at h
  cases hh:ar p with
  |true=>rw [hh,cond_true] at h;have:=FT h hl' ho;exact ⟨this.1,by omega⟩
  |false=>
   rw [hh,cond_false] at h
   cases hv:decide (p.2.2.2.2 > 0) with
   |true=>
    rw [hv,cond_true] at h
    have:=FT h (fun q hq=>by
     rcases List.mem_append.1 hq with hq |hq
     ·exact sL s p _ q hq
     ·exact hl' q hq) ho'
    exact ⟨this.1,by have:=this.2;omega⟩
   |false=>rw [hv,cond_false] at h;have:=FT h hl' ho';exact ⟨this.1,by have:=this.2;omega⟩
theorem aaI {s:ax} {t:aZ} (h:aV t.root=true):(∀p∈allM s t,aV p=true)∧(allM s t).length≤40:=by
 unfold allM
 cases he:jZ 40 s [t.root] [] with
 |none=>exact ⟨fun p hp=>absurd (show p∈([]:List Pt) from hp) List.not_mem_nil,Nat.zero_le _⟩
 |some r=>
  have:=FT he (fun p hp=>by rw [List.mem_singleton.1 hp];exact h) (fun p hp=>absurd hp List.not_mem_nil)
  exact ⟨this.1,by have:=this.2;rw [List.length_nil] at this;show r.length≤40;omega⟩
theorem QE:(cO nz).ok:=QD
theorem nW {n:fl} (h:cm n=true):(cO n).ok:=by
 obtain ⟨_,_,_,b4,b5,b6,_,_,_⟩:=lh h
 exact ⟨⟨b4.2,b6⟩,b5.1,b5.2⟩
theorem OY (s:ByteArray):(cO (bm s).1).ok:=by
 cases h:(bm s).2 with
 |true=>exact nW (W5 h)
 |false=>rw [W6 h];exact QE
theorem o0 (s:ax) (t:aZ) (k:Int):(cO (cF s t k).1).ok:=by
 unfold cF
 cases !(ir k 0 (t.many - 1)) with
 |true=>exact QE
 |false=>exact OY _
def xI (s:ax) (t:aZ) (k:Int):ax:=dq (allM s (cO (cF s t k).1)) s
theorem q9 (s:ax) (t:aZ) (k:Int):ch s t k=bif !(aU (xI s t k) t k ⟨#[]⟩).2.2 then ((aU (xI s t k) t k ⟨#[]⟩).1,(aU (xI s t k) t k ⟨#[]⟩).2.1,false) else cA (aU (xI s t k) t k ⟨#[]⟩).1 (aU (xI s t k) t k ⟨#[]⟩).2.1 (mw s t k):=rfl
def vf (S:ax) (t:aZ) (k:Int):Prop:=S.wg 1045000∧t.ok∧0≤k∧k≤15∧ND S (cO (cF S t k).1)=true
def ja (S:ax) (t:aZ) (k:Int):AV:=.t [.a (lA 0 1 2 5 6 (ch S t k).1),trA (ch S t k).2.1, .s (.q (ch S t k).2.2)]
def kL (S:ax) (t:aZ) (k:Int):List AV:=[.rs aa (ch S t k).1.rows, .rs ae (ch S t k).1.refs, .rs ae (ch S t k).1.last, .zz, .zz, .rs ab (ch S t k).1.gone, .rs ab (ch S t k).1.dead]
def DA:Con where
 A:=[.a (stB 0 1 2 3 4), .a [.int, .int, .int, .int, .int, .int, .int], .s .int]
 B:=[.r aa, .r ae, .r ae, .r ab, .r ab]
 pre:=fun x b=>whole x.1.1 x.1.2.1 x.1.2.2.1 x.1.2.2.2.2.1 x.1.2.2.2.2.2.2.1 (b.1) (b.2.1) (b.2.2.1) (b.2.2.2.1) (b.2.2.2.2)∧vf ((b.1,b.2.1,b.2.2.1,x.1.2.2.2.1,b.2.2.2.1,x.1.2.2.2.2.2.1,b.2.2.2.2,x.1.2.2.2.2.2.2.2)) (x.2.1) (x.2.2)
 α:=fun _ _=>Unit
 φ:=fun _ _ _=>True
 r:=fun x b _=>ja ((b.1,b.2.1,b.2.2.1,x.1.2.2.2.1,b.2.2.2.1,x.1.2.2.2.2.2.1,b.2.2.2.2,x.1.2.2.2.2.2.2.2)) (x.2.1) (x.2.2)
 o:=fun x b _=>kL ((b.1,b.2.1,b.2.2.1,x.1.2.2.2.1,b.2.2.2.1,x.1.2.2.2.2.2.1,b.2.2.2.2,x.1.2.2.2.2.2.2.2)) (x.2.1) (x.2.2)
 nf:=2
 mv:=true
set_option maxRecDepth 100000 in
theorem abV:Has Tryz.prog 107 DA:=by
 refine Has.ofZ (fun _=>true) (fun _=>false) (fun _=>false) (l:=[(132,jx),(133,sH),(134,AA),(50,cE),(18,eo),(135,mb)]) ⟨vA,MF,Z3,gl,lY,zI,trivial⟩ (fn:=Tryz.f107) Tryz.func107 rfl (by decide) (cH rfl) ?_
 rintro ⟨⟨(AS:Nat),(AR:Nat),(AQ:Nat),(an:Int),(AO:Nat),(ao:Int),(AN:Nat),(aq:Bool)⟩,⟨(t1:Int),(t2:Int),(t3:Int),(t4:Int),(t5:Int),(t6:Int),(t7:Int)⟩,(k:Int)⟩ ⟨(ai:List ByteArray),(aj:List Int),(ak:List Int),(ag:List Pt),(ah:List Pt)⟩ ⟨⟨(gr:AS=List.length ai),(gq:AR=List.length aj),(gp:AQ=List.length ak),(gn:AO=List.length ag),(gm:AN=List.length ah)⟩,(hp:vf (ai,aj,ak,an,ag,ao,ah,aq) (t1,t2,t3,t4,t5,t6,t7) k)⟩
 subst gr gq gp gn gm
 show vc _ _ _ _ (entry [.a [.xs 0 1 0 ai.length, .xs 1 1 0 aj.length, .xs 2 1 0 ak.length, .int an, .xs 3 5 0 ag.length, .int ao, .xs 4 5 0 ah.length, .q aq], .a [.int t1, .int t2, .int t3, .int t4, .int t5, .int t6, .int t7], .int k] [.rs aa ai, .rs ae aj, .rs ae ak, .rs ab ag, .rs ab ah]) _
 obtain ⟨ll,cq,hk0,ET,hen⟩:=hp
 have ll:ax.wg (ai,aj,ak,an,ag,ao,ah,aq) 1045000:=ll
 have cq:aZ.ok (t1,t2,t3,t4,t5,t6,t7):=cq
 have hna:=aaI (s:=(ai,aj,ak,an,ag,ao,ah,aq)) (o0 (ai,aj,ak,an,ag,ao,ah,aq) (t1,t2,t3,t4,t5,t6,t7) k).rd.ok
 have hlm:=IB (s:=(ai,aj,ak,an,ag,ao,ah,aq)) cq k
 refine ⟨⟨⟨⟨⟨?_,?_⟩,⟨?_,?_⟩,⟨?_,?_⟩,tv,⟨?_,?_⟩,tv,⟨?_,?_⟩,tv,tv⟩,⟨tv,tv,tv,tv,tv,tv,tv,tv⟩,tv,tv⟩,?_,?_⟩,fun x1 w2=>⟨⟨⟨⟨⟨?_,?_⟩,⟨?_,?_⟩,⟨?_,?_⟩,tv,⟨?_,?_⟩,tv,⟨?_,?_⟩,tv,tv⟩,⟨tv,tv,tv,tv,tv,tv,tv,tv⟩,tv,tv⟩,?_,?_⟩,fun x3 w4=>⟨⟨⟨⟨⟨?_,?_⟩,⟨?_,?_⟩,⟨?_,?_⟩,tv,⟨?_,?_⟩,tv,⟨?_,?_⟩,tv,tv⟩,⟨tv,tv,tv,tv,tv,tv,tv,tv⟩,tv⟩,?_,?_⟩,fun x5 w6=>?_⟩⟩⟩
 all_goals first|refine au ?_|refine aw ?_|exact sa|(dsimp only [jx,kI];omega)|(dsimp only [sH,qR];omega)|(dsimp only [AA,wF];omega)|(dsimp only [cE,dD];omega)|(dsimp only [eo,fD];omega)|(dsimp only [mb,mI];omega)|exact sb|exact ll.wf.rd|exact cq|exact hen|skip
 refine cI (l:=[(132,jx),(133,sH),(134,AA),(50,cE),(18,eo),(135,mb)]) (ex:=fun _=>true) (wr:=fun _=>false) (pt:=fun _=>false) ⟨vA,MF,Z3,gl,lY,zI,tv⟩ [.s 2, .s 3, .s 4, .b 1004, .s 6, .s 7, .b 1006, .b 1007, .s 11, .s 12, .b 300000] (fun y:Nat×ax=>[(.s 13, .int y.1),(.b 1003, .a (lA 0 1 2 1000000001 1000000002 y.2)),(.b 0, .rs aa y.2.rows),(.b 1, .rs ae y.2.refs),(.b 2, .rs ae y.2.last),(.b 1000000001, .rs ab y.2.gone),(.b 1000000002, .rs ab y.2.dead)]) (fun y=>y.2.wg (1045000+y.1)∧y.1≤(allM (ai,aj,ak,an,ag,ao,ah,aq) (cO (cF (ai,aj,ak,an,ag,ao,ah,aq) (t1,t2,t3,t4,t5,t6,t7) k).1)).length∧dq ((allM (ai,aj,ak,an,ag,ao,ah,aq) (cO (cF (ai,aj,ak,an,ag,ao,ah,aq) (t1,t2,t3,t4,t5,t6,t7) k).1)).drop y.1) y.2=xI (ai,aj,ak,an,ag,ao,ah,aq) (t1,t2,t3,t4,t5,t6,t7) k) (fun y=>(allM (ai,aj,ak,an,ag,ao,ah,aq) (cO (cF (ai,aj,ak,an,ag,ao,ah,aq) (t1,t2,t3,t4,t5,t6,t7) k).1)).length - y.1) (0,(ai,aj,ak,an,ag,ao,ah,aq)) [(1000000001,3),(1000000002,4)] ⟨ll,Nat.zero_le _,rfl⟩ ru ?_
 rintro ⟨i,u⟩ ⟨(hu:u.wg (1045000+i)),(hi:i≤(allM (ai,aj,ak,an,ag,ao,ah,aq) (cO (cF (ai,aj,ak,an,ag,ao,ah,aq) (t1,t2,t3,t4,t5,t6,t7) k).1)).length),(hr:dq ((allM (ai,aj,ak,an,ag,ao,ah,aq) (cO (cF (ai,aj,ak,an,ag,ao,ah,aq) (t1,t2,t3,t4,t5,t6,t7) k).1)).drop i) u=xI (ai,aj,ak,an,ag,ao,ah,aq) (t1,t2,t3,t4,t5,t6,t7) k)⟩
 have bM:decide ((i:Int) < ((allM (ai,aj,ak,an,ag,ao,ah,aq) (cO (cF (ai,aj,ak,an,ag,ao,ah,aq) (t1,t2,t3,t4,t5,t6,t7) k).1)).length:Int))=true→i < (allM (ai,aj,ak,an,ag,ao,ah,aq) (cO (cF (ai,aj,ak,an,ag,ao,ah,aq) (t1,t2,t3,t4,t5,t6,t7) k).1)).length:=fun h=>by have:=cw h;omega
 have hia:=nT (oA hna.1 i)
 have I2:=o6 u (nth ab (allM (ai,aj,ak,an,ag,ao,ah,aq) (cO (cF (ai,aj,ak,an,ag,ao,ah,aq) (t1,t2,t3,t4,t5,t6,t7) k).1)) i)
 have hpo:=nq (k:=k) (text:=⟨#[]⟩) hu cq hk0 ET
 have hg:=hu.g
 have hd:=hu.d
 have hlen:=hna.2
 refine ⟨fun w1=>⟨[.s 3, .b 1003],[.s 36],rfl,[.s 12],[.s 37],rfl,[.s 13],[.s 38],rfl,[.s 37, .s 38],[.s 39],rfl,⟨?_,?_⟩,[.s 39, .b 300000],[.s 40],rfl,?_,[.s 36, .s 40, .b 0, .b 1, .b 2, .b 1000000001, .b 1000000002, .b 1000420001, .b 1000420000],[.s 41, .b 0, .b 1, .b 2, .b 1000000001, .b 1000000002, .b 1000420000, .b 1000420001],rfl,⟨⟨⟨tv,tv,tv,tv,tv,tv,tv,tv,tv⟩,⟨tv,tv,tv,tv,tv,tv⟩,tv⟩,⟨?_,?_,?_,?_,?_⟩,⟨?_,?_,?_⟩,?_,?_,?_,?_⟩,?_,fun x2 w3=>⟨[.s 3, .s 41, .b 1003],[.b 1003],rfl,⟨?_,?_⟩,?_⟩⟩,fun w4=>⟨⟨⟨⟨tv,tv,tv,tv,tv,tv,tv,tv,tv⟩,⟨tv,tv,tv,tv,tv,tv,tv,tv⟩,tv,tv,tv⟩,⟨?_,?_,?_,?_,?_⟩,?_,?_,?_,?_,?_,?_,?_,?_⟩,fun |false=>fun w5=>⟨fun w6=>⟨[.s 3, .b 1003],[.s 52],rfl,[.s 4, .b 1004],[.s 53],rfl,[.s 6, .s 52, .b 1006],[.b 1006],rfl,[.s 7, .s 53, .b 1007],[.b 1007],rfl,[],[.s 8],rfl,?_⟩,fun w7=>⟨⟨⟨⟨tv,tv,tv,tv,tv,tv,tv,tv,tv⟩,⟨tv,tv,tv,tv,tv,tv,tv,tv⟩,tv,tv⟩,⟨?_,?_,?_,?_,?_⟩,?_,?_,?_,?_,?_,?_⟩,fun |false=>fun w8=>?_ |true=>fun w9=>?_⟩⟩ |true=>fun df=>⟨fun ka=>⟨[.s 3, .b 1003],[.s 52],rfl,[.s 4, .b 1004],[.s 53],rfl,[.s 6, .s 52, .b 1006],[.b 1006],rfl,[.s 7, .s 53, .b 1007],[.b 1007],rfl,[],[.s 8],rfl,?_⟩,fun dC=>⟨⟨⟨⟨tv,tv,tv,tv,tv,tv,tv,tv,tv⟩,⟨tv,tv,tv,tv,tv,tv,tv,tv⟩,tv,tv⟩,⟨?_,?_,?_,?_,?_⟩,?_,?_,?_,?_,?_,?_⟩,fun |false=>fun iA=>?_ |true=>fun gx=>?_⟩⟩⟩⟩
 all_goals first|refine au ?_|refine aw ?_|exact sa|(dsimp only [jx,kI];omega)|(dsimp only [sH,qR];omega)|(dsimp only [AA,wF];omega)|(dsimp only [cE,dD];omega)|(dsimp only [eo,fD];omega)|(dsimp only [mb,mI];omega)|exact sb|exact bM w1|exact hu.wf.n|exact hu.wf.n.1|exact hu.wf.n.2.1|exact hu.wf.n.2.2|exact hia.1|exact hia.2|exact Nat.le_trans hg (by omega)|exact Nat.le_trans hd (by omega)|exact hu.wf|exact cq.rd|exact cq.m1|exact ⟨_,rfl⟩|exact hpo.1.wf|exact hpo.2.1.rd|exact hlm.1|exact Nat.le_trans hpo.1.g (by omega)|exact Nat.le_trans hpo.1.d (by omega)|exact Int.le_trans hlm.2 cq.m1|(show (i:Int) < ((allM (ai,aj,ak,an,ag,ao,ah,aq) (cO (cF (ai,aj,ak,an,ag,ao,ah,aq) (t1,t2,t3,t4,t5,t6,t7) k).1)).length:Int);have:=bM w1;omega)|exact Nat.zero_le _|skip
 all_goals first |exact absurd (show true=false from w7) Bool.noConfusion |exact absurd (show false=true from ka) Bool.noConfusion |skip
 ·have mo:=bM w1
  refine ⟨(i+1,cG u (nth ab (allM (ai,aj,ak,an,ag,ao,ah,aq) (cO (cF (ai,aj,ak,an,ag,ao,ah,aq) (t1,t2,t3,t4,t5,t6,t7) k).1)) i)),[(1000000001,1000420000),(1000000002,1000420001)],?_,?_,?_⟩
  rotate_right
  ·exact rq
  ·refine ⟨⟨qf hu.wf,?_,?_,?_⟩,mo,by rw [←hr,bP (ek:=ab) mo];rfl⟩
   ·show (cG u (nth ab (allM (ai,aj,ak,an,ag,ao,ah,aq) (cO (cF (ai,aj,ak,an,ag,ao,ah,aq) (t1,t2,t3,t4,t5,t6,t7) k).1)) i)).gone.length≤1045000+(i+1);omega
   ·show (cG u (nth ab (allM (ai,aj,ak,an,ag,ao,ah,aq) (cO (cF (ai,aj,ak,an,ag,ao,ah,aq) (t1,t2,t3,t4,t5,t6,t7) k).1)) i)).dead.length≤1045000+(i+1);omega
   ·show (cG u _).bY≤_;rw [wW];have:=hu.t;omega
  ·show (allM (ai,aj,ak,an,ag,ao,ah,aq) (cO (cF (ai,aj,ak,an,ag,ao,ah,aq) (t1,t2,t3,t4,t5,t6,t7) k).1)).length - (i+1) < (allM (ai,aj,ak,an,ag,ao,ah,aq) (cO (cF (ai,aj,ak,an,ag,ao,ah,aq) (t1,t2,t3,t4,t5,t6,t7) k).1)).length - i;omega
 all_goals have hU:xI (ai,aj,ak,an,ag,ao,ah,aq) (t1,t2,t3,t4,t5,t6,t7) k=u:=by rw [←hr,List.drop_eq_nil_of_le (by have:=ca (p:=(i:Int) < ((allM (ai,aj,ak,an,ag,ao,ah,aq) (cO (cF (ai,aj,ak,an,ag,ao,ah,aq) (t1,t2,t3,t4,t5,t6,t7) k).1)).length:Int)) w4;omega)];rfl
 ·have hz:(aU u (t1,t2,t3,t4,t5,t6,t7) k ⟨#[]⟩).2.2=false:=(show false=(aU u (t1,t2,t3,t4,t5,t6,t7) k ⟨#[]⟩).2.2 from w5).symm
  have e:ch (ai,aj,ak,an,ag,ao,ah,aq) (t1,t2,t3,t4,t5,t6,t7) k=((aU u (t1,t2,t3,t4,t5,t6,t7) k ⟨#[]⟩).1,(aU u (t1,t2,t3,t4,t5,t6,t7) k ⟨#[]⟩).2.1,false):=by rw [q9,hU,hz];rfl
  refine ⟨[1000000001,1000000002],[],_,_,_,rfl,rp,(),0,tv,?_,?_,rfl⟩
  ·(show _=ja (ai,aj,ak,an,ag,ao,ah,aq) (t1,t2,t3,t4,t5,t6,t7) k);unfold ja;first |(rw [e];rfl) |rfl
  ·(show _=kL (ai,aj,ak,an,ag,ao,ah,aq) (t1,t2,t3,t4,t5,t6,t7) k);unfold kL;first |(rw [e];rfl) |rfl
 ·have hz:(aU u (t1,t2,t3,t4,t5,t6,t7) k ⟨#[]⟩).2.2=true:=(show true=(aU u (t1,t2,t3,t4,t5,t6,t7) k ⟨#[]⟩).2.2 from df).symm
  have hc:(cA (aU u (t1,t2,t3,t4,t5,t6,t7) k ⟨#[]⟩).1 (aU u (t1,t2,t3,t4,t5,t6,t7) k ⟨#[]⟩).2.1 (mw (ai,aj,ak,an,ag,ao,ah,aq) (t1,t2,t3,t4,t5,t6,t7) k)).2.2=false:=(show false=(cA (aU u (t1,t2,t3,t4,t5,t6,t7) k ⟨#[]⟩).1 (aU u (t1,t2,t3,t4,t5,t6,t7) k ⟨#[]⟩).2.1 (mw (ai,aj,ak,an,ag,ao,ah,aq) (t1,t2,t3,t4,t5,t6,t7) k)).2.2 from iA).symm
  have e:ch (ai,aj,ak,an,ag,ao,ah,aq) (t1,t2,t3,t4,t5,t6,t7) k=(cA (aU u (t1,t2,t3,t4,t5,t6,t7) k ⟨#[]⟩).1 (aU u (t1,t2,t3,t4,t5,t6,t7) k ⟨#[]⟩).2.1 (mw (ai,aj,ak,an,ag,ao,ah,aq) (t1,t2,t3,t4,t5,t6,t7) k)):=by rw [q9,hU,hz];rfl
  refine ⟨[1000470000,1000470001],[],_,_,_,rfl,rp,(),0,tv,?_,?_,rfl⟩
  ·(show _=ja (ai,aj,ak,an,ag,ao,ah,aq) (t1,t2,t3,t4,t5,t6,t7) k);unfold ja;first |(rw [e,hc];rfl) |(rw [e];rfl) |rfl
  ·(show _=kL (ai,aj,ak,an,ag,ao,ah,aq) (t1,t2,t3,t4,t5,t6,t7) k);unfold kL;first |(rw [e,hc];rfl) |(rw [e];rfl) |rfl
 ·have hz:(aU u (t1,t2,t3,t4,t5,t6,t7) k ⟨#[]⟩).2.2=true:=(show true=(aU u (t1,t2,t3,t4,t5,t6,t7) k ⟨#[]⟩).2.2 from df).symm
  have hc:(cA (aU u (t1,t2,t3,t4,t5,t6,t7) k ⟨#[]⟩).1 (aU u (t1,t2,t3,t4,t5,t6,t7) k ⟨#[]⟩).2.1 (mw (ai,aj,ak,an,ag,ao,ah,aq) (t1,t2,t3,t4,t5,t6,t7) k)).2.2=true:=(show true=(cA (aU u (t1,t2,t3,t4,t5,t6,t7) k ⟨#[]⟩).1 (aU u (t1,t2,t3,t4,t5,t6,t7) k ⟨#[]⟩).2.1 (mw (ai,aj,ak,an,ag,ao,ah,aq) (t1,t2,t3,t4,t5,t6,t7) k)).2.2 from gx).symm
  have e:ch (ai,aj,ak,an,ag,ao,ah,aq) (t1,t2,t3,t4,t5,t6,t7) k=(cA (aU u (t1,t2,t3,t4,t5,t6,t7) k ⟨#[]⟩).1 (aU u (t1,t2,t3,t4,t5,t6,t7) k ⟨#[]⟩).2.1 (mw (ai,aj,ak,an,ag,ao,ah,aq) (t1,t2,t3,t4,t5,t6,t7) k)):=by rw [q9,hU,hz];rfl
  refine ⟨[1000580000,1000580001],[],_,_,_,rfl,rp,(),0,tv,?_,?_,rfl⟩
  ·(show _=ja (ai,aj,ak,an,ag,ao,ah,aq) (t1,t2,t3,t4,t5,t6,t7) k);unfold ja;first |(rw [e,hc];rfl) |(rw [e];rfl) |rfl
  ·(show _=kL (ai,aj,ak,an,ag,ao,ah,aq) (t1,t2,t3,t4,t5,t6,t7) k);unfold kL;first |(rw [e,hc];rfl) |(rw [e];rfl) |rfl
end GL
end Go.Proofs.YtbfgjadbfjkcdaaGreatDoor
