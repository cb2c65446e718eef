/- A drawn law returns true for every code (its row lists package variables, tied by the card): part 48. -/
import Derived.Test.YtclcgjhhehbdeaaGreatDoorPbg
import Derived.Test.YtclcgjhhehbdeaaGreatDoorPbt
import Derived.Test.YtclcgjhhehbdeaaGreatDoorPbu
set_option maxHeartbeats 20000000
set_option maxRecDepth 100000
set_option linter.all false
namespace Go.Proofs.YtclcgjhhehbdeaaGreatDoor
namespace GL
structure amf (s:ay) (o:Nat) (k q:Int):Prop where
 g:s.gone.length≤20100-7*k.toNat
 d:s.dead.length≤20100-7*k.toNat
 aml:0≤k∧k≤2
 o:o≤s.rows.length
 q:0≤q∧q+2000*k≤50000
theorem amf.wg {s:ay}{o:Nat}{k q:Int}(h:amf s o k q) (hk:iG (amw s o)=true):(amw s o).wg (20100-7*k.toNat):=(QG.1 hk).wg (ZB0 (amR s o).1 h.g) (ZB0 (amR s o).2 h.d)
abbrev djK (s:ay) (o:Nat):ay:=ane (ie (amw s o))
theorem amf.amq {s:ay}{o:Nat}{k q:Int}(h:amf s o k q) (hk:iG (amw s o)=true):(djK s o).wg (20100-7*k.toNat+1):=anN (anu (h.wg hk))
theorem amf.tx {s:ay}{o:Nat}{k q:Int}(h:amf s o k q) (hk:iG (amw s o)=true):(-9223372036854775808:Int)≤(ie (amw s o)).cg-1∧(ie (amw s o)).cg-1≤9223372036854775807:=by
 have:=anM (h.wg hk) (QG.1 hk).amk;omega
theorem amf.put {s:ay}{o:Nat}{u:bf}{k q x q2:Int}{text:ByteArray}(h:amf s o k q) (hk:iG (amw s o)=true) (ho:qF (amw s o) u=true) (h0:0≤x) (h1:x≤15) (hk0:0<k) (hq:q≤q2∧q2≤q+1001):amf (aY (djK s o) u x text).1 0 (k-1) q2∧((aY (djK s o) u x text).2.2=false→∀b0 b1 b2 b3 b4:Nat,kT b0 b1 b2 b3 b4 (djK s o)=kT b0 b1 b2 b3 b4 (aY (djK s o) u x text).1):=by
 have h2:=ni (text:=text) (h.amq hk) (am3 ho) h0 h1
 have hkb:=h.aml;have hqb:=h.q;have hg:=h2.1.g;have hd:=h2.1.d
 exact⟨⟨by omega,by omega,by omega,ZA7 _,by omega⟩,fun hz _ _ _ _ _=>nz (h2.2.2 hz) (h.amq hk).wf⟩
attribute [local irreducible] aY iG qF
def amz (c:List Int):Prop:=aj2 c
def am8 (c:List Int) (z:ay×Nat×bf×bf):Prop:=(z.1.gone.length≤30000∧z.1.dead.length≤30000)∧z.2.1≤z.1.rows.length
def am7 (c:List Int) (z:ay×Nat×bf×bf):AV:=.t [.a [.xs 0 1 z.2.1 (z.1.rows.length-z.2.1),.xs 1 1 0 z.1.refs.length,.xs 2 1 0 z.1.last.length,.int z.1.cg,.xs 3 5 0 z.1.gone.length,.int z.1.bZ,.xs 4 5 0 z.1.dead.length,.q z.1.same],trA z.2.2.1,trA z.2.2.2]
def ang (c:List Int) (z:ay×Nat×bf×bf):List AV:=[.rs ab z.1.rows,.rs ag z.1.refs,.rs ag z.1.last,.rs ae z.1.gone,.rs ae z.1.dead]
def amy:cn where
 A:=[.s (.vw ma)]
 B:=[]
 pre:=fun x b=>amz x
 α:=fun _ _=>ay×Nat×bf×bf
 φ:=fun x b z=>am8 x z
 r:=fun x b z=>am7 x z
 o:=fun x b z=>ang x z
 nf:=5
theorem amW:Has Tryz.prog 6 amy:=by
 refine Has.fl zT zF (fun d=>d==27||d==32||d==37) (l:=[(19,ae8),(20,ab1),(21,ba),(22,sI),(23,JQ),(25,jB),(24,gY),(27,cS),(26,ey)]) ⟨aiX,aiq,dh,MC,adJ,IB,su,o7,lV,aa⟩ Tryz.func6 ?_
 rintro (c:List Int) _ (hp:amz c)
 show vc _ _ _ _ (entry [.s (.vw ma c)] []) _
 have hb:aj2 c:=hp
 refine⟨⟨tv2,?_⟩,fun x1 w2=>⟨⟨tv2,?_⟩,fun x3 w4=>⟨⟨tv3,?_,?_⟩,fun x5 w6=>?_⟩⟩⟩
 all_goals first|refine aw ?_|refine ax ?_|exact a8|(dsimp only [ae8,G2,ab1,DP,ba,ck,sI,qZ,JQ,zm,jB,pS,gY,ji,cS,ib,ey,fJ,gO];omega)|exact a7|exact hb|exact Rdr.at (show Rdr (x1,0) 0 from w2) (ZC1 _) (by decide)|exact (show Rdr (x1,x3.2.2.2) 1000000 from Rdr.at (show Rdr (x1,0) 0 from w2) (show (0:Int)≤x3.2.2.2 from w4.2.1.1) (show x3.2.2.2≤_ by have h:x3.2.2.2≤0+40000:=w4.2.1.2;omega))|skip
 ·have hk:=pk (n:=3) (by decide) w6
  have ek:x5.2=x3.2.2.2+1:=w6.2
  have a1:(0:Int)≤x3.2.2.2:=w4.2.1.1
  have a2:x3.2.2.2≤0+40000:=w4.2.1.2
  have a3:x3.1.gone.length≤20001:=w4.1.1
  have a4:x3.1.dead.length≤20001:=w4.1.2
  have hr:Rdr (x1,0) 0:=w2
  refine cN (l:=[(19,ae8),(20,ab1),(21,ba),(22,sI),(23,JQ),(25,jB),(24,gY),(27,cS),(26,ey)]) (ex:=zT) (wr:=zF) (pt:=fun d=>d==27||d==32||d==37) ⟨aiX,aiq,dh,MC,adJ,IB,su,o7,lV,trivial⟩ [.s 2,.s 3,.s 4,.b 1002,.b 1003,.b 1004,.s 5,.s 6,.s 7,.b 1007,.s 8] (fun y:ay×Nat×bf×Int×Int=>[(.s 9,.int y.2.2.2.1),(.b 150000,.a [.vw ma x1,.int y.2.2.2.2]),(.b 1006,.a [.xs 1000000001 1 y.2.1 (y.1.rows.length-y.2.1),.xs 1000000002 1 0 y.1.refs.length,.xs 1000000003 1 0 y.1.last.length,.int y.1.cg,.xs 1000000004 5 0 y.1.gone.length,.int y.1.bZ,.xs 1000000005 5 0 y.1.dead.length,.q y.1.same]),(.b 1008,.a [.int y.2.2.1.1,.int y.2.2.1.2.1,.int y.2.2.1.2.2.1,.int y.2.2.1.2.2.2.1,.int y.2.2.1.2.2.2.2.1,.int y.2.2.1.2.2.2.2.2.1,.int y.2.2.1.2.2.2.2.2.2]),(.b 1000000001,.rs ab y.1.rows),(.b 1000000002,.rs ag y.1.refs),(.b 1000000003,.rs ag y.1.last),(.b 1000000004,.rs ae y.1.gone),(.b 1000000005,.rs ae y.1.dead)]) (fun y=>amf y.1 y.2.1 y.2.2.2.1 y.2.2.2.2) (fun y=>y.2.2.2.1.toNat) (x3.1,x3.2.2.1,x3.2.1,x5.1,x5.2) [(1000000001,180000),(1000000002,180001),(1000000003,180002),(1000000004,180003),(1000000005,180004)] ⟨by show x3.1.gone.length≤20100-7*(x5.1:Int).toNat;omega,by show x3.1.dead.length≤20100-7*(x5.1:Int).toNat;omega,by show 0≤x5.1∧x5.1≤2;omega,w4.2.2,by show 0≤x5.2∧x5.2+2000*x5.1≤50000;omega⟩ dL ?_
  rintro⟨s,o,u,k,q⟩ (hD:amf s o k q)
  have hq:=hD.q
  have hkb:=hD.aml
  have dE:∀{p n:Int},0≤p→p≤60000→60000≤n→Rdr (x1,p) n:=fun h0 h1 h2=>hr.at h0 (ZE0 h1 h2)
  have h16:∀{p:Int} {x:Int×Int},(x.1=0∨(0≤x.1∧x.1<16))∧x.2=p+1→0≤x.1∧x.1<16:=fun h=>pk (n:=16) (by decide) h
  refine⟨aa,fun w1=>⟨⟨⟨⟨?_,?_,?_,aa,?_,aa,?_,tv2⟩,aa⟩,?_,?_⟩,fun x2 w3=>⟨aa,fun w4=>⟨⟨⟨⟨?_,?_,?_,aa,?_,aa,?_,tv2⟩,tv8,aa⟩,?_⟩,fun x5 w6=>⟨fun w7=>⟨⟨⟨⟨?_,?_,?_,aa,?_,aa,?_,tv2⟩,aa⟩,?_,?_,?_,?_,?_⟩,fun x8 w9=>⟨⟨⟨tv9,aa⟩,⟨?_,?_,?_,?_,?_⟩,?_⟩,fun x10 kx=>⟨⟨?_,?_⟩,[.s 6,.b 1006],Sq44,rfl,[.s 8,.b 1008],Sq45,rfl,Sq5,Sq46,rfl,[.s 46,.b 150000],[.s 47,.b 150000],rfl,⟨tv3,?_,?_⟩,?_,fun x12 iS=>⟨Sq5,Sq48,rfl,[.s 48,.b 150000],[.s 49,.b 150000],rfl,⟨tv3,?_,?_,?_⟩,?_,fun x14 qG=>⟨[.s 44,.s 45,.s 47,.s 49,.b 380000,.b 380001,.b 380002,.b 390000,.b 380004,.b 1000510001,.b 1000510000],[.s 50,.b 380000,.b 380001,.b 380002,.b 390000,.b 380004,.b 1000510000,.b 1000510001],rfl,⟨⟨tv9,tv8,tv3⟩,⟨?_,?_,?_,?_,?_⟩,?_,?_,?_,?_,?_,?_,?_,?_⟩,?_,fun |false=>fun kc=>⟨Sq50,Sq43,rfl,Sq43,Sq51,rfl,Sq43,Sq52,rfl,Sq43,Sq53,rfl,[.b 1010],[.s 10,.b 1010],rfl,[.b 1011],[.s 11,.b 1011],rfl,[.s 10,.s 51,.b 1010],[.b 1010],rfl,[.s 11,.s 52,.b 1011],[.b 1011],rfl,Sq53,Sq12,rfl,fun xd=>⟨⟨?_,?_⟩,?_⟩,fun rO=>⟨⟨?_,?_⟩,?_⟩⟩ |true=>fun oH=>⟨Sq50,Sq43,rfl,Sq43,Sq51,rfl,Sq43,Sq52,rfl,Sq43,Sq53,rfl,[.b 1010],[.s 10,.b 1010],rfl,[.b 1011],[.s 11,.b 1011],rfl,[.s 10,.s 51,.b 1010],[.b 1010],rfl,[.s 11,.s 52,.b 1011],[.b 1011],rfl,Sq53,Sq12,rfl,fun uE=>⟨⟨?_,?_⟩,?_⟩,fun AY=>⟨⟨?_,?_⟩,?_⟩⟩⟩⟩⟩⟩⟩,fun AX=>⟨[.s 6,.b 1006],Sq57,rfl,[.s 7,.b 1007],Sq58,rfl,[.s 8,.b 1008],Sq59,rfl,[.s 2,.s 57,.b 1002],[.b 1002],rfl,[.s 3,.s 58,.b 1003],[.b 1003],rfl,[.s 4,.s 59,.b 1004],[.b 1004],rfl,?_⟩⟩⟩,fun xF=>⟨[.s 6,.b 1006],Sq57,rfl,[.s 7,.b 1007],Sq58,rfl,[.s 8,.b 1008],Sq59,rfl,[.s 2,.s 57,.b 1002],[.b 1002],rfl,[.s 3,.s 58,.b 1003],[.b 1003],rfl,[.s 4,.s 59,.b 1004],[.b 1004],rfl,?_⟩⟩⟩,fun rN=>⟨[.s 6,.b 1006],Sq57,rfl,[.s 7,.b 1007],Sq58,rfl,[.s 8,.b 1008],Sq59,rfl,[.s 2,.s 57,.b 1002],[.b 1002],rfl,[.s 3,.s 58,.b 1003],[.b 1003],rfl,[.s 4,.s 59,.b 1004],[.b 1004],rfl,?_⟩⟩
  all_goals first|refine aw ?_|refine ax ?_|exact a8|(dsimp only [ae8,G2,ab1,DP,ba,ck,sI,qZ,JQ,zm,jB,pS,gY,ji,cS,ib,ey,fJ,gO];omega)|exact a7|(show o+(s.rows.length-o)≤s.rows.length;have h:=hD.o;omega)|exact ZB0 (amR s o).1 (ZB0 hD.g (ZB0 (Nat.sub_le _ _) (by decide)))|exact ZB0 (amR s o).2 (ZB0 hD.d (ZB0 (Nat.sub_le _ _) (by decide)))|exact (QG.1 (show iG (amw s o)=true from w4)).rd|(obtain⟨a,b,c,d,e⟩:=(hD.wg w4).small (ZB0 (Nat.sub_le _ _) (by decide));first|exact a|exact b|exact c|exact d|exact e)|exact ((QG.1 (show iG (amw s o)=true from w4)).amk).gk (hD.wg w4) (ZB0 (Nat.sub_le _ _) (by decide))|exact (hD.tx w4).1|exact (hD.tx w4).2|exact (show Rdr (x1,q) 1000000 from dE hq.1 (by omega) (by decide))|exact⟨(0,_),.inl rfl,rfl⟩|(have h:x12.2=q+1:=iS.2;exact (show Rdr (x1,x12.2) 990000 from dE (by omega) (by omega) (by decide)))|exact⟨(⟨#[]⟩,x12.2),(by show ((0:Nat):Int)≤6;decide),ZC1 _,(by show x12.2≤x12.2+1000;omega)⟩|exact (hD.amq w4).wf|exact (am3 (show qF (amw s o) u=true from w7)).rd|exact (h16 iS).1|(show x12.1≤15;have h:=(h16 iS).2;omega)|exact (am3 (show qF (amw s o) u=true from w7)).m1|exact ZB0 (hD.amq w4).g (ZB0 (Nat.succ_le_succ (Nat.sub_le _ _)) (by decide))|exact ZB0 (hD.amq w4).d (ZB0 (Nat.succ_le_succ (Nat.sub_le _ _)) (by decide))|exact⟨_,rfl⟩|(have h:(x14.1.size:Int)≤6:=qG.1;show x14.1.size≤1000000;omega)|skip
  ·exact absurd xd (by decide)
  ·have hk0:0<k:=aJ (p:=k>0) w1
   have e1:x12.2=q+1:=iS.2
   have e2:x12.2≤x14.2∧x14.2≤x12.2+1000:=qG.2
   have IV:=hD.put (x:=x12.1) (text:=x14.1) (q2:=x14.2) w4 w7 (h16 iS).1 (by have:=(h16 iS).2;omega) hk0 ⟨by omega,by omega⟩
   refine⟨((aY (djK s o) u x12.1 x14.1).1,0,u,k-1,x14.2),[(1000000001,380000),(1000000002,380001),(1000000003,380002),(1000000004,390000),(1000000005,380004)],?_,?_,?_⟩
   rotate_right
   ·repeat' (first|exact trivial|rfl|exact rfl|exact fO ZA0.symm|exact oL|exact congrArg (fun z=>some (AV.a z)) (IV.2 kc.symm 380000 380001 380002 390000 380004)|apply And.intro)
   ·exact IV.1
   ·show (k-1).toNat<k.toNat;omega
  ·have hk0:0<k:=aJ (p:=k>0) w1
   have e1:x12.2=q+1:=iS.2
   have e2:x12.2≤x14.2∧x14.2≤x12.2+1000:=qG.2
   have IV:=hD.put (x:=x12.1) (text:=x14.1) (q2:=x14.2) w4 w7 (h16 iS).1 (by have:=(h16 iS).2;omega) hk0 ⟨by omega,by omega⟩
   refine⟨((aY (djK s o) u x12.1 x14.1).1,0,(aY (djK s o) u x12.1 x14.1).2.1,k-1,x14.2),[(1000000001,380000),(1000000002,380001),(1000000003,380002),(1000000004,1000510000),(1000000005,1000510001)],?_,?_,?_⟩
   rotate_right
   ·exact bV
   ·exact IV.1
   ·show (k-1).toNat<k.toNat;omega
  ·exact absurd AY (by decide)
  all_goals refine⟨[1000000001,1000000002,1000000003,1000000004,1000000005],[],_,_,_,rfl,cf,(s,o,x3.2.1,u),⟨⟨ZB0 hD.g (ZB0 (Nat.sub_le _ _) (by decide)),ZB0 hD.d (ZB0 (Nat.sub_le _ _) (by decide))⟩,hD.o⟩,rfl,rfl,rfl⟩
end GL
namespace GL
noncomputable section
structure aoq (l:List Int):Prop where
 jH:∀b∈l,0≤b∧b≤255
def amh (X Y:List Pt) (k c:Nat):Prop:=∃out,ame X Y k out∧out.length=c
theorem amh.z (X Y:List Pt):amh X Y 0 0:=⟨[],ame.z _ _,rfl⟩
theorem amh.hit {X Y:List Pt}{k c:Nat}(h:amh X Y k c) (hk:k<16) (h2:nth ag (amM X Y) c=(k:Int)) (h1:c<(amM X Y).length):amh X Y (k+1) (c+1):=by
 obtain⟨out,hD,rfl⟩:=h
 cases hq:ptrEq (nth ae X k) (nth ae Y k) with
 |false=>exact⟨out++[(k:Int)],hD.ne hk (by rw [hq];rfl),by rw [ZA0];rfl⟩
 |true=>
  have hE:=hD.eq hk (by rw [hq];rfl)
  obtain⟨r,e,hr⟩:=amZ (x:=X) (y:=Y) (f:=16-(k+1)) (i:=k+1) (out:=out)
  rw [hE.f] at e
  rw [e,ZA0] at h1
  have h3:nth ag (amM X Y) out.length∈r:=by
   rw [e]
   unfold nth
   rw [ZC6 (ZB5 _),Nat.sub_self]
   cases r with
   |nil=>simp at h1
   |cons a r=>exact List.mem_cons_self ..
  have h4:((k+1:Nat):Int)≤(nth ag (amM X Y) out.length:Int):=hr _ h3
  have h6:((k+1:Nat):Int)≤(k:Int):=ZE0 h4 (Int.le_of_eq h2)
  omega
theorem amh.mi {X Y:List Pt}{k c:Nat}(h:amh X Y k c) (hk:k<16) (h1:¬(c<(amM X Y).length∧nth ag (amM X Y) c=(k:Int))):amh X Y (k+1) c∧nth ae X k=nth ae Y k:=by
 obtain⟨out,hD,rfl⟩:=h
 cases hq:ptrEq (nth ae X k) (nth ae Y k) with
 |true=>exact⟨⟨out,hD.eq hk (by rw [hq];rfl),rfl⟩,r7.1 hq⟩
 |false=>
  have hE:=hD.ne hk (by rw [hq];rfl)
  obtain⟨r,e,hr⟩:=amZ (x:=X) (y:=Y) (f:=16-(k+1)) (i:=k+1) (out:=out++[(k:Int)])
  rw [hE.f] at e
  refine absurd ⟨by rw [e,ZA0,ZA0];simp;omega,?_⟩ h1
  rw [e]
  unfold nth
  rw [ZD2,ZC6 (ZB5 _),Nat.sub_self];rfl
theorem amh.le {X Y:List Pt}{k c:Nat}(h:amh X Y k c):c≤k∧k≤16:=by
 obtain⟨out,hD,rfl⟩:=h;exact⟨hD.len,hD.le⟩
theorem amh.fin {X Y:List Pt}{k c:Nat}(h:amh X Y k c) (hk:¬k<16):c=(amM X Y).length:=by
 obtain⟨out,hD,rfl⟩:=h
 have hf:=hD.f
 rw [show 16-k=0 by omega] at hf
 exact congrArg List.length hf
theorem anU {s:ay}{a b:bf}{k:Nat}(ha:(pq s a).2=true) (hb:(pq s b).2=true) (h:nth ae (pq s a).1 k=nth ae (pq s b).1 k):(amU s a (k:Int)).1=(amU s b (k:Int)).1:=by
 have key:∀t:bf,(pq s t).2=true→(amU s t (k:Int)).1=(bF s (nth ae (pq s t).1 k)).1:=fun t ht=>by
  cases hi:ig (k:Int) 0 (((pq s t).1.length:Int)-1) with
  |true=>rw [anr ht hi];rfl
  |false=>
   have hn:¬k<(pq s t).1.length:=fun bU=>by
    rw [cC.2 ⟨by omega,by omega⟩] at hi;cases hi
   rw [ans hi,tn (ek:=ae) (by omega),fS rfl]
 rw [key a ha,key b hb,h]
theorem am9 {X Y:List Pt}:∀{f i:Nat}{out:List Int},(amQ f i X Y out).length≤out.length+f
 |0,_,_=>ZB5 _
 |f+1,i,out=>by
  cases h:ptrEq (nth ae X i) (nth ae Y i) with
  |true=>rw [am0 h];have:=am9 (X:=X) (Y:=Y) (f:=f) (i:=i+1) (out:=out);omega
  |false=>rw [anh h];have:=am9 (X:=X) (Y:=Y) (f:=f) (i:=i+1) (out:=out++[(i:Int)]);rw [ZA0,List.length_singleton] at this;omega
theorem anH {s:ay}{a b:bf}(h:(amt s a b).2=true):((pq s a).2=true∧(pq s b).2=true)∧(amt s a b).1=amM (pq s a).1 (pq s b).1:=by
 have h1:(pq s a).2=true:=by
  cases h1:(pq s a).2 with
  |true=>rfl
  |false=>rw [amA (.inl h1)] at h;cases h
 have h2:(pq s b).2=true:=by
  cases h2:(pq s b).2 with
  |true=>rfl
  |false=>rw [amA (.inr h2)] at h;cases h
 exact⟨⟨h1,h2⟩,by rw [amL h1 h2]⟩
theorem an4 (s:ay) (a b:bf):(amt s a b).1.length≤1000000:=by
 cases h:(amt s a b).2 with
 |true=>rw [(anH h).2];exact ZB0 (am9 (out:=[])) (by decide)
 |false=>
  cases h1:(pq s a).2 with
  |false=>rw [amA (.inl h1)];exact ZA7 _
  |true=>
   cases h2:(pq s b).2 with
   |false=>rw [amA (.inr h2)];exact ZA7 _
   |true=>rw [amL h1 h2] at h;cases h
theorem anS {s:ay}{a:bf}(h:(pq s a).2=true):amt s a a=([],true):=by
 rw [amL h h];exact congrArg (fun l=>(l,true)) (ano (out:=[]))
def amV (c:List Int):Prop:=aoq c
def ams (c:List Int):AV:=.s (.q true)
def anq (c:List Int):List AV:=[]
def anE:cn where
 A:=[.s (.vw ma)]
 B:=[]
 pre:=fun x b=>amV x
 r:=fun x b _=>ams x
 o:=fun x b _=>anq x
theorem anD:Has Tryz.prog 3 anE:=by
 refine Has.zv zT zF (fun d=>d==32||d==39||d==79||d==86||d==96) (l:=[(6,amy),(7,amI),(8,amO),(9,amX),(10,amN)]) ⟨amW,anf,anm,anO,anl,aa⟩ Tryz.func3 ?_
 rintro (c:List Int) _ (hp:amV c)
 show vc _ _ _ _ (entry [.s (.vw ma c)] []) _
 have hb:aoq c:=hp
 refine⟨fun w1=>?_,fun w2=>⟨⟨tv2,?_⟩,fun x3 w4=>⟨⟨⟨⟨?_,?_,?_,aa,?_,aa,?_,tv2⟩,tv8,tv8,aa⟩,?_,?_⟩,fun x5 w6=>⟨⟨⟨⟨?_,?_,?_,aa,?_,aa,?_,tv2⟩,tv8,tv8,aa⟩,?_,?_⟩,fun x7 w8=>⟨⟨tv3,?_,?_⟩,fun x9 dx=>⟨aa,fun kx=>⟨aa,fun dI=>?_,fun iS=>⟨fun gN=>?_,fun qG=>?_⟩⟩,fun kc=>⟨aa,fun xd=>?_,fun rO=>⟨fun oH=>?_,fun uE=>?_⟩⟩⟩⟩⟩⟩⟩⟩
 all_goals first|refine aw ?_|refine ax ?_|exact a8|(dsimp only [amy,amz,amI,amH,amO,amK,amX,amT,amN,amJ];omega)|exact a7|(show x3.2.1+(x3.1.rows.length-x3.2.1)≤x3.1.rows.length;have h:x3.2.1≤x3.1.rows.length:=w4.2;omega)|exact ZB0 (amR x3.1 x3.2.1).1 (ZB0 w4.1.1 (by decide))|exact ZB0 (amR x3.1 x3.2.1).2 (ZB0 w4.1.2 (by decide))|skip
 ·refine⟨[],[],_,_,_,rfl,az,(),aa,?_,?_,rfl⟩
  ·(show _=ams c);unfold ams;first|rfl
  ·rfl
 ·have h:=aA (p:=(c.length:Int)>1048576) w2
  exact (aj2.mk (l:=c) (by omega) hb.jH)
 ·exact an4 (amw x3.1 x3.2.1) x3.2.2.1 x3.2.2.2
 ·exact absurd (show (!((amt (amw x3.1 x3.2.1) x3.2.2.1 x3.2.2.2).2==(amt (amw x3.1 x3.2.1) x3.2.2.1 x3.2.2.2).2))=true from dI) (by simp)
 ·refine⟨[],[],_,_,_,rfl,az,(),aa,?_,?_,rfl⟩
  ·show AV.q _=ams c;unfold ams;refine congrArg AV.q ?_;simp
  ·rfl
 ·obtain⟨⟨hva,hvb⟩,hD1⟩:=anH (s:=(amw x3.1 x3.2.1)) (a:=x3.2.2.1) (b:=x3.2.2.2) (cL qG)
  have aog:=anS hva
  have hst:=w4
  refine lT (l:=[(6,amy),(7,amI),(8,amO),(9,amX),(10,amN)]) (ex:=zT) (wr:=zF) (pt:=fun d=>d==32||d==39||d==79||d==86||d==96) ⟨amW,anf,anm,anO,anl,aa⟩ [.s 3,.s 4,.s 5,.s 6,.b 1003,.b 1004,.b 1005,.b 250000,.b 250001,.b 250002,.b 250003,.b 250004] (fun y:Nat×Nat=>[(.s 12,.int y.1),(.s 11,.int y.2)]) (fun y=>amh (pq (amw x3.1 x3.2.1) x3.2.2.1).1 (pq (amw x3.1 x3.2.1) x3.2.2.2).1 y.1 y.2) (fun y=>16-y.1) (0,0) [] (amh.z _ _) dL ?_
  rintro⟨k,m⟩ (hI:amh (pq (amw x3.1 x3.2.1) x3.2.2.1).1 (pq (amw x3.1 x3.2.1) x3.2.2.2).1 k m)
  have hle:=hI.le
  have bU:decide ((m:Int)<((amt (amw x3.1 x3.2.1) x3.2.2.1 x3.2.2.2).1.length:Int))=true→m<(amM (pq (amw x3.1 x3.2.1) x3.2.2.1).1 (pq (amw x3.1 x3.2.1) x3.2.2.2).1).length:=fun h=>by rw [hD1] at h;have:=aJ h;omega
  have hnl:decide ((m:Int)<((amt (amw x3.1 x3.2.1) x3.2.2.1 x3.2.2.2).1.length:Int))=false→¬m<(amM (pq (amw x3.1 x3.2.1) x3.2.2.1).1 (pq (amw x3.1 x3.2.1) x3.2.2.2).1).length:=fun h=>by rw [hD1] at h;have:=aA h;omega
  have xy:(nth ag (amt (amw x3.1 x3.2.1) x3.2.2.1 x3.2.2.2).1 m:Int)=(k:Int)↔nth ag (amM (pq (amw x3.1 x3.2.1) x3.2.2.1).1 (pq (amw x3.1 x3.2.1) x3.2.2.2).1) m=(k:Int):=by rw [hD1]
  refine⟨fun w1=>⟨aa,fun w2=>⟨⟨?_,?_⟩,fun w3=>⟨⟨?_,?_⟩,⟨?_,?_⟩,?_⟩,fun w4=>⟨⟨⟨⟨?_,?_,?_,aa,?_,aa,?_,tv2⟩,tv8,tv2⟩,?_,?_⟩,fun x5 w6=>⟨⟨⟨⟨?_,?_,?_,aa,?_,aa,?_,tv2⟩,tv8,tv2⟩,?_,?_⟩,fun x7 w8=>⟨fun w9=>?_,fun dx=>⟨⟨?_,?_⟩,?_⟩⟩⟩⟩⟩,fun kx=>⟨⟨⟨⟨?_,?_,?_,aa,?_,aa,?_,tv2⟩,tv8,tv2⟩,?_,?_⟩,fun x12 iS=>⟨⟨⟨⟨?_,?_,?_,aa,?_,aa,?_,tv2⟩,tv8,tv2⟩,?_,?_⟩,fun x14 qG=>⟨fun kc=>?_,fun xd=>⟨⟨?_,?_⟩,?_⟩⟩⟩⟩⟩,fun rO=>⟨⟨⟨⟨?_,?_,?_,aa,?_,aa,?_,tv2⟩,tv8,tv8,aa⟩,?_,?_⟩,fun x19 uE=>⟨aa,fun AY=>⟨aa,fun AX=>?_,fun xF=>?_⟩,fun rN=>?_⟩⟩⟩
  all_goals first|refine aw ?_|refine ax ?_|exact a8|(dsimp only [amy,amz,amI,amH,amO,amK,amX,amT,amN,amJ];omega)|exact a7|(show x3.2.1+(x3.1.rows.length-x3.2.1)≤x3.1.rows.length;have h:x3.2.1≤x3.1.rows.length:=hst.2;omega)|exact ZB0 (amR x3.1 x3.2.1).1 (ZB0 hst.1.1 (by decide))|exact ZB0 (amR x3.1 x3.2.1).2 (ZB0 hst.1.2 (by decide))|exact aJ w2|skip
  ·refine⟨(k+1,m+1),[],?_,?_,?_⟩
   rotate_right
   ·exact bV
   ·exact hI.hit (amP w1) (xy.1 (aJ w3)) (bU w2)
   ·exact Nat.sub_succ_lt_self _ _ (amP w1)
  ·exact absurd (anU hva hvb (hI.mi (amP w1) (fun h=>aA w4 (xy.2 h.2))).2) (aJ w9)
  ·refine⟨(k+1,m),[],?_,?_,?_⟩
   rotate_right
   ·exact bV
   ·exact (hI.mi (amP w1) (fun h=>aA w4 (xy.2 h.2))).1
   ·exact Nat.sub_succ_lt_self _ _ (amP w1)
  ·exact absurd (anU hva hvb (hI.mi (amP w1) (fun h=>hnl kx h.1)).2) (aJ kc)
  ·refine⟨(k+1,m),[],?_,?_,?_⟩
   rotate_right
   ·exact bV
   ·exact (hI.mi (amP w1) (fun h=>hnl kx h.1)).1
   ·exact Nat.sub_succ_lt_self _ _ (amP w1)
  ·refine⟨[],[],_,_,_,rfl,az,(),aa,?_,?_,rfl⟩
   ·show AV.q _=ams c;unfold ams;refine congrArg AV.q ?_;exact decide_eq_true (show ((amt (amw x3.1 x3.2.1) x3.2.2.1 x3.2.2.1).1.length:Int)=0 by rw [aog];rfl)
   ·rfl
  ·exact absurd ((congrArg Prod.snd aog).symm.trans xF) (by decide)
  ·exact absurd (show (m:Int)=((amt (amw x3.1 x3.2.1) x3.2.2.1 x3.2.2.2).1.length:Int) by rw [hD1,hI.fin (fun h=>aA rO (show (k:Int)<16 by omega))]) (aA rN)
 all_goals exact absurd kc (by decide)
end
end GL
end Go.Proofs.YtclcgjhhehbdeaaGreatDoor
