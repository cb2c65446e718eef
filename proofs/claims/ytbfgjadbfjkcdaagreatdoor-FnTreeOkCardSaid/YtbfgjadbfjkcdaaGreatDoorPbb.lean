/- FnTreeOk returns true for every code (its row lists package variables, tied by the card): part 28. -/
import Derived.Test.YtbfgjadbfjkcdaaGreatDoorPas
import Derived.Test.YtbfgjadbfjkcdaaGreatDoorPau
import Derived.Test.YtbfgjadbfjkcdaaGreatDoorPba
set_option maxHeartbeats 20000000
set_option linter.all false
namespace Go.Proofs.YtbfgjadbfjkcdaaGreatDoor
namespace GL
def mC (size k:Int):Int:=min 12 (size-k*12)
def re (size:Int) (k:Int):Prop:= -1000000≤size∧size≤1000000∧0≤k∧k≤1000000
def u9 (size:Int) (k:Int):AV:=.s (.int (mC size k))
def WO (size:Int) (k:Int):List AV:=[]
def sO:Con where
 A:=[.s .int,.s .int]
 B:=[]
 pre:=fun x b=>re (x.1) (x.2)
 α:=fun _ _=>Unit
 φ:=fun _ _ _=>True
 r:=fun x b _=>u9 (x.1) (x.2)
 o:=fun x b _=>WO (x.1) (x.2)
 nf:=0
set_option maxRecDepth 100000 in
theorem MN:Has Tryz.prog 155 sO:=by
 refine Has.ofE (fun _=>true) (fun _=>false) (fun _=>false) (l:=[]) trivial (fn:=Tryz.f155) Tryz.func155 rfl (by decide) (aZ rfl) ?_
 rintro⟨(size:Int),(k:Int)⟩ _ (hp:re size k)
 show vc _ _ _ _ (entry [.int size,.int k] []) _
 obtain⟨h1,h2,h3,h4⟩:=hp
 refine⟨⟨?_,?_⟩,⟨⟨?_,?_⟩,?_⟩⟩
 all_goals first|refine aw ?_|refine ax ?_|exact ba|exact a8|skip
 refine⟨[],[],_,_,_,rfl,az,(),aa,?_,?_,rfl⟩
 ·(show _=u9 size k);unfold u9;first|rfl
 ·rfl
def txF (size:Int):List ByteArray→Nat→ByteArray→ByteArray
 |[],_,out=>out
 |s::l,k,out=>txF size l (k+1) (out++s++kM (mC size k-s.size))
def jf (s:ay) (n:fu):ByteArray:=txF n.2.2.1 (bw s (cU n)) 0 ⟨#[]⟩
theorem k8 (n:Int):(kM n).size=(max 0 n).toNat:=by
 unfold kM;rw [fc,nJ];simp
structure fu.fok (n:fu):Prop where
 ok:(cU n).ok
 s0: -1000000≤n.2.2.1
 s1:n.2.2.1≤1000000
def ra (S:ay) (n:fu):Prop:=S.rd∧n.fok
def u7 (S:ay) (n:fu):AV:=.s (.str (jf S n))
def WN (S:ay) (n:fu):List AV:=[]
def sN:Con where
 A:=[.a xE,.a [.int,.int,.int,.int,.int,.int,.int,.int,.int,.int]]
 B:=[]
 pre:=fun x b=>ra (x.1) (x.2)
 α:=fun _ _=>Unit
 φ:=fun _ _ _=>True
 r:=fun x b _=>u7 (x.1) (x.2)
 o:=fun x b _=>WN (x.1) (x.2)
 nf:=0
set_option maxRecDepth 100000 in
theorem MM:Has Tryz.prog 138 sN:=by
 refine Has.ofE (fun _=>true) (fun _=>false) (fun _=>false) (l:=[(45,df),(155,sO),(139,iG)]) ⟨iT,MN,tM,trivial⟩ (fn:=Tryz.f138) Tryz.func138 rfl (by decide) (aZ rfl) ?_
 rintro⟨⟨(aj:List ByteArray),(ak:List Int),(an:List Int),(ao:Int),(ah:List Pt),(aq:Int),(ai:List Pt),(ar:Bool)⟩,⟨(n1:Int),(n2:Int),(n3:Int),(n4:Int),(n5:Int),(n6:Int),(n7:Int),(n8:Int),(n9:Int),(cx:Int)⟩⟩ _ (hp:ra (aj,ak,an,ao,ah,aq,ai,ar) (n1,n2,n3,n4,n5,n6,n7,n8,n9,cx))
 show vc _ _ _ _ (entry [.a [.vz ab aj,.vz ag ak,.vz ag an,.int ao,.vz ae ah,.int aq,.vz ae ai,.q ar],.a [.int n1,.int n2,.int n3,.int n4,.int n5,.int n6,.int n7,.int n8,.int n9,.int cx]] []) _
 obtain⟨dG,hf⟩:=hp
 have dG:ay.rd (aj,ak,an,ao,ah,aq,ai,ar):=dG
 have hf:fu.fok (n1,n2,n3,n4,n5,n6,n7,n8,n9,cx):=hf
 have cA:=hf.ok
 have h0:0≤cx:=cA.m0
 have h1:cx≤16:=cA.m1
 have hs0: -1000000≤n3:=hf.s0
 have hs1:n3≤1000000:=hf.s1
 have hl:(bw (aj,ak,an,ao,ah,aq,ai,ar) (cU (n1,n2,n3,n4,n5,n6,n7,n8,n9,cx))).length=cx.toNat:=fq cA
 refine⟨⟨⟨⟨aa,aa,aa,aa,aa,aa,aa,aa,aa⟩,⟨aa,aa,aa,aa,aa,aa,aa,aa⟩,aa⟩,?_,?_,?_,?_⟩,fun x1 w2=>?_⟩
 all_goals first|refine aw ?_|refine ax ?_|exact ba|(dsimp only [df,eH];omega)|(dsimp only [sO,re];omega)|(dsimp only [iG,jP];omega)|exact a8|exact dG|exact cA.rd|exact h0|exact h1|skip
 refine cO (l:=[(45,df),(155,sO),(139,iG)]) (ex:=fun _=>true) (wr:=fun _=>false) (pt:=fun _=>false) ⟨iT,MN,tM,aa⟩ [.s 2,.s 3,.b 1002,.b 1003,.s 6,.b 130000] (fun y:Nat×ByteArray=>[(.s 5,.str y.2),(.s 7,.int y.1)]) (fun y=>(y.1:Int)≤cx∧y.2.size≤3000000*y.1∧txF n3 ((bw (aj,ak,an,ao,ah,aq,ai,ar) (cU (n1,n2,n3,n4,n5,n6,n7,n8,n9,cx))).drop y.1) y.1 y.2=jf (aj,ak,an,ao,ah,aq,ai,ar) (n1,n2,n3,n4,n5,n6,n7,n8,n9,cx)) (fun y=>cx.toNat-y.1) (0,⟨#[]⟩) [] ⟨h0,ZA8 _,rfl⟩ dN ?_
 rintro⟨i,out⟩ ⟨(hi:(i:Int)≤cx),(ho:out.size≤3000000*i),(hr:txF n3 ((bw (aj,ak,an,ao,ah,aq,ai,ar) (cU (n1,n2,n3,n4,n5,n6,n7,n8,n9,cx))).drop i) i out=jf (aj,ak,an,ao,ah,aq,ai,ar) (n1,n2,n3,n4,n5,n6,n7,n8,n9,cx))⟩
 have bU:decide ((i:Int)<cx)=true→i<(bw (aj,ak,an,ao,ah,aq,ai,ar) (cU (n1,n2,n3,n4,n5,n6,n7,n8,n9,cx))).length:=fun h=>by have:=aE h;omega
 have dk:=W9 (wE (s:=(aj,ak,an,ao,ah,aq,ai,ar)) (t:=cU (n1,n2,n3,n4,n5,n6,n7,n8,n9,cx)) dG) i
 have hlg:mC n3 i≤12:=by unfold mC;omega
 have amz: -1000200≤mC n3 i:=by unfold mC;omega
 have hzs:(kM (mC n3 i-(nth ab (bw (aj,ak,an,ao,ah,aq,ai,ar) (cU (n1,n2,n3,n4,n5,n6,n7,n8,n9,cx))) i).size)).size≤12:=by rw [k8];omega
 refine⟨fun w1=>⟨⟨?_,?_⟩,?_,?_,⟨⟨aa,aa,aa⟩,?_,?_,?_,?_⟩,fun x2 w3=>⟨⟨?_,?_⟩,⟨⟨aa,aa⟩,?_⟩,fun x4 w5=>⟨?_,⟨?_,?_⟩,?_⟩⟩⟩,fun w6=>?_⟩
 all_goals first|refine aw ?_|refine ax ?_|exact ba|(dsimp only [df,eH];omega)|(dsimp only [sO,re];omega)|(dsimp only [iG,jP];omega)|exact a8|exact bU w1|exact hs0|exact hs1|(show (i:Int)<((bw (aj,ak,an,ao,ah,aq,ai,ar) (cU (n1,n2,n3,n4,n5,n6,n7,n8,n9,cx))).length:Int);have:=bU w1;omega)|(show (out.size+(nth ab (bw (aj,ak,an,ao,ah,aq,ai,ar) (cU (n1,n2,n3,n4,n5,n6,n7,n8,n9,cx))) i).size:Int)≤imax;unfold imax;omega)|(show gO≤mC n3 i-((nth ab (bw (aj,ak,an,ao,ah,aq,ai,ar) (cU (n1,n2,n3,n4,n5,n6,n7,n8,n9,cx))) i).size:Int);unfold gO;omega)|(show (((out++(nth ab (bw (aj,ak,an,ao,ah,aq,ai,ar) (cU (n1,n2,n3,n4,n5,n6,n7,n8,n9,cx))) i)).size:Nat):Int)+((kM (mC n3 i-(nth ab (bw (aj,ak,an,ao,ah,aq,ai,ar) (cU (n1,n2,n3,n4,n5,n6,n7,n8,n9,cx))) i).size)).size:Int)≤imax;rw [ZB3];unfold imax;omega)|skip
 ·have mz:=bU w1
  have aev:=aE (p:=(i:Int)<cx) w1
  refine⟨(i+1,out++(nth ab (bw (aj,ak,an,ao,ah,aq,ai,ar) (cU (n1,n2,n3,n4,n5,n6,n7,n8,n9,cx))) i)++kM (mC n3 i-(nth ab (bw (aj,ak,an,ao,ah,aq,ai,ar) (cU (n1,n2,n3,n4,n5,n6,n7,n8,n9,cx))) i).size)),[],?_,?_,?_⟩
  rotate_right
  ·exact bX
  ·refine⟨by show ((i+1:Nat):Int)≤cx;omega,?_,by rw [←hr,bZ (ek:=ab) mz];rfl⟩
   show (out++(nth ab (bw (aj,ak,an,ao,ah,aq,ai,ar) (cU (n1,n2,n3,n4,n5,n6,n7,n8,n9,cx))) i)++kM (mC n3 i-(nth ab (bw (aj,ak,an,ao,ah,aq,ai,ar) (cU (n1,n2,n3,n4,n5,n6,n7,n8,n9,cx))) i).size)).size≤3000000*(i+1)
   rw [ZB3,ZB3];omega
  ·show cx.toNat-(i+1)<cx.toNat-i;omega
 ·have e:jf (aj,ak,an,ao,ah,aq,ai,ar) (n1,n2,n3,n4,n5,n6,n7,n8,n9,cx)=out:=by rw [←hr,ZB4 (by have:=aA (p:=(i:Int)<cx) w6;omega)];rfl
  refine⟨[],[],_,_,_,rfl,az,(),aa,?_,?_,rfl⟩
  ·(show _=u7 (aj,ak,an,ao,ah,aq,ai,ar) (n1,n2,n3,n4,n5,n6,n7,n8,n9,cx));unfold u7;first|(rw [e];rfl)|rfl
  ·rfl
theorem QR {size:Int}:∀{l:List ByteArray}{k:Nat}{out:ByteArray},(∀x∈l,x.size≤1000000)→(txF size l k out).size≤out.size+1000012*l.length
 |[],k,out,_=>ZB6 _
 |x::l,k,out,h=>by
  have h1:=QR (size:=size) (l:=l) (k:=k+1) (out:=out++x++kM (mC size k-x.size)) fun y hy=>h y (by simp [hy])
  have h2:=h x (by simp)
  rw [ZB3,ZB3,k8] at h1
  have h3:mC size k≤12:=by unfold mC;omega
  rw [txF,ZA1];omega
theorem GN {s:ay}{n:fu}(hs:s.rd) (hn:n.fok):(jf s n).size≤16000200:=by
 have h:=QR (size:=n.2.2.1) (k:=0) (out:=⟨#[]⟩) (wE (s:=s) (t:=cU n) hs)
 rw [fq hn.ok] at h
 have:=hn.ok.m1
 show (txF _ _ _ _).size≤_
 rw [show (⟨#[]⟩:ByteArray).size=0 from rfl] at h
 omega
theorem acD:∀{f:Nat}{s:ByteArray},(zrF f s).size≤s.size
 |0,s=>ZB6 _
 |f+1,s=>by
  cases h:zrB s with
  |true=>
   rw [agT h]
   have:=acD (f:=f) (s:=s.extract 0 ((s.size:Int)-1).toNat)
   rw [ZC5] at this;omega
  |false=>rw [acE h];exact ZB6 _
abbrev eL (text:ByteArray) (k:Int):ByteArray:=zrM (text.extract (k*12).toNat (min (text.size:Int) ((k+1)*12)).toNat)
def qT:Nat→Int→ay→bf→ByteArray→ay×bf×Bool
 |0,_,s,t,_=>(s,t,true)
 |f+1,k,s,t,text=>bif !(aY s t k (eL text k)).2.2 then ((aY s t k (eL text k)).1,t,false) else qT f (k+1) (aY s t k (eL text k)).1 (aY s t k (eL text k)).2.1 text
theorem WC {f:Nat}{k:Int}{s:ay}{t:bf}{text:ByteArray}(h:(aY s t k (eL text k)).2.2=false):qT (f+1) k s t text=((aY s t k (eL text k)).1,t,false):=by rw [qT,h];rfl
theorem WB {f:Nat}{k:Int}{s:ay}{t:bf}{text:ByteArray}(h:(aY s t k (eL text k)).2.2=true):qT (f+1) k s t text=qT f (k+1) (aY s t k (eL text k)).1 (aY s t k (eL text k)).2.1 text:=by rw [qT,h];rfl
def zJ (s:ay) (n:fu) (text:ByteArray) (fr to:Int):ay×fu×Bool:=
 ((qT (to+1-fr).toNat fr s (cU n) text).1,ke n text.size (qT (to+1-fr).toNat fr s (cU n) text).2.1,(qT (to+1-fr).toNat fr s (cU n) text).2.2)
theorem ZN {s u:ay}{n:fu}{t:bf}{text:ByteArray}{fr to:Int}{b:Bool}(h:qT (to+1-fr).toNat fr s (cU n) text=(u,t,b)):zJ s n text fr to=(u,ke n text.size t,b):=by unfold zJ;rw [h]
def tm (S:ay) (n:fu) (text:ByteArray) (fr:Int) (to:Int):Prop:=S.wg 1045000∧(cU n).ok∧0≤fr∧to≤15∧fr≤to+1∧to*12≤text.size∧text.size≤100000000
def pM (S:ay) (n:fu) (text:ByteArray) (fr:Int) (to:Int):AV:=.t [.a (k9 0 1 2 5 6 (zJ S n text fr to).1),ndA (zJ S n text fr to).2.1,.s (.q (zJ S n text fr to).2.2)]
def sq (S:ay) (n:fu) (text:ByteArray) (fr:Int) (to:Int):List AV:=[.rs ab (zJ S n text fr to).1.rows,.rs ag (zJ S n text fr to).1.refs,.rs ag (zJ S n text fr to).1.last,.zz,.zz,.rs ae (zJ S n text fr to).1.gone,.rs ae (zJ S n text fr to).1.dead]
def vZ:Con where
 A:=[.a (stB 0 1 2 3 4),.a [.int,.int,.int,.int,.int,.int,.int,.int,.int,.int],.s .str,.s .int,.s .int]
 B:=[.r ab,.r ag,.r ag,.r ae,.r ae]
 pre:=fun x b=>whole x.1.1 x.1.2.1 x.1.2.2.1 x.1.2.2.2.2.1 x.1.2.2.2.2.2.2.1 (b.1) (b.2.1) (b.2.2.1) (b.2.2.2.1) (b.2.2.2.2)∧tm ((b.1,b.2.1,b.2.2.1,x.1.2.2.2.1,b.2.2.2.1,x.1.2.2.2.2.2.1,b.2.2.2.2,x.1.2.2.2.2.2.2.2)) (x.2.1) (x.2.2.1) (x.2.2.2.1) (x.2.2.2.2)
 α:=fun _ _=>Unit
 φ:=fun _ _ _=>True
 r:=fun x b _=>pM ((b.1,b.2.1,b.2.2.1,x.1.2.2.2.1,b.2.2.2.1,x.1.2.2.2.2.2.1,b.2.2.2.2,x.1.2.2.2.2.2.2.2)) (x.2.1) (x.2.2.1) (x.2.2.2.1) (x.2.2.2.2)
 o:=fun x b _=>sq ((b.1,b.2.1,b.2.2.1,x.1.2.2.2.1,b.2.2.2.1,x.1.2.2.2.2.2.1,b.2.2.2.2,x.1.2.2.2.2.2.2.2)) (x.2.1) (x.2.2.1) (x.2.2.2.1) (x.2.2.2.2)
 nf:=2
 mv:=true
set_option maxRecDepth 100000 in
theorem TS:Has Tryz.prog 140 vZ:=by
 refine Has.ofZ (fun _=>true) (fun _=>false) (fun _=>false) (l:=[(156,v8),(18,eB)]) ⟨TU,mb,trivial⟩ (fn:=Tryz.f140) Tryz.func140 rfl (by decide) (aZ rfl) ?_
 rintro⟨⟨(A3:Nat),(A2:Nat),(A1:Nat),(ao:Int),(AZ:Nat),(aq:Int),(AY:Nat),(ar:Bool)⟩,⟨(n1:Int),(n2:Int),(n3:Int),(n4:Int),(n5:Int),(n6:Int),(n7:Int),(n8:Int),(n9:Int),(cx:Int)⟩,(text:ByteArray),(fr:Int),(to:Int)⟩ ⟨(aj:List ByteArray),(ak:List Int),(an:List Int),(ah:List Pt),(ai:List Pt)⟩ ⟨⟨(gE:A3=List.length aj),(gD:A2=List.length ak),(gC:A1=List.length an),(gB:AZ=List.length ah),(gA:AY=List.length ai)⟩,(hp:tm (aj,ak,an,ao,ah,aq,ai,ar) (n1,n2,n3,n4,n5,n6,n7,n8,n9,cx) text fr to)⟩
 subst gE gD gC gB gA
 show vc _ _ _ _ (entry [.a [.xs 0 1 0 aj.length,.xs 1 1 0 ak.length,.xs 2 1 0 an.length,.int ao,.xs 3 5 0 ah.length,.int aq,.xs 4 5 0 ai.length,.q ar],.a [.int n1,.int n2,.int n3,.int n4,.int n5,.int n6,.int n7,.int n8,.int n9,.int cx],.str text,.int fr,.int to] [.rs ab aj,.rs ag ak,.rs ag an,.rs ae ah,.rs ae ai]) _
 obtain⟨lB,cA,hf0,amu,hft,htt,hts⟩:=hp
 have lB:ay.wg (aj,ak,an,ao,ah,aq,ai,ar) 1045000:=lB
 have cA:bf.ok (cU (n1,n2,n3,n4,n5,n6,n7,n8,n9,cx)):=cA
 refine ?_
 all_goals first|refine aw ?_|refine ax ?_|exact ba|(dsimp only [v8,qf];omega)|(dsimp only [eB,fL];omega)|exact a8|skip
 refine cO (l:=[(156,v8),(18,eB)]) (ex:=fun _=>true) (wr:=fun _=>false) (pt:=fun _=>false) ⟨TU,mb,aa⟩ [.s 2,.s 4,.s 5,.s 6,.s 10,.s 11,.b 1010,.b 1011] (fun y:Int×ay×bf=>[(.s 13,.int y.1),(.b 1005,.a (k9 0 1 2 1000000001 1000000002 y.2.1)),(.b 0,.rs ab y.2.1.rows),(.b 1,.rs ag y.2.1.refs),(.b 2,.rs ag y.2.1.last),(.b 1000000001,.rs ae y.2.1.gone),(.b 1000000002,.rs ae y.2.1.dead),(.b 1006,.a [.int n1,.int n2,.int text.size,.int y.2.2.1,.int y.2.2.2.1,.int y.2.2.2.2.1,.int y.2.2.2.2.2.1,.int y.2.2.2.2.2.2.1,.int y.2.2.2.2.2.2.2.1,.int y.2.2.2.2.2.2.2.2])]) (fun y=>(0≤y.1∧y.1≤to+1)∧y.2.1.wg (1045000+6*y.1.toNat)∧y.2.2.ok∧qT (to+1-y.1).toNat y.1 y.2.1 y.2.2 text=qT (to+1-fr).toNat fr (aj,ak,an,ao,ah,aq,ai,ar) (cU (n1,n2,n3,n4,n5,n6,n7,n8,n9,cx)) text) (fun y=>(to+1-y.1).toNat) (fr,(aj,ak,an,ao,ah,aq,ai,ar),cU (n1,n2,n3,n4,n5,n6,n7,n8,n9,cx)) [(1000000001,3),(1000000002,4)] ⟨⟨hf0,hft⟩,lB.mono (ZD3 _ _),cA,rfl⟩ dN ?_
 rintro⟨k,u,tt⟩ ⟨⟨(hk0:0≤k),(E8:k≤to+1)⟩,(hu:u.wg (1045000+6*k.toNat)),(ht:tt.ok),(hr:qT (to+1-k).toNat k u tt text=qT (to+1-fr).toNat fr (aj,ak,an,ao,ah,aq,ai,ar) (cU (n1,n2,n3,n4,n5,n6,n7,n8,n9,cx)) text)⟩
 have hle:decide (k≤to)=true→k≤to:=fun h=>aE h
 have hpo:=fun h:k≤15=>ny (k:=k) (text:=eL text k) hu ht hk0 h
 have hg:=hu.g
 have hd:=hu.d
 have hx:(text.extract (k*12).toNat (min (text.size:Int) ((k+1)*12)).toNat).size≤1000000:=by rw [ZC5];omega
 refine⟨fun w1=>⟨⟨?_,?_⟩,⟨?_,?_⟩,[.s 5,.b 1005],[.s 34],rfl,[.s 6],[.s 35],rfl,[.s 35,.b 1006],[.s 36],rfl,[.s 13],[.s 37],rfl,[.s 2],[.s 38],rfl,[.s 13],[.s 39],rfl,[.s 39],[.s 40],rfl,⟨?_,?_⟩,[.s 14],[.s 41],rfl,[.s 38,.s 40,.s 41],[.s 42],rfl,⟨?_,?_,?_⟩,[.s 42],[.s 43],rfl,⟨⟨aa,aa⟩,?_⟩,?_,fun x2 w3=>⟨[.s 34,.s 36,.s 37,.s 43,.b 0,.b 1,.b 2,.b 1000000001,.b 1000000002,.b 1000450001,.b 1000450000],[.s 44,.b 0,.b 1,.b 2,.b 1000000001,.b 1000000002,.b 1000450000,.b 1000450001],rfl,⟨⟨⟨aa,aa,aa,aa,aa,aa,aa,aa,aa⟩,⟨aa,aa,aa,aa,aa,aa,aa,aa⟩,aa,aa,aa⟩,⟨?_,?_,?_,?_,?_⟩,?_,?_,?_,?_,?_,?_,?_,?_⟩,?_,fun |false=>fun w4=>⟨[.s 44],[.s 33],rfl,[.s 33],[.s 45],rfl,[.s 33],[.s 46],rfl,[.s 33],[.s 47],rfl,[.b 1015],[.s 15,.b 1015],rfl,[.b 1016],[.s 16,.b 1016],rfl,[.s 15,.s 45,.b 1015],[.b 1015],rfl,[.s 16,.s 46,.b 1016],[.b 1016],rfl,[.s 47],[.s 17],rfl,fun w5=>⟨[.s 5,.b 1005],[.s 50],rfl,[.s 6,.b 1006],[.s 51],rfl,[.s 10,.s 50,.b 1010],[.b 1010],rfl,[.s 11,.s 51,.b 1011],[.b 1011],rfl,[],[.s 12],rfl,?_⟩,fun w6=>⟨⟨?_,?_⟩,?_⟩⟩ |true=>fun w7=>⟨[.s 44],[.s 33],rfl,[.s 33],[.s 45],rfl,[.s 33],[.s 46],rfl,[.s 33],[.s 47],rfl,[.b 1015],[.s 15,.b 1015],rfl,[.b 1016],[.s 16,.b 1016],rfl,[.s 15,.s 45,.b 1015],[.b 1015],rfl,[.s 16,.s 46,.b 1016],[.b 1016],rfl,[.s 47],[.s 17],rfl,fun w8=>⟨[.s 5,.b 1005],[.s 50],rfl,[.s 6,.b 1006],[.s 51],rfl,[.s 10,.s 50,.b 1010],[.b 1010],rfl,[.s 11,.s 51,.b 1011],[.b 1011],rfl,[],[.s 12],rfl,?_⟩,fun w9=>⟨⟨?_,?_⟩,?_⟩⟩⟩⟩,fun dq=>⟨[.s 5,.b 1005],[.s 55],rfl,[.s 6,.b 1006],[.s 56],rfl,[.s 10,.s 55,.b 1010],[.b 1010],rfl,[.s 11,.s 56,.b 1011],[.b 1011],rfl,[],[.s 12],rfl,?_⟩⟩
 all_goals first|refine aw ?_|refine ax ?_|exact ba|(dsimp only [v8,qf];omega)|(dsimp only [eB,fL];omega)|exact a8|exact hu.wf|exact ht.rd|exact ht.m1|exact ZB1 hg (by have:=hle w1;omega)|exact ZB1 hd (by have:=hle w1;omega)|exact⟨_,rfl⟩|(have:=hle w1;omega)|skip
 ·exact hx
 ·exact ZB1 acD hx
 ·have hk:=hle w1
  have hz:(aY u tt k (eL text k)).2.2=false:=(show false=(aY u tt k (eL text k)).2.2 from w4).symm
  have xw:=(hpo (by omega)).2.2 hz
  have e0:qT (to+1-fr).toNat fr (aj,ak,an,ao,ah,aq,ai,ar) (cU (n1,n2,n3,n4,n5,n6,n7,n8,n9,cx)) text=((aY u tt k (eL text k)).1,tt,false):=by rw [←hr,show (to+1-k).toNat=(to-k).toNat+1 by omega,WC hz]
  have e:=ZN e0
  refine⟨[1000000001,1000000002],[],_,_,_,rfl,az,(),0,aa,?_,?_,rfl⟩
  ·(show _=pM (aj,ak,an,ao,ah,aq,ai,ar) (n1,n2,n3,n4,n5,n6,n7,n8,n9,cx) text fr to);unfold pM;first|(rw [e];rfl)|(rw [e];exact congrArg (fun x=>AV.t [A0.a x,ndA (ke (n1,n2,n3,n4,n5,n6,n7,n8,n9,cx) text.size tt),A0.s (SV.q false)]) (nK (b0:=0) (b1:=1) (b2:=2) (b3:=5) (b4:=6) xw hu.wf))|(rw [e];have h3:=xw.gone;have h4:=xw.dead;exact congr (congrArg (fun (a b:List Pt)=>[AV.rs ab (aY u tt k (eL text k)).1.rows,AV.rs ag (aY u tt k (eL text k)).1.refs,AV.rs ag (aY u tt k (eL text k)).1.last,AV.zz,AV.zz,AV.rs ae a,AV.rs ae b]) h3.symm) h4.symm)|rfl
  ·(show _=sq (aj,ak,an,ao,ah,aq,ai,ar) (n1,n2,n3,n4,n5,n6,n7,n8,n9,cx) text fr to);unfold sq;first|(rw [e];rfl)|(rw [e];exact congrArg (fun x=>AV.t [A0.a x,ndA (ke (n1,n2,n3,n4,n5,n6,n7,n8,n9,cx) text.size tt),A0.s (SV.q false)]) (nK (b0:=0) (b1:=1) (b2:=2) (b3:=5) (b4:=6) xw hu.wf))|(rw [e];have h3:=xw.gone;have h4:=xw.dead;exact congr (congrArg (fun (a b:List Pt)=>[AV.rs ab (aY u tt k (eL text k)).1.rows,AV.rs ag (aY u tt k (eL text k)).1.refs,AV.rs ag (aY u tt k (eL text k)).1.last,AV.zz,AV.zz,AV.rs ae a,AV.rs ae b]) h3.symm) h4.symm)|rfl
 ·exact absurd (show true=false from w6) Bool.noConfusion
 ·exact absurd (show false=true from w8) Bool.noConfusion
 ·have hk:=hle w1
  have hz:(aY u tt k (eL text k)).2.2=true:=(show true=(aY u tt k (eL text k)).2.2 from w7).symm
  have h2:=hpo (by omega)
  refine⟨(k+1,(aY u tt k (eL text k)).1,(aY u tt k (eL text k)).2.1),[(1000000001,1000450000),(1000000002,1000450001)],?_,?_,?_⟩
  rotate_right
  ·exact bX
  ·refine⟨⟨by show 0≤k+1;omega,by show k+1≤to+1;omega⟩,h2.1.mono (by show 1045000+6*k.toNat+6≤1045000+6*(k+1).toNat;omega),h2.2.1,?_⟩
   show qT (to+1-(k+1)).toNat (k+1) (aY u tt k (eL text k)).1 (aY u tt k (eL text k)).2.1 text=_
   rw [←hr,show (to+1-k).toNat=(to+1-(k+1)).toNat+1 by omega,WB hz]
  ·show (to+1-(k+1)).toNat<(to+1-k).toNat;omega
 ·have FX:¬k≤to:=aA (p:=k≤to) dq
  have e0:qT (to+1-fr).toNat fr (aj,ak,an,ao,ah,aq,ai,ar) (cU (n1,n2,n3,n4,n5,n6,n7,n8,n9,cx)) text=(u,tt,true):=by rw [←hr,show (to+1-k).toNat=0 by omega];rfl
  have e:=ZN e0
  refine⟨[1000000001,1000000002],[],_,_,_,rfl,az,(),0,aa,?_,?_,rfl⟩
  ·(show _=pM (aj,ak,an,ao,ah,aq,ai,ar) (n1,n2,n3,n4,n5,n6,n7,n8,n9,cx) text fr to);unfold pM;first|(rw [e];rfl)|rfl
  ·(show _=sq (aj,ak,an,ao,ah,aq,ai,ar) (n1,n2,n3,n4,n5,n6,n7,n8,n9,cx) text fr to);unfold sq;first|(rw [e];rfl)|rfl
end GL
end Go.Proofs.YtbfgjadbfjkcdaaGreatDoor
