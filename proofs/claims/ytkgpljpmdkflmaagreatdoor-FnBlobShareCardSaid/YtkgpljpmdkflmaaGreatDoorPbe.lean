/- A drawn law returns true for every code (its row lists package variables, tied by the card): part 31. -/
import Derived.Test.YtkgpljpmdkflmaaGreatDoorPav
import Derived.Test.YtkgpljpmdkflmaaGreatDoorPax
import Derived.Test.YtkgpljpmdkflmaaGreatDoorPbd
set_option maxHeartbeats 20000000
set_option maxRecDepth 100000
set_option linter.all false
namespace Go.Proofs.YtkgpljpmdkflmaaGreatDoor
namespace GL
def mz (size k:Int):Int:=min 12 (size-k*12)
def q8 (size:Int) (k:Int):Prop:= -1000000≤size∧size≤1000000∧0≤k∧k≤1000000
def u6 (size:Int) (k:Int):AV:=.s (.int (mz size k))
def V3 (size:Int) (k:Int):List AV:=[]
def sM:ct where
 A:=[.s .int,.s .int]
 B:=[]
 pre:=fun x b=>q8 (x.1) (x.2)
 r:=fun x b _=>u6 (x.1) (x.2)
 o:=fun x b _=>V3 (x.1) (x.2)
theorem MA:Has Tryz.prog 134 sM:=by
 refine Has.fu zT zF zF (l:=[]) trivial Tryz.func134 ?_
 rintro⟨(size:Int),(k:Int)⟩ _ (hp:q8 size k)
 show vc _ _ _ _ (entry [.int size,.int k] []) _
 obtain⟨h1,h2,h3,h4⟩:=hp
 refine⟨⟨?_,?_⟩,⟨⟨?_,?_⟩,?_⟩⟩
 all_goals first|refine aw ?_|refine ax ?_|exact a8|exact a7|skip
 refine⟨[],[],_,_,_,rfl,az,(),aa,?_,?_,rfl⟩
 ·(show _=u6 size k);unfold u6;first|rfl
 ·rfl
def txF (size:Int):List ByteArray→Nat→ByteArray→ByteArray
 |[],_,out=>out
 |s::l,k,out=>txF size l (k+1) (out++s++kI (mz size k-s.size))
def jf (s:ay) (n:fv):ByteArray:=txF n.2.2.1 (bq s (cU n)) 0 ⟨#[]⟩
theorem kY (n:Int):(kI n).size=(max 0 n).toNat:=by
 unfold kI;rw [fb,nF];simp
structure fv.fok (n:fv):Prop where
 ok:(cU n).ok
 s0: -1000000≤n.2.2.1
 s1:n.2.2.1≤1000000
def q7 (S:ay) (n:fv):Prop:=S.rd∧n.fok
def u5 (S:ay) (n:fv):AV:=.s (.str (jf S n))
def V2 (S:ay) (n:fv):List AV:=[]
def sL:ct where
 A:=[.a xy,.a [.int,.int,.int,.int,.int,.int,.int,.int,.int,.int]]
 B:=[]
 pre:=fun x b=>q7 (x.1) (x.2)
 r:=fun x b _=>u5 (x.1) (x.2)
 o:=fun x b _=>V2 (x.1) (x.2)
theorem L9:Has Tryz.prog 96 sL:=by
 refine Has.fu zT zF zF (l:=[(90,df),(134,sM),(136,iF)]) ⟨iS,MA,tK,aa⟩ Tryz.func96 ?_
 rintro⟨⟨(aj:List ByteArray),(ak:List Int),(an:List Int),(ao:Int),(ah:List Pt),(aq:Int),(ai:List Pt),(ar:Bool)⟩,⟨(n1:Int),(n2:Int),(n3:Int),(n4:Int),(n5:Int),(n6:Int),(n7:Int),(n8:Int),(n9:Int),(cx:Int)⟩⟩ _ (hp:q7 (aj,ak,an,ao,ah,aq,ai,ar) (n1,n2,n3,n4,n5,n6,n7,n8,n9,cx))
 show vc _ _ _ _ (entry [.a [.vz ab aj,.vz ag ak,.vz ag an,.int ao,.vz ae ah,.int aq,.vz ae ai,.q ar],.a [.int n1,.int n2,.int n3,.int n4,.int n5,.int n6,.int n7,.int n8,.int n9,.int cx]] []) _
 obtain⟨dG,hf⟩:=hp
 have dG:ay.rd (aj,ak,an,ao,ah,aq,ai,ar):=dG
 have hf:fv.fok (n1,n2,n3,n4,n5,n6,n7,n8,n9,cx):=hf
 have cH:=hf.ok
 have h0:0≤cx:=cH.m0
 have h1:cx≤16:=cH.m1
 have hs0: -1000000≤n3:=hf.s0
 have hs1:n3≤1000000:=hf.s1
 have hl:(bq (aj,ak,an,ao,ah,aq,ai,ar) (cU (n1,n2,n3,n4,n5,n6,n7,n8,n9,cx))).length=cx.toNat:=fq cH
 refine⟨⟨⟨⟨aa,aa,aa,aa,aa,aa,aa,aa,aa⟩,⟨aa,aa,aa,aa,aa,aa,aa,aa⟩,aa⟩,?_,?_,?_,?_⟩,fun x1 w2=>?_⟩
 all_goals first|refine aw ?_|refine ax ?_|exact a8|(dsimp only [df,eG,sM,q8,iF,jQ];omega)|exact a7|exact dG|exact cH.rd|exact h0|exact h1|skip
 refine cO (l:=[(90,df),(134,sM),(136,iF)]) (ex:=zT) (wr:=zF) (pt:=zF) ⟨iS,MA,tK,aa⟩ [.s 2,.s 3,.b 1002,.b 1003,.s 6,.b 130000] (fun y:Nat×ByteArray=>[(.s 5,.str y.2),(.s 7,.int y.1)]) (fun y=>(y.1:Int)≤cx∧y.2.size≤3000000*y.1∧txF n3 ((bq (aj,ak,an,ao,ah,aq,ai,ar) (cU (n1,n2,n3,n4,n5,n6,n7,n8,n9,cx))).drop y.1) y.1 y.2=jf (aj,ak,an,ao,ah,aq,ai,ar) (n1,n2,n3,n4,n5,n6,n7,n8,n9,cx)) (fun y=>cx.toNat-y.1) (0,⟨#[]⟩) [] ⟨h0,ZA7 _,rfl⟩ dN ?_
 rintro⟨i,out⟩ ⟨(hi:(i:Int)≤cx),(ho:out.size≤3000000*i),(hr:txF n3 ((bq (aj,ak,an,ao,ah,aq,ai,ar) (cU (n1,n2,n3,n4,n5,n6,n7,n8,n9,cx))).drop i) i out=jf (aj,ak,an,ao,ah,aq,ai,ar) (n1,n2,n3,n4,n5,n6,n7,n8,n9,cx))⟩
 have bV:decide ((i:Int)<cx)=true→i<(bq (aj,ak,an,ao,ah,aq,ai,ar) (cU (n1,n2,n3,n4,n5,n6,n7,n8,n9,cx))).length:=fun h=>by have:=aJ h;omega
 have dj:=WO (wz (s:=(aj,ak,an,ao,ah,aq,ai,ar)) (t:=cU (n1,n2,n3,n4,n5,n6,n7,n8,n9,cx)) dG) i
 have hlg:mz n3 i≤12:=by unfold mz;omega
 have amc: -1000200≤mz n3 i:=by unfold mz;omega
 have hzs:(kI (mz n3 i-(nth ab (bq (aj,ak,an,ao,ah,aq,ai,ar) (cU (n1,n2,n3,n4,n5,n6,n7,n8,n9,cx))) i).size)).size≤12:=by rw [kY];omega
 refine⟨fun w1=>⟨⟨?_,?_⟩,?_,?_,⟨⟨aa,aa,aa⟩,?_,?_,?_,?_⟩,fun x2 w3=>⟨⟨?_,?_⟩,⟨⟨aa,aa⟩,?_⟩,fun x4 w5=>⟨?_,⟨?_,?_⟩,?_⟩⟩⟩,fun w6=>?_⟩
 all_goals first|refine aw ?_|refine ax ?_|exact a8|(dsimp only [df,eG,sM,q8,iF,jQ];omega)|exact a7|exact bV w1|exact hs0|exact hs1|(show (i:Int)<((bq (aj,ak,an,ao,ah,aq,ai,ar) (cU (n1,n2,n3,n4,n5,n6,n7,n8,n9,cx))).length:Int);have:=bV w1;omega)|(show (out.size+(nth ab (bq (aj,ak,an,ao,ah,aq,ai,ar) (cU (n1,n2,n3,n4,n5,n6,n7,n8,n9,cx))) i).size:Int)≤imax;unfold imax;omega)|(show gL≤mz n3 i-((nth ab (bq (aj,ak,an,ao,ah,aq,ai,ar) (cU (n1,n2,n3,n4,n5,n6,n7,n8,n9,cx))) i).size:Int);unfold gL;omega)|(show (((out++(nth ab (bq (aj,ak,an,ao,ah,aq,ai,ar) (cU (n1,n2,n3,n4,n5,n6,n7,n8,n9,cx))) i)).size:Nat):Int)+((kI (mz n3 i-(nth ab (bq (aj,ak,an,ao,ah,aq,ai,ar) (cU (n1,n2,n3,n4,n5,n6,n7,n8,n9,cx))) i).size)).size:Int)≤imax;rw [ZB2];unfold imax;omega)|skip
 ·have mu:=bV w1
  have ad7:=aJ (p:=(i:Int)<cx) w1
  refine⟨(i+1,out++(nth ab (bq (aj,ak,an,ao,ah,aq,ai,ar) (cU (n1,n2,n3,n4,n5,n6,n7,n8,n9,cx))) i)++kI (mz n3 i-(nth ab (bq (aj,ak,an,ao,ah,aq,ai,ar) (cU (n1,n2,n3,n4,n5,n6,n7,n8,n9,cx))) i).size)),[],?_,?_,?_⟩
  rotate_right
  ·exact bW
  ·refine⟨by show ((i+1:Nat):Int)≤cx;omega,?_,by rw [←hr,bX (ek:=ab) mu];rfl⟩
   show (out++(nth ab (bq (aj,ak,an,ao,ah,aq,ai,ar) (cU (n1,n2,n3,n4,n5,n6,n7,n8,n9,cx))) i)++kI (mz n3 i-(nth ab (bq (aj,ak,an,ao,ah,aq,ai,ar) (cU (n1,n2,n3,n4,n5,n6,n7,n8,n9,cx))) i).size)).size≤3000000*(i+1)
   rw [ZB2,ZB2];omega
  ·show cx.toNat-(i+1)<cx.toNat-i;omega
 ·have e:jf (aj,ak,an,ao,ah,aq,ai,ar) (n1,n2,n3,n4,n5,n6,n7,n8,n9,cx)=out:=by rw [←hr,ZB3 (by have:=aA (p:=(i:Int)<cx) w6;omega)];rfl
  refine⟨[],[],_,_,_,rfl,az,(),aa,?_,?_,rfl⟩
  ·(show _=u5 (aj,ak,an,ao,ah,aq,ai,ar) (n1,n2,n3,n4,n5,n6,n7,n8,n9,cx));unfold u5;first|(rw [e];rfl)|rfl
  ·rfl
theorem QA {size:Int}:∀{l:List ByteArray}{k:Nat}{out:ByteArray},(∀x∈l,x.size≤1000000)→(txF size l k out).size≤out.size+1000012*l.length
 |[],k,out,_=>ZB5 _
 |x::l,k,out,h=>by
  have h1:=QA (size:=size) (l:=l) (k:=k+1) (out:=out++x++kI (mz size k-x.size)) fun y hy=>h y (by simp [hy])
  have h2:=h x (by simp)
  rw [ZB2,ZB2,kY] at h1
  have h3:mz size k≤12:=by unfold mz;omega
  rw [txF,ZA1];omega
theorem F9 {s:ay}{n:fv}(hs:s.rd) (hn:n.fok):(jf s n).size≤16000200:=by
 have h:=QA (size:=n.2.2.1) (k:=0) (out:=⟨#[]⟩) (wz (s:=s) (t:=cU n) hs)
 rw [fq hn.ok] at h
 have:=hn.ok.m1
 show (txF _ _ _ _).size≤_
 rw [show (⟨#[]⟩:ByteArray).size=0 from rfl] at h
 omega
theorem acf:∀{f:Nat}{s:ByteArray},(zrF f s).size≤s.size
 |0,s=>ZB5 _
 |f+1,s=>by
  cases h:zrB s with
  |true=>
   rw [agt h]
   have:=acf (f:=f) (s:=s.extract 0 ((s.size:Int)-1).toNat)
   rw [ZC5] at this;omega
  |false=>rw [acg h];exact ZB5 _
abbrev eK (text:ByteArray) (k:Int):ByteArray:=zrM (text.extract (k*12).toNat (min (text.size:Int) ((k+1)*12)).toNat)
def qS:Nat→Int→ay→bf→ByteArray→ay×bf×Bool
 |0,_,s,t,_=>(s,t,true)
 |f+1,k,s,t,text=>bif !(aY s t k (eK text k)).2.2 then ((aY s t k (eK text k)).1,t,false) else qS f (k+1) (aY s t k (eK text k)).1 (aY s t k (eK text k)).2.1 text
theorem VR {f:Nat}{k:Int}{s:ay}{t:bf}{text:ByteArray}(h:(aY s t k (eK text k)).2.2=false):qS (f+1) k s t text=((aY s t k (eK text k)).1,t,false):=by rw [qS,h];rfl
theorem VQ {f:Nat}{k:Int}{s:ay}{t:bf}{text:ByteArray}(h:(aY s t k (eK text k)).2.2=true):qS (f+1) k s t text=qS f (k+1) (aY s t k (eK text k)).1 (aY s t k (eK text k)).2.1 text:=by rw [qS,h];rfl
def zx (s:ay) (n:fv) (text:ByteArray) (fr to:Int):ay×fv×Bool:=
 ((qS (to+1-fr).toNat fr s (cU n) text).1,ke n text.size (qS (to+1-fr).toNat fr s (cU n) text).2.1,(qS (to+1-fr).toNat fr s (cU n) text).2.2)
theorem Y2 {s u:ay}{n:fv}{t:bf}{text:ByteArray}{fr to:Int}{b:Bool}(h:qS (to+1-fr).toNat fr s (cU n) text=(u,t,b)):zx s n text fr to=(u,ke n text.size t,b):=by unfold zx;rw [h]
def tk (S:ay) (n:fv) (text:ByteArray) (fr:Int) (to:Int):Prop:=S.wg 1045000∧(cU n).ok∧0≤fr∧to≤15∧fr≤to+1∧to*12≤text.size∧text.size≤100000000
def pK (S:ay) (n:fv) (text:ByteArray) (fr:Int) (to:Int):AV:=.t [.a (kZ 0 1 2 5 6 (zx S n text fr to).1),ndA (zx S n text fr to).2.1,.s (.q (zx S n text fr to).2.2)]
def sn (S:ay) (n:fv) (text:ByteArray) (fr:Int) (to:Int):List AV:=[.rs ab (zx S n text fr to).1.rows,.rs ag (zx S n text fr to).1.refs,.rs ag (zx S n text fr to).1.last,.zz,.zz,.rs ae (zx S n text fr to).1.gone,.rs ae (zx S n text fr to).1.dead]
def vV:ct where
 A:=[.a (stB 0 1 2 3 4),.a [.int,.int,.int,.int,.int,.int,.int,.int,.int,.int],.s .str,.s .int,.s .int]
 B:=[.r ab,.r ag,.r ag,.r ae,.r ae]
 pre:=fun x b=>stW x.1 b∧tk (gQ x.1 b) (x.2.1) (x.2.2.1) (x.2.2.2.1) (x.2.2.2.2)
 r:=fun x b _=>pK (gQ x.1 b) (x.2.1) (x.2.2.1) (x.2.2.2.1) (x.2.2.2.2)
 o:=fun x b _=>sn (gQ x.1 b) (x.2.1) (x.2.2.1) (x.2.2.2.1) (x.2.2.2.2)
 nf:=2
 mv:=true
theorem S6:Has Tryz.prog 173 vV:=by
 refine Has.ofZ zT zF zF (l:=[(135,vX),(75,eA)]) ⟨S8,l6,aa⟩ Tryz.func173 ?_
 rintro⟨⟨(AU:Nat),(AT:Nat),(AS:Nat),(ao:Int),(AR:Nat),(aq:Int),(AQ:Nat),(ar:Bool)⟩,⟨(n1:Int),(n2:Int),(n3:Int),(n4:Int),(n5:Int),(n6:Int),(n7:Int),(n8:Int),(n9:Int),(cx:Int)⟩,(text:ByteArray),(fr:Int),(to:Int)⟩ ⟨(aj:List ByteArray),(ak:List Int),(an:List Int),(ah:List Pt),(ai:List Pt)⟩ ⟨⟨(gD:AU=List.length aj),(gC:AT=List.length ak),(gB:AS=List.length an),(gA:AR=List.length ah),(gz:AQ=List.length ai)⟩,(hp:tk (aj,ak,an,ao,ah,aq,ai,ar) (n1,n2,n3,n4,n5,n6,n7,n8,n9,cx) text fr to)⟩
 subst gD gC gB gA gz
 show vc _ _ _ _ (entry [.a [.xs 0 1 0 aj.length,.xs 1 1 0 ak.length,.xs 2 1 0 an.length,.int ao,.xs 3 5 0 ah.length,.int aq,.xs 4 5 0 ai.length,.q ar],.a [.int n1,.int n2,.int n3,.int n4,.int n5,.int n6,.int n7,.int n8,.int n9,.int cx],.str text,.int fr,.int to] [.rs ab aj,.rs ag ak,.rs ag an,.rs ae ah,.rs ae ai]) _
 obtain⟨lu,cH,hf0,al7,hft,htt,hts⟩:=hp
 have lu:ay.wg (aj,ak,an,ao,ah,aq,ai,ar) 1045000:=lu
 have cH:bf.ok (cU (n1,n2,n3,n4,n5,n6,n7,n8,n9,cx)):=cH
 refine ?_
 all_goals first|refine aw ?_|refine ax ?_|exact a8|(dsimp only [vX,qd,eA,fL,gQ];omega)|exact a7|skip
 refine cO (l:=[(135,vX),(75,eA)]) (ex:=zT) (wr:=zF) (pt:=zF) ⟨S8,l6,aa⟩ [.s 2,.s 4,.s 5,.s 6,.s 10,.s 11,.b 1010,.b 1011] (fun y:Int×ay×bf=>[(.s 13,.int y.1),(.b 1005,.a (kZ 0 1 2 1000000001 1000000002 y.2.1)),(.b 0,.rs ab y.2.1.rows),(.b 1,.rs ag y.2.1.refs),(.b 2,.rs ag y.2.1.last),(.b 1000000001,.rs ae y.2.1.gone),(.b 1000000002,.rs ae y.2.1.dead),(.b 1006,.a [.int n1,.int n2,.int text.size,.int y.2.2.1,.int y.2.2.2.1,.int y.2.2.2.2.1,.int y.2.2.2.2.2.1,.int y.2.2.2.2.2.2.1,.int y.2.2.2.2.2.2.2.1,.int y.2.2.2.2.2.2.2.2])]) (fun y=>(0≤y.1∧y.1≤to+1)∧y.2.1.wg (1045000+6*y.1.toNat)∧y.2.2.ok∧qS (to+1-y.1).toNat y.1 y.2.1 y.2.2 text=qS (to+1-fr).toNat fr (aj,ak,an,ao,ah,aq,ai,ar) (cU (n1,n2,n3,n4,n5,n6,n7,n8,n9,cx)) text) (fun y=>(to+1-y.1).toNat) (fr,(aj,ak,an,ao,ah,aq,ai,ar),cU (n1,n2,n3,n4,n5,n6,n7,n8,n9,cx)) [(1000000001,3),(1000000002,4)] ⟨⟨hf0,hft⟩,lu.mono (ZD3 _ _),cH,rfl⟩ dN ?_
 rintro⟨k,u,tt⟩ ⟨⟨(hk0:0≤k),(EW:k≤to+1)⟩,(hu:u.wg (1045000+6*k.toNat)),(ht:tt.ok),(hr:qS (to+1-k).toNat k u tt text=qS (to+1-fr).toNat fr (aj,ak,an,ao,ah,aq,ai,ar) (cU (n1,n2,n3,n4,n5,n6,n7,n8,n9,cx)) text)⟩
 have hle:decide (k≤to)=true→k≤to:=fun h=>aJ h
 have hpo:=fun h:k≤15=>nt (k:=k) (text:=eK text k) hu ht hk0 h
 have hg:=hu.g
 have hd:=hu.d
 have hx:(text.extract (k*12).toNat (min (text.size:Int) ((k+1)*12)).toNat).size≤1000000:=by rw [ZC5];omega
 refine⟨fun w1=>⟨⟨?_,?_⟩,⟨?_,?_⟩,[.s 5,.b 1005],Sq34,rfl,Sq6,Sq35,rfl,[.s 35,.b 1006],Sq36,rfl,Sq13,Sq37,rfl,Sq2,Sq38,rfl,Sq13,Sq39,rfl,Sq39,Sq40,rfl,⟨?_,?_⟩,Sq14,Sq41,rfl,[.s 38,.s 40,.s 41],Sq42,rfl,⟨?_,?_,?_⟩,Sq42,Sq43,rfl,⟨⟨aa,aa⟩,?_⟩,?_,fun x2 w3=>⟨[.s 34,.s 36,.s 37,.s 43,.b 0,.b 1,.b 2,.b 1000000001,.b 1000000002,.b 1000450001,.b 1000450000],[.s 44,.b 0,.b 1,.b 2,.b 1000000001,.b 1000000002,.b 1000450000,.b 1000450001],rfl,⟨⟨⟨aa,aa,aa,aa,aa,aa,aa,aa,aa⟩,⟨aa,aa,aa,aa,aa,aa,aa,aa⟩,aa,aa,aa⟩,⟨?_,?_,?_,?_,?_⟩,?_,?_,?_,?_,?_,?_,?_,?_⟩,?_,fun |false=>fun w4=>⟨Sq44,Sq33,rfl,Sq33,Sq45,rfl,Sq33,Sq46,rfl,Sq33,Sq47,rfl,[.b 1015],[.s 15,.b 1015],rfl,[.b 1016],[.s 16,.b 1016],rfl,[.s 15,.s 45,.b 1015],[.b 1015],rfl,[.s 16,.s 46,.b 1016],[.b 1016],rfl,Sq47,Sq17,rfl,fun w5=>⟨[.s 5,.b 1005],Sq50,rfl,[.s 6,.b 1006],Sq51,rfl,[.s 10,.s 50,.b 1010],[.b 1010],rfl,[.s 11,.s 51,.b 1011],[.b 1011],rfl,[],Sq12,rfl,?_⟩,fun w6=>⟨⟨?_,?_⟩,?_⟩⟩ |true=>fun w7=>⟨Sq44,Sq33,rfl,Sq33,Sq45,rfl,Sq33,Sq46,rfl,Sq33,Sq47,rfl,[.b 1015],[.s 15,.b 1015],rfl,[.b 1016],[.s 16,.b 1016],rfl,[.s 15,.s 45,.b 1015],[.b 1015],rfl,[.s 16,.s 46,.b 1016],[.b 1016],rfl,Sq47,Sq17,rfl,fun w8=>⟨[.s 5,.b 1005],Sq50,rfl,[.s 6,.b 1006],Sq51,rfl,[.s 10,.s 50,.b 1010],[.b 1010],rfl,[.s 11,.s 51,.b 1011],[.b 1011],rfl,[],Sq12,rfl,?_⟩,fun w9=>⟨⟨?_,?_⟩,?_⟩⟩⟩⟩,fun dy=>⟨[.s 5,.b 1005],Sq55,rfl,[.s 6,.b 1006],Sq56,rfl,[.s 10,.s 55,.b 1010],[.b 1010],rfl,[.s 11,.s 56,.b 1011],[.b 1011],rfl,[],Sq12,rfl,?_⟩⟩
 all_goals first|refine aw ?_|refine ax ?_|exact a8|(dsimp only [vX,qd,eA,fL,gQ];omega)|exact a7|exact hu.wf|exact ht.rd|exact ht.m1|exact ZB0 hg (by have:=hle w1;omega)|exact ZB0 hd (by have:=hle w1;omega)|exact⟨_,rfl⟩|(have:=hle w1;omega)|skip
 ·exact hx
 ·exact ZB0 acf hx
 ·have hk:=hle w1
  have hz:(aY u tt k (eK text k)).2.2=false:=(show false=(aY u tt k (eK text k)).2.2 from w4).symm
  have xr:=(hpo (by omega)).2.2 hz
  have e0:qS (to+1-fr).toNat fr (aj,ak,an,ao,ah,aq,ai,ar) (cU (n1,n2,n3,n4,n5,n6,n7,n8,n9,cx)) text=((aY u tt k (eK text k)).1,tt,false):=by rw [←hr,show (to+1-k).toNat=(to-k).toNat+1 by omega,VR hz]
  have e:=Y2 e0
  refine⟨[1000000001,1000000002],[],_,_,_,rfl,az,(),0,aa,?_,?_,rfl⟩
  ·(show _=pK (aj,ak,an,ao,ah,aq,ai,ar) (n1,n2,n3,n4,n5,n6,n7,n8,n9,cx) text fr to);unfold pK;first|(rw [e];rfl)|(rw [e];exact congrArg (fun x=>AV.t [A0.a x,ndA (ke (n1,n2,n3,n4,n5,n6,n7,n8,n9,cx) text.size tt),A0.s (SV.q false)]) (nG (b0:=0) (b1:=1) (b2:=2) (b3:=5) (b4:=6) xr hu.wf))|(rw [e];have h3:=xr.gone;have h4:=xr.dead;exact congr (congrArg (fun (a b:List Pt)=>[AV.rs ab (aY u tt k (eK text k)).1.rows,AV.rs ag (aY u tt k (eK text k)).1.refs,AV.rs ag (aY u tt k (eK text k)).1.last,AV.zz,AV.zz,AV.rs ae a,AV.rs ae b]) h3.symm) h4.symm)|rfl
  ·(show _=sn (aj,ak,an,ao,ah,aq,ai,ar) (n1,n2,n3,n4,n5,n6,n7,n8,n9,cx) text fr to);unfold sn;first|(rw [e];rfl)|(rw [e];exact congrArg (fun x=>AV.t [A0.a x,ndA (ke (n1,n2,n3,n4,n5,n6,n7,n8,n9,cx) text.size tt),A0.s (SV.q false)]) (nG (b0:=0) (b1:=1) (b2:=2) (b3:=5) (b4:=6) xr hu.wf))|(rw [e];have h3:=xr.gone;have h4:=xr.dead;exact congr (congrArg (fun (a b:List Pt)=>[AV.rs ab (aY u tt k (eK text k)).1.rows,AV.rs ag (aY u tt k (eK text k)).1.refs,AV.rs ag (aY u tt k (eK text k)).1.last,AV.zz,AV.zz,AV.rs ae a,AV.rs ae b]) h3.symm) h4.symm)|rfl
 ·exact absurd (show true=false from w6) Bool.noConfusion
 ·exact absurd (show false=true from w8) Bool.noConfusion
 ·have hk:=hle w1
  have hz:(aY u tt k (eK text k)).2.2=true:=(show true=(aY u tt k (eK text k)).2.2 from w7).symm
  have h2:=hpo (by omega)
  refine⟨(k+1,(aY u tt k (eK text k)).1,(aY u tt k (eK text k)).2.1),[(1000000001,1000450000),(1000000002,1000450001)],?_,?_,?_⟩
  rotate_right
  ·exact bW
  ·refine⟨⟨by show 0≤k+1;omega,by show k+1≤to+1;omega⟩,h2.1.mono (by show 1045000+6*k.toNat+6≤1045000+6*(k+1).toNat;omega),h2.2.1,?_⟩
   show qS (to+1-(k+1)).toNat (k+1) (aY u tt k (eK text k)).1 (aY u tt k (eK text k)).2.1 text=_
   rw [←hr,show (to+1-k).toNat=(to+1-(k+1)).toNat+1 by omega,VQ hz]
  ·show (to+1-(k+1)).toNat<(to+1-k).toNat;omega
 ·have FK:¬k≤to:=aA (p:=k≤to) dy
  have e0:qS (to+1-fr).toNat fr (aj,ak,an,ao,ah,aq,ai,ar) (cU (n1,n2,n3,n4,n5,n6,n7,n8,n9,cx)) text=(u,tt,true):=by rw [←hr,show (to+1-k).toNat=0 by omega];rfl
  have e:=Y2 e0
  refine⟨[1000000001,1000000002],[],_,_,_,rfl,az,(),0,aa,?_,?_,rfl⟩
  ·(show _=pK (aj,ak,an,ao,ah,aq,ai,ar) (n1,n2,n3,n4,n5,n6,n7,n8,n9,cx) text fr to);unfold pK;first|(rw [e];rfl)|rfl
  ·(show _=sn (aj,ak,an,ao,ah,aq,ai,ar) (n1,n2,n3,n4,n5,n6,n7,n8,n9,cx) text fr to);unfold sn;first|(rw [e];rfl)|rfl
end GL
end Go.Proofs.YtkgpljpmdkflmaaGreatDoor
