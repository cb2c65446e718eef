/- A drawn law returns true for every code (its row lists package variables, tied by the card): part 31. -/
import Derived.Test.YtnkbdhldiinfdaaGreatDoorPav
import Derived.Test.YtnkbdhldiinfdaaGreatDoorPax
import Derived.Test.YtnkbdhldiinfdaaGreatDoorPbd
set_option maxHeartbeats 20000000
set_option maxRecDepth 100000
set_option linter.all false
namespace Go.Proofs.YtnkbdhldiinfdaaGreatDoor
namespace GL
def mw (size k:Int):Int:=min 12 (size-k*12)
def qZ (size:Int) (k:Int):Prop:= -1000000≤size∧size≤1000000∧0≤k∧k≤1000000
def u3 (size:Int) (k:Int):AV:=.s (.int (mw size k))
def V6 (size:Int) (k:Int):List AV:=[]
def sJ:cn where
 A:=[.s .int,.s .int]
 B:=[]
 pre:=fun x b=>qZ (x.1) (x.2)
 r:=fun x b _=>u3 (x.1) (x.2)
 o:=fun x b _=>V6 (x.1) (x.2)
theorem MC:Has Tryz.prog 229 sJ:=by
 refine Has.fm zT zF zF (l:=[]) trivial Tryz.func229 ?_
 rintro⟨(size:Int),(k:Int)⟩ _ (hp:qZ size k)
 show vc _ _ _ _ (entry [.int size,.int k] []) _
 obtain⟨h1,h2,h3,h4⟩:=hp
 refine⟨⟨?_,?_⟩,⟨⟨?_,?_⟩,?_⟩⟩
 all_goals first|refine aw ?_|refine ax ?_|exact a8|exact a7|skip
 refine⟨[],[],_,_,_,rfl,az,(),aa,?_,?_,rfl⟩
 ·(show _=u3 size k);unfold u3;first|rfl
 ·rfl
def txF (size:Int):List ByteArray→Nat→ByteArray→ByteArray
 |[],_,out=>out
 |s::l,k,out=>txF size l (k+1) (out++s++kG (mw size k-s.size))
def jd (s:ay) (n:fu):ByteArray:=txF n.2.2.1 (bo s (cT n)) 0 ⟨#[]⟩
theorem kV (n:Int):(kG n).size=(max 0 n).toNat:=by
 unfold kG;rw [fa,nC];simp
structure fu.fok (n:fu):Prop where
 ok:(cT n).ok
 s0: -1000000≤n.2.2.1
 s1:n.2.2.1≤1000000
def qY (S:ay) (n:fu):Prop:=S.rd∧n.fok
def u2 (S:ay) (n:fu):AV:=.s (.str (jd S n))
def V5 (S:ay) (n:fu):List AV:=[]
def sI:cn where
 A:=[.a xv,.a [.int,.int,.int,.int,.int,.int,.int,.int,.int,.int]]
 B:=[]
 pre:=fun x b=>qY (x.1) (x.2)
 r:=fun x b _=>u2 (x.1) (x.2)
 o:=fun x b _=>V5 (x.1) (x.2)
theorem MB:Has Tryz.prog 213 sI:=by
 refine Has.fm zT zF zF (l:=[(50,dc),(229,sJ),(214,iF)]) ⟨iR,MC,tI,aa⟩ Tryz.func213 ?_
 rintro⟨⟨(aj:List ByteArray),(ak:List Int),(an:List Int),(ao:Int),(ah:List Pt),(aq:Int),(ai:List Pt),(ar:Bool)⟩,⟨(n1:Int),(n2:Int),(n3:Int),(n4:Int),(n5:Int),(n6:Int),(n7:Int),(n8:Int),(n9:Int),(cw:Int)⟩⟩ _ (hp:qY (aj,ak,an,ao,ah,aq,ai,ar) (n1,n2,n3,n4,n5,n6,n7,n8,n9,cw))
 show vc _ _ _ _ (entry [.a [.vz ab aj,.vz ag ak,.vz ag an,.int ao,.vz ae ah,.int aq,.vz ae ai,.q ar],.a [.int n1,.int n2,.int n3,.int n4,.int n5,.int n6,.int n7,.int n8,.int n9,.int cw]] []) _
 let g':=(n1,n2,n3,n4,n5,n6,n7,n8,n9,cw)
 let A':=(aj,ak,an,ao,ah,aq,ai,ar)
 obtain⟨dF,hf⟩:=hp
 have dF:ay.rd A':=dF
 have hf:fu.fok g':=hf
 have cG:=hf.ok
 have h0:0≤cw:=cG.m0
 have h1:cw≤16:=cG.m1
 have hs0: -1000000≤n3:=hf.s0
 have hs1:n3≤1000000:=hf.s1
 have hl:(bo A' (cT g')).length=cw.toNat:=fq cG
 refine⟨⟨⟨tv9,tv8,aa⟩,?_,?_,?_,?_⟩,fun x1 w2=>?_⟩
 all_goals first|refine aw ?_|refine ax ?_|exact a8|(dsimp only [dc,eF,sJ,qZ,iF,jP];omega)|exact a7|exact dF|exact cG.rd|exact h0|exact h1|skip
 refine cN (l:=[(50,dc),(229,sJ),(214,iF)]) (ex:=zT) (wr:=zF) (pt:=zF) ⟨iR,MC,tI,aa⟩ [.s 2,.s 3,.b 1002,.b 1003,.s 6,.b 130000] (fun y:Nat×ByteArray=>[(.s 5,.str y.2),(.s 7,.int y.1)]) (fun y=>(y.1:Int)≤cw∧y.2.size≤3000000*y.1∧txF n3 ((bo A' (cT g')).drop y.1) y.1 y.2=jd A' g') (fun y=>cw.toNat-y.1) (0,⟨#[]⟩) [] ⟨h0,ZA7 _,rfl⟩ dM ?_
 rintro⟨i,out⟩ ⟨(hi:(i:Int)≤cw),(ho:out.size≤3000000*i),(hr:txF n3 ((bo A' (cT g')).drop i) i out=jd A' g')⟩
 have bU:decide ((i:Int)<cw)=true→i<(bo A' (cT g')).length:=fun h=>by have:=aJ h;omega
 have dj:=WS (wv (s:=A') (t:=cT g') dF) i
 have hlg:mw n3 i≤12:=by unfold mw;omega
 have ami: -1000200≤mw n3 i:=by unfold mw;omega
 have hzs:(kG (mw n3 i-(nth ab (bo A' (cT g')) i).size)).size≤12:=by rw [kV];omega
 refine⟨fun w1=>⟨⟨?_,?_⟩,?_,?_,⟨tv3,?_,?_,?_,?_⟩,fun x2 w3=>⟨⟨?_,?_⟩,⟨tv2,?_⟩,fun x4 w5=>⟨?_,⟨?_,?_⟩,?_⟩⟩⟩,fun w6=>?_⟩
 all_goals first|refine aw ?_|refine ax ?_|exact a8|(dsimp only [dc,eF,sJ,qZ,iF,jP];omega)|exact a7|exact bU w1|exact hs0|exact hs1|(show (i:Int)<((bo A' (cT g')).length:Int);have:=bU w1;omega)|(show (out.size+(nth ab (bo A' (cT g')) i).size:Int)≤imax;unfold imax;omega)|(show gK≤mw n3 i-((nth ab (bo A' (cT g')) i).size:Int);unfold gK;omega)|(show (((out++(nth ab (bo A' (cT g')) i)).size:Nat):Int)+((kG (mw n3 i-(nth ab (bo A' (cT g')) i).size)).size:Int)≤imax;rw [ZB2];unfold imax;omega)|skip
 ·have mo:=bU w1
  have aeb:=aJ (p:=(i:Int)<cw) w1
  refine⟨(i+1,out++(nth ab (bo A' (cT g')) i)++kG (mw n3 i-(nth ab (bo A' (cT g')) i).size)),[],?_,?_,?_⟩
  rotate_right
  ·exact bV
  ·refine⟨by show ((i+1:Nat):Int)≤cw;omega,?_,by rw [←hr,bW (ek:=ab) mo];rfl⟩
   show (out++(nth ab (bo A' (cT g')) i)++kG (mw n3 i-(nth ab (bo A' (cT g')) i).size)).size≤3000000*(i+1)
   rw [ZB2,ZB2];omega
  ·show cw.toNat-(i+1)<cw.toNat-i;omega
 ·have e:jd A' g'=out:=by rw [←hr,ZB3 (by have:=aA (p:=(i:Int)<cw) w6;omega)];rfl
  refine⟨[],[],_,_,_,rfl,az,(),aa,?_,?_,rfl⟩
  ·(show _=u2 A' g');unfold u2;first|(rw [e];rfl)|rfl
  ·rfl
theorem QC {size:Int}:∀{l:List ByteArray}{k:Nat}{out:ByteArray},(∀x∈l,x.size≤1000000)→(txF size l k out).size≤out.size+1000012*l.length
 |[],k,out,_=>ZB5 _
 |x::l,k,out,h=>by
  have h1:=QC (size:=size) (l:=l) (k:=k+1) (out:=out++x++kG (mw size k-x.size)) fun y hy=>h y (by simp [hy])
  have h2:=h x (by simp)
  rw [ZB2,ZB2,kV] at h1
  have h3:mw size k≤12:=by unfold mw;omega
  rw [txF,ZA1];omega
theorem GA {s:ay}{n:fu}(hs:s.rd) (hn:n.fok):(jd s n).size≤16000200:=by
 have h:=QC (size:=n.2.2.1) (k:=0) (out:=⟨#[]⟩) (wv (s:=s) (t:=cT n) hs)
 rw [fq hn.ok] at h
 have:=hn.ok.m1
 show (txF _ _ _ _).size≤_
 rw [show (⟨#[]⟩:ByteArray).size=0 from rfl] at h
 omega
theorem aci:∀{f:Nat}{s:ByteArray},(zrF f s).size≤s.size
 |0,s=>ZB5 _
 |f+1,s=>by
  cases h:zrB s with
  |true=>
   rw [agz h]
   have:=aci (f:=f) (s:=s.extract 0 ((s.size:Int)-1).toNat)
   rw [ZC5] at this;omega
  |false=>rw [acj h];exact ZB5 _
abbrev eJ (text:ByteArray) (k:Int):ByteArray:=zrM (text.extract (k*12).toNat (min (text.size:Int) ((k+1)*12)).toNat)
def qP:Nat→Int→ay→bf→ByteArray→ay×bf×Bool
 |0,_,s,t,_=>(s,t,true)
 |f+1,k,s,t,text=>bif !(aY s t k (eJ text k)).2.2 then ((aY s t k (eJ text k)).1,t,false) else qP f (k+1) (aY s t k (eJ text k)).1 (aY s t k (eJ text k)).2.1 text
theorem VU {f:Nat}{k:Int}{s:ay}{t:bf}{text:ByteArray}(h:(aY s t k (eJ text k)).2.2=false):qP (f+1) k s t text=((aY s t k (eJ text k)).1,t,false):=by rw [qP,h];rfl
theorem VT {f:Nat}{k:Int}{s:ay}{t:bf}{text:ByteArray}(h:(aY s t k (eJ text k)).2.2=true):qP (f+1) k s t text=qP f (k+1) (aY s t k (eJ text k)).1 (aY s t k (eJ text k)).2.1 text:=by rw [qP,h];rfl
def zw (s:ay) (n:fu) (text:ByteArray) (fr to:Int):ay×fu×Bool:=
 ((qP (to+1-fr).toNat fr s (cT n) text).1,kb n text.size (qP (to+1-fr).toNat fr s (cT n) text).2.1,(qP (to+1-fr).toNat fr s (cT n) text).2.2)
theorem Y5 {s u:ay}{n:fu}{t:bf}{text:ByteArray}{fr to:Int}{b:Bool}(h:qP (to+1-fr).toNat fr s (cT n) text=(u,t,b)):zw s n text fr to=(u,kb n text.size t,b):=by unfold zw;rw [h]
def ti (S:ay) (n:fu) (text:ByteArray) (fr:Int) (to:Int):Prop:=S.wg 1045000∧(cT n).ok∧0≤fr∧to≤15∧fr≤to+1∧to*12≤text.size∧text.size≤100000000
def pI (S:ay) (n:fu) (text:ByteArray) (fr:Int) (to:Int):AV:=.t [.a (kW 0 1 2 5 6 (zw S n text fr to).1),ndA (zw S n text fr to).2.1,.s (.q (zw S n text fr to).2.2)]
def si (S:ay) (n:fu) (text:ByteArray) (fr:Int) (to:Int):List AV:=[.rs ab (zw S n text fr to).1.rows,.rs ag (zw S n text fr to).1.refs,.rs ag (zw S n text fr to).1.last,.zz,.zz,.rs ae (zw S n text fr to).1.gone,.rs ae (zw S n text fr to).1.dead]
def vS:cn where
 A:=[.a (stB 0 1 2 3 4),.a [.int,.int,.int,.int,.int,.int,.int,.int,.int,.int],.s .str,.s .int,.s .int]
 B:=[.r ab,.r ag,.r ag,.r ae,.r ae]
 pre:=fun x b=>stW x.1 b∧ti (gP x.1 b) (x.2.1) (x.2.2.1) (x.2.2.2.1) (x.2.2.2.2)
 r:=fun x b _=>pI (gP x.1 b) (x.2.1) (x.2.2.1) (x.2.2.2.1) (x.2.2.2.2)
 o:=fun x b _=>si (gP x.1 b) (x.2.1) (x.2.2.1) (x.2.2.2.1) (x.2.2.2.2)
 nf:=2
 mv:=true
theorem S9:Has Tryz.prog 215 vS:=by
 refine Has.ofZ zT zF zF (l:=[(230,vU),(60,ez)]) ⟨TD,lY,aa⟩ Tryz.func215 ?_
 rintro⟨⟨(AU:Nat),(AT:Nat),(AS:Nat),(ao:Int),(AR:Nat),(aq:Int),(AQ:Nat),(ar:Bool)⟩,⟨(n1:Int),(n2:Int),(n3:Int),(n4:Int),(n5:Int),(n6:Int),(n7:Int),(n8:Int),(n9:Int),(cw:Int)⟩,(text:ByteArray),(fr:Int),(to:Int)⟩ ⟨(aj:List ByteArray),(ak:List Int),(an:List Int),(ah:List Pt),(ai:List Pt)⟩ ⟨⟨(gC:AU=List.length aj),(gB:AT=List.length ak),(gA:AS=List.length an),(gz:AR=List.length ah),(gy:AQ=List.length ai)⟩,(hp:ti (aj,ak,an,ao,ah,aq,ai,ar) (n1,n2,n3,n4,n5,n6,n7,n8,n9,cw) text fr to)⟩
 subst gC gB gA gz gy
 show vc _ _ _ _ (entry [.a [.xs 0 1 0 aj.length,.xs 1 1 0 ak.length,.xs 2 1 0 an.length,.int ao,.xs 3 5 0 ah.length,.int aq,.xs 4 5 0 ai.length,.q ar],.a [.int n1,.int n2,.int n3,.int n4,.int n5,.int n6,.int n7,.int n8,.int n9,.int cw],.str text,.int fr,.int to] [.rs ab aj,.rs ag ak,.rs ag an,.rs ae ah,.rs ae ai]) _
 let g':=(n1,n2,n3,n4,n5,n6,n7,n8,n9,cw)
 let A':=(aj,ak,an,ao,ah,aq,ai,ar)
 obtain⟨ll,cG,hf0,amd,hft,htt,hts⟩:=hp
 have ll:ay.wg A' 1045000:=ll
 have cG:bf.ok (cT g'):=cG
 refine ?_
 all_goals first|refine aw ?_|refine ax ?_|exact a8|(dsimp only [vU,qb,ez,fK,gP];omega)|exact a7|skip
 refine cN (l:=[(230,vU),(60,ez)]) (ex:=zT) (wr:=zF) (pt:=zF) ⟨TD,lY,aa⟩ [.s 2,.s 4,.s 5,.s 6,.s 10,.s 11,.b 1010,.b 1011] (fun y:Int×ay×bf=>[(.s 13,.int y.1),(.b 1005,.a (kW 0 1 2 1000000001 1000000002 y.2.1)),(.b 0,.rs ab y.2.1.rows),(.b 1,.rs ag y.2.1.refs),(.b 2,.rs ag y.2.1.last),(.b 1000000001,.rs ae y.2.1.gone),(.b 1000000002,.rs ae y.2.1.dead),(.b 1006,.a [.int n1,.int n2,.int text.size,.int y.2.2.1,.int y.2.2.2.1,.int y.2.2.2.2.1,.int y.2.2.2.2.2.1,.int y.2.2.2.2.2.2.1,.int y.2.2.2.2.2.2.2.1,.int y.2.2.2.2.2.2.2.2])]) (fun y=>(0≤y.1∧y.1≤to+1)∧y.2.1.wg (1045000+6*y.1.toNat)∧y.2.2.ok∧qP (to+1-y.1).toNat y.1 y.2.1 y.2.2 text=qP (to+1-fr).toNat fr A' (cT g') text) (fun y=>(to+1-y.1).toNat) (fr,A',cT g') [(1000000001,3),(1000000002,4)] ⟨⟨hf0,hft⟩,ll.mono (ZD3 _ _),cG,rfl⟩ dM ?_
 rintro⟨k,u,tt⟩ ⟨⟨(hk0:0≤k),(EX:k≤to+1)⟩,(hu:u.wg (1045000+6*k.toNat)),(ht:tt.ok),(hr:qP (to+1-k).toNat k u tt text=qP (to+1-fr).toNat fr A' (cT g') text)⟩
 have hle:decide (k≤to)=true→k≤to:=fun h=>aJ h
 have hpo:=fun h:k≤15=>nq (k:=k) (text:=eJ text k) hu ht hk0 h
 have hg:=hu.g
 have hd:=hu.d
 have hx:(text.extract (k*12).toNat (min (text.size:Int) ((k+1)*12)).toNat).size≤1000000:=by rw [ZC5];omega
 refine⟨fun w1=>⟨⟨?_,?_⟩,⟨?_,?_⟩,[.s 5,.b 1005],Sq34,rfl,Sq6,Sq35,rfl,[.s 35,.b 1006],Sq36,rfl,Sq13,Sq37,rfl,Sq2,Sq38,rfl,Sq13,Sq39,rfl,Sq39,Sq40,rfl,⟨?_,?_⟩,Sq14,Sq41,rfl,[.s 38,.s 40,.s 41],Sq42,rfl,⟨?_,?_,?_⟩,Sq42,Sq43,rfl,⟨tv2,?_⟩,?_,fun x2 w3=>⟨[.s 34,.s 36,.s 37,.s 43,.b 0,.b 1,.b 2,.b 1000000001,.b 1000000002,.b 1000450001,.b 1000450000],[.s 44,.b 0,.b 1,.b 2,.b 1000000001,.b 1000000002,.b 1000450000,.b 1000450001],rfl,⟨⟨tv9,tv8,tv3⟩,⟨?_,?_,?_,?_,?_⟩,?_,?_,?_,?_,?_,?_,?_,?_⟩,?_,fun |false=>fun w4=>⟨Sq44,Sq33,rfl,Sq33,Sq45,rfl,Sq33,Sq46,rfl,Sq33,Sq47,rfl,[.b 1015],[.s 15,.b 1015],rfl,[.b 1016],[.s 16,.b 1016],rfl,[.s 15,.s 45,.b 1015],[.b 1015],rfl,[.s 16,.s 46,.b 1016],[.b 1016],rfl,Sq47,Sq17,rfl,fun w5=>⟨[.s 5,.b 1005],Sq50,rfl,[.s 6,.b 1006],Sq51,rfl,[.s 10,.s 50,.b 1010],[.b 1010],rfl,[.s 11,.s 51,.b 1011],[.b 1011],rfl,[],Sq12,rfl,?_⟩,fun w6=>⟨⟨?_,?_⟩,?_⟩⟩ |true=>fun w7=>⟨Sq44,Sq33,rfl,Sq33,Sq45,rfl,Sq33,Sq46,rfl,Sq33,Sq47,rfl,[.b 1015],[.s 15,.b 1015],rfl,[.b 1016],[.s 16,.b 1016],rfl,[.s 15,.s 45,.b 1015],[.b 1015],rfl,[.s 16,.s 46,.b 1016],[.b 1016],rfl,Sq47,Sq17,rfl,fun w8=>⟨[.s 5,.b 1005],Sq50,rfl,[.s 6,.b 1006],Sq51,rfl,[.s 10,.s 50,.b 1010],[.b 1010],rfl,[.s 11,.s 51,.b 1011],[.b 1011],rfl,[],Sq12,rfl,?_⟩,fun w9=>⟨⟨?_,?_⟩,?_⟩⟩⟩⟩,fun dy=>⟨[.s 5,.b 1005],Sq55,rfl,[.s 6,.b 1006],Sq56,rfl,[.s 10,.s 55,.b 1010],[.b 1010],rfl,[.s 11,.s 56,.b 1011],[.b 1011],rfl,[],Sq12,rfl,?_⟩⟩
 all_goals first|refine aw ?_|refine ax ?_|exact a8|(dsimp only [vU,qb,ez,fK,gP];omega)|exact a7|exact hu.wf|exact ht.rd|exact ht.m1|exact ZB0 hg (by have:=hle w1;omega)|exact ZB0 hd (by have:=hle w1;omega)|exact⟨_,rfl⟩|(have:=hle w1;omega)|skip
 ·exact hx
 ·exact ZB0 aci hx
 ·have hk:=hle w1
  have hz:(aY u tt k (eJ text k)).2.2=false:=(show false=(aY u tt k (eJ text k)).2.2 from w4).symm
  have xn:=(hpo (by omega)).2.2 hz
  have e0:qP (to+1-fr).toNat fr A' (cT g') text=((aY u tt k (eJ text k)).1,tt,false):=by rw [←hr,show (to+1-k).toNat=(to-k).toNat+1 by omega,VU hz]
  have e:=Y5 e0
  refine⟨[1000000001,1000000002],[],_,_,_,rfl,az,(),0,aa,?_,?_,rfl⟩
  ·(show _=pI A' g' text fr to);unfold pI;first|(rw [e];rfl)|(rw [e];exact congrArg (fun x=>AV.t [A0.a x,ndA (kb g' text.size tt),A0.s (SV.q false)]) (nD (b0:=0) (b1:=1) (b2:=2) (b3:=5) (b4:=6) xn hu.wf))|(rw [e];have h3:=xn.gone;have h4:=xn.dead;exact congr (congrArg (fun (a b:List Pt)=>[AV.rs ab (aY u tt k (eJ text k)).1.rows,AV.rs ag (aY u tt k (eJ text k)).1.refs,AV.rs ag (aY u tt k (eJ text k)).1.last,AV.zz,AV.zz,AV.rs ae a,AV.rs ae b]) h3.symm) h4.symm)|rfl
  ·(show _=si A' g' text fr to);unfold si;first|(rw [e];rfl)|(rw [e];exact congrArg (fun x=>AV.t [A0.a x,ndA (kb g' text.size tt),A0.s (SV.q false)]) (nD (b0:=0) (b1:=1) (b2:=2) (b3:=5) (b4:=6) xn hu.wf))|(rw [e];have h3:=xn.gone;have h4:=xn.dead;exact congr (congrArg (fun (a b:List Pt)=>[AV.rs ab (aY u tt k (eJ text k)).1.rows,AV.rs ag (aY u tt k (eJ text k)).1.refs,AV.rs ag (aY u tt k (eJ text k)).1.last,AV.zz,AV.zz,AV.rs ae a,AV.rs ae b]) h3.symm) h4.symm)|rfl
 ·exact absurd (show true=false from w6) Bool.noConfusion
 ·exact absurd (show false=true from w8) Bool.noConfusion
 ·have hk:=hle w1
  have hz:(aY u tt k (eJ text k)).2.2=true:=(show true=(aY u tt k (eJ text k)).2.2 from w7).symm
  have h2:=hpo (by omega)
  refine⟨(k+1,(aY u tt k (eJ text k)).1,(aY u tt k (eJ text k)).2.1),[(1000000001,1000450000),(1000000002,1000450001)],?_,?_,?_⟩
  rotate_right
  ·exact bV
  ·refine⟨⟨by show 0≤k+1;omega,by show k+1≤to+1;omega⟩,h2.1.mono (by show 1045000+6*k.toNat+6≤1045000+6*(k+1).toNat;omega),h2.2.1,?_⟩
   show qP (to+1-(k+1)).toNat (k+1) (aY u tt k (eJ text k)).1 (aY u tt k (eJ text k)).2.1 text=_
   rw [←hr,show (to+1-k).toNat=(to+1-(k+1)).toNat+1 by omega,VT hz]
  ·show (to+1-(k+1)).toNat<(to+1-k).toNat;omega
 ·have FL:¬k≤to:=aA (p:=k≤to) dy
  have e0:qP (to+1-fr).toNat fr A' (cT g') text=(u,tt,true):=by rw [←hr,show (to+1-k).toNat=0 by omega];rfl
  have e:=Y5 e0
  refine⟨[1000000001,1000000002],[],_,_,_,rfl,az,(),0,aa,?_,?_,rfl⟩
  ·(show _=pI A' g' text fr to);unfold pI;first|(rw [e];rfl)|rfl
  ·(show _=si A' g' text fr to);unfold si;first|(rw [e];rfl)|rfl
end GL
end Go.Proofs.YtnkbdhldiinfdaaGreatDoor
