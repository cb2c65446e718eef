/- A drawn law returns true for every code (its row lists package variables, tied by the card): part 24. -/
import Derived.Test.YtnkbdhldiinfdaaGreatDoorPan
import Derived.Test.YtnkbdhldiinfdaaGreatDoorPav
set_option maxHeartbeats 20000000
set_option maxRecDepth 100000
set_option linter.all false
namespace Go.Proofs.YtnkbdhldiinfdaaGreatDoor
namespace GL
theorem nD {b0 b1 b2 b3 b4:Nat}{s u:ay}(h:um s u) (hs:s.wf):kW b0 b1 b2 b3 b4 s=kW b0 b1 b2 b3 b4 u:=by
 unfold kW
 rw [h.wf.n.1,h.wf.n.2.1,h.wf.n.2.2,hs.n.1,hs.n.2.1,hs.n.2.2,h.gone,h.dead,h.cg,h.bZ,h.same]
def mJ (S:ay) (t:bf) (many:Int):Prop:=S.wf∧t.rd∧0≤many∧many≤16∧S.gone.length≤1046000∧S.dead.length≤1046000
def aaX (S:ay) (t:bf) (many:Int) (z:Bool):Prop:=z=(cF S t many).2.2
def mG (S:ay) (t:bf) (many:Int) (z:Bool):AV:=match z with |true=>.t [.a (kW 0 1 2 5 6 (cF S t many).1),trA (cF S t many).2.1,.s (.q true)] |false=>.t [.a (kW 0 1 2 3 4 (cF S t many).1),trA (cF S t many).2.1,.s (.q false)]
def qj (S:ay) (t:bf) (many:Int) (z:Bool):List AV:=match z with |true=>[.rs ab (cF S t many).1.rows,.rs ag (cF S t many).1.refs,.rs ag (cF S t many).1.last,.zz,.zz,.rs ae (cF S t many).1.gone,.rs ae (cF S t many).1.dead] |false=>GF (cF S t many).1++[.zz,.zz]
def ma:cn where
 A:=[.a (stB 0 1 2 3 4),.a [.int,.int,.int,.int,.int,.int,.int],.s .int]
 B:=[.r ab,.r ag,.r ag,.r ae,.r ae]
 pre:=fun x b=>stW x.1 b∧mJ (gP x.1 b) (x.2.1) (x.2.2)
 α:=fun _ _=>Bool
 φ:=fun x b z=>aaX (gP x.1 b) (x.2.1) (x.2.2) z
 r:=fun x b z=>mG (gP x.1 b) (x.2.1) (x.2.2) z
 o:=fun x b z=>qj (gP x.1 b) (x.2.1) (x.2.2) z
 nf:=2
 mv:=true
theorem zH:Has Tryz.prog 210 ma:=by
 refine Has.ofP 4 zT zF zF (l:=[(70,ey),(94,j1),(95,cJ)]) ⟨lX,wO,gx,aa⟩ Tryz.func210 ?_
 rintro⟨⟨(AU:Nat),(AT:Nat),(AS:Nat),(ao:Int),(AR:Nat),(aq:Int),(AQ:Nat),(ar:Bool)⟩,⟨(t1:Int),(t2:Int),(t3:Int),(t4:Int),(t5:Int),(t6:Int),(t7:Int)⟩,(many:Int)⟩ ⟨(aj:List ByteArray),(ak:List Int),(an:List Int),(ah:List Pt),(ai:List Pt)⟩ ⟨⟨(gC:AU=List.length aj),(gB:AT=List.length ak),(gA:AS=List.length an),(gz:AR=List.length ah),(gy:AQ=List.length ai)⟩,(hp:mJ (aj,ak,an,ao,ah,aq,ai,ar) (t1,t2,t3,t4,t5,t6,t7) many)⟩
 subst gC gB gA gz gy
 show vcP _ _ _ _ 4 _ (entry [.a [.xs 0 1 0 aj.length,.xs 1 1 0 ak.length,.xs 2 1 0 an.length,.int ao,.xs 3 5 0 ah.length,.int aq,.xs 4 5 0 ai.length,.q ar],.a [.int t1,.int t2,.int t3,.int t4,.int t5,.int t6,.int t7],.int many] [.rs ab aj,.rs ag ak,.rs ag an,.rs ae ah,.rs ae ai])
 let g':=(aj,ak,an,ao,ah,aq,ai,ar)
 let A':=(t1,t2,t3,t4,t5,t6,t7)
 obtain⟨oN,sS,xB,EW,(hg:ah.length≤1046000),(hd:ai.length≤1046000)⟩:=hp
 have oN:ay.wf g':=oN
 have sS:bf.rd A':=sS
 have hwl:=gi (s:=g') sS
 have hwo:=lA (s:=g') sS
 have hly:=FF (t:=A') (l:=aB g' A') (many:=many) oN
 refine zb (l:=[(70,ey),(94,j1),(95,cJ)]) (ex:=zT) (wr:=zF) (pt:=zF) ⟨lX,wO,gx,aa⟩ (fun y:Unit=>[(.s 3,.s (.bp 1003 0)),(.s 4,.s (.bp 1004 0)),(.s 6,.s (.bp 1006 0)),(.s 7,.s (.bp 1007 0)),(.s 12,.s (.q false)),(.b 1003,.a (kW 0 1 2 3 4 g')),(.b 0,.rs ab (bQ g' A' (aB g' A') many).1.rows),(.b 1,.rs ag (bQ g' A' (aB g' A') many).1.refs),(.b 2,.rs ag (bQ g' A' (aB g' A') many).1.last),(.b 3,.rs ae (bQ g' A' (aB g' A') many).1.gone),(.b 4,.rs ae (bQ g' A' (aB g' A') many).1.dead),(.b 1004,.a [.int t1,.int t2,.int t3,.int t4,.int t5,.int t6,.int t7]),(.b 1006,.a (uF pB.zero)),(.b 1007,.a (uF sV.zero))]) (fun y=>decide (many=bf.many A')=false∧(bQ g' A' (aB g' A') many).2.2=false) (xc 4 (J9 Tryz.f210)) ?_ (fun tail=>?_)
 ·rintro⟨⟩ ⟨(fA:decide (many=bf.many A')=false),(hz:(bQ g' A' (aB g' A') many).2.2=false)⟩
  have xn:=CL oN hz
  have e:(cF g' A' many)=((bQ g' A' (aB g' A') many).1,A',false):=aeZ fA (by rw [hz];rfl)
  refine⟨fun w1=>⟨[.s 3,.b 1003],Sq34,rfl,[.s 4,.b 1004],Sq35,rfl,[.s 6,.s 34,.b 1006],[.b 1006],rfl,[.s 7,.s 35,.b 1007],[.b 1007],rfl,[],Sq8,rfl,?_⟩,fun w2=>?_⟩
  all_goals first|refine aw ?_|refine ax ?_|exact a8|(dsimp only [ey,fU,j1,kY,cJ,dH,gP];omega)|exact a7|skip
  ·have es:kW 0 1 2 3 4 g'=kW 0 1 2 3 4 (bQ g' A' (aB g' A') many).1:=nD xn oN
   refine⟨[],[],_,_,_,rfl,az,false,2,(by show false=(cF g' A' many).2.2;rw [e]),?_,?_,rfl⟩
   ·(show _=mG g' A' many false);unfold mG;first|(rw [e];rfl)|(rw [e];exact congrArg (fun x=>AV.t [A0.a x,trA A',A0.s (SV.q false)]) es)|rfl
   ·(show _=qj g' A' many false);unfold qj;first|(rw [e];rfl)|(rw [e];exact congrArg (fun x=>AV.t [A0.a x,trA A',A0.s (SV.q false)]) es)|rfl
  ·exact absurd (show true=false from w2) Bool.noConfusion
 have aiB:=tail
 clear tail
 refine zb (l:=[(70,ey),(94,j1),(95,cJ)]) (ex:=zT) (wr:=zF) (pt:=zF) ⟨lX,wO,gx,aa⟩ (fun y:Unit=>[(.s 2,.int many),(.s 6,.s (.bp 1006 0)),(.s 7,.s (.bp 1007 0)),(.s 9,.s (.xs 230000 5 0 (aB g' A').length)),(.s 10,.s (.bp 1010 0)),(.s 11,.s (.bp 1011 0)),(.s 12,.s (.q true)),(.b 1010,.a (kW 0 1 2 1000290000 1000290001 (bQ g' A' (aB g' A') many).1)),(.b 0,.rs ab (bQ g' A' (aB g' A') many).1.rows),(.b 1,.rs ag (bQ g' A' (aB g' A') many).1.refs),(.b 2,.rs ag (bQ g' A' (aB g' A') many).1.last),(.b 1000290000,.rs ae (bQ g' A' (aB g' A') many).1.gone),(.b 1000290001,.rs ae (bQ g' A' (aB g' A') many).1.dead),(.b 1011,.a [.int (bQ g' A' (aB g' A') many).2.1.1,.int (bQ g' A' (aB g' A') many).2.1.2.1,.int (bQ g' A' (aB g' A') many).2.1.2.2.1,.int (bQ g' A' (aB g' A') many).2.1.2.2.2.1,.int (bQ g' A' (aB g' A') many).2.1.2.2.2.2.1,.int (bQ g' A' (aB g' A') many).2.1.2.2.2.2.2.1,.int (bQ g' A' (aB g' A') many).2.1.2.2.2.2.2.2]),(.b 1006,.a (uF pB.zero)),(.b 1007,.a (uF sV.zero)),(.b 230000,.rs ae (aB g' A'))]) (fun y=>decide (many=bf.many A')=false∧(bQ g' A' (aB g' A') many).2.2=true) (xc 4 (J9 Tryz.f210)) ?_ (fun tail=>?_)
 ·rintro⟨⟩ ⟨(fA:decide (many=bf.many A')=false),(hz:(bQ g' A' (aB g' A') many).2.2=true)⟩
  have e:(cF g' A' many)=(dx ((aB g' A').drop many.toNat) (bQ g' A' (aB g' A') many).1,(bQ g' A' (aB g' A') many).2.1,true):=aeY fA (by rw [hz];rfl)
  refine⟨fun w1=>⟨Sq3,[],rfl,?_⟩,fun w2=>?_⟩
  all_goals first|refine aw ?_|refine ax ?_|exact a8|(dsimp only [ey,fU,j1,kY,cJ,dH,gP];omega)|exact a7|skip
  ·exact absurd (show false=true from w1) Bool.noConfusion
  ·refine cN (l:=[(70,ey),(94,j1),(95,cJ)]) (ex:=zT) (wr:=zF) (pt:=zF) ⟨lX,wO,gx,trivial⟩ [.s 6,.s 7,.s 9,.s 10,.s 11,.b 1011,.b 1006,.b 1007,.b 230000] (fun y:Int×ay=>[(.s 13,.int y.1),(.b 1010,.a (kW 0 1 2 1000000001 1000000002 y.2)),(.b 0,.rs ab y.2.rows),(.b 1,.rs ag y.2.refs),(.b 2,.rs ag y.2.last),(.b 1000000001,.rs ae y.2.gone),(.b 1000000002,.rs ae y.2.dead)]) (fun y=>y.2.wf∧(0≤y.1∧y.1≤16)∧(y.2.gone.length≤1046005+y.1.toNat∧y.2.dead.length≤1046005+y.1.toNat)∧dx ((aB g' A').drop y.1.toNat) y.2=dx ((aB g' A').drop many.toNat) (bQ g' A' (aB g' A') many).1) (fun y=>16-y.1.toNat) (many,(bQ g' A' (aB g' A') many).1) [(1000000001,1000290000),(1000000002,1000290001)] ⟨hly.1,⟨xB,EW⟩,⟨ZB0 hly.2.1 (by have:ah.length≤1046000:=hg;show ah.length+5≤1046005+many.toNat;omega),ZB0 hly.2.2.1 (by have:ai.length≤1046000:=hd;show ai.length+5≤1046005+many.toNat;omega)⟩,rfl⟩ dM ?_
   rintro⟨i,u⟩ ⟨(hu:u.wf),⟨(hi0:0≤i),(hi:i≤16)⟩,⟨(hug:u.gone.length≤1046005+i.toNat),(hud:u.dead.length≤1046005+i.toNat)⟩,(ke:dx ((aB g' A').drop i.toNat) u=dx ((aB g' A').drop many.toNat) (bQ g' A' (aB g' A') many).1)⟩
   have hia:=nT (oC hwo i.toNat)
   have cm:decide (i<((aB g' A').length:Int))=true→i.toNat<(aB g' A').length:=fun h=>by have:=aJ h;omega
   refine⟨fun w1=>⟨[.s 10,.b 1010],Sq43,rfl,Sq9,Sq44,rfl,Sq13,Sq45,rfl,[.s 44,.s 45],Sq46,rfl,⟨?_,?_⟩,[.s 46,.b 230000],Sq47,rfl,?_,[.s 43,.s 47,.b 0,.b 1,.b 2,.b 1000000001,.b 1000000002,.b 1000490001,.b 1000490000],[.s 48,.b 0,.b 1,.b 2,.b 1000000001,.b 1000000002,.b 1000490000,.b 1000490001],rfl,⟨⟨tv9,tv6,aa⟩,⟨?_,?_,?_,?_,?_⟩,⟨?_,?_,?_⟩,?_,?_,?_,?_⟩,?_,fun x2 w3=>⟨[.s 10,.s 48,.b 1010],[.b 1010],rfl,⟨?_,?_⟩,?_⟩⟩,fun w4=>⟨[.s 10,.b 1010],Sq49,rfl,[.s 11,.b 1011],Sq50,rfl,[.s 6,.s 49,.b 1006],[.b 1006],rfl,[.s 7,.s 50,.b 1007],[.b 1007],rfl,[],Sq8,rfl,?_⟩⟩
   all_goals first|refine aw ?_|refine ax ?_|exact a8|(dsimp only [ey,fU,j1,kY,cJ,dH,gP];omega)|exact a7|exact cm w1|exact aJ w1|exact hu.n.1|exact hu.n.2.1|exact hu.n.2.2|exact hia.1|exact hia.2|exact ZB0 hug (by omega)|exact ZB0 hud (by omega)|skip
   ·have hil:=cm w1
    have mo:=aJ (p:=i<((aB g' A').length:Int)) w1
    have I3:=pg u (nth ae (aB g' A') i.toNat)
    have hnx:(i+1).toNat=i.toNat+1:=by omega
    refine⟨(i+1,cM u (nth ae (aB g' A') i.toNat)),[(1000000001,1000490000),(1000000002,1000490001)],?_,?_,?_⟩
    rotate_right
    ·exact bV
    ·refine⟨qq hu,⟨by show 0≤i+1;omega,by show i+1≤16;omega⟩,⟨by show (cM u (nth ae (aB g' A') i.toNat)).gone.length≤1046005+(i+1).toNat;omega,by show (cM u (nth ae (aB g' A') i.toNat)).dead.length≤1046005+(i+1).toNat;omega⟩,?_⟩
     show dx ((aB g' A').drop (i+1).toNat) _=_
     rw [←ke,bW (ek:=ae) hil,hnx];rfl
    ·show 16-(i+1).toNat<16-i.toNat;omega
   ·have e2:dx ((aB g' A').drop many.toNat) (bQ g' A' (aB g' A') many).1=u:=by
     rw [←ke,ZB3 (by have:=aA (p:=i<((aB g' A').length:Int)) w4;omega)];rfl
    have e3:(cF g' A' many)=(u,(bQ g' A' (aB g' A') many).2.1,true):=by rw [e,e2]
    refine⟨[1000000001,1000000002],[],_,_,_,rfl,az,true,0,(by show true=(cF g' A' many).2.2;rw [e3]),?_,?_,rfl⟩
    ·(show _=mG g' A' many true);unfold mG;first|(rw [e3];rfl)|rfl
    ·(show _=qj g' A' many true);unfold qj;first|(rw [e3];rfl)|rfl
 ·refine⟨fun w1=>⟨[.s 3,.b 1003],Sq18,rfl,[.s 4,.b 1004],Sq19,rfl,[.s 6,.s 18,.b 1006],[.b 1006],rfl,[.s 7,.s 19,.b 1007],[.b 1007],rfl,[],Sq8,rfl,?_⟩,fun w2=>⟨⟨⟨⟨⟨?_,?_⟩,⟨?_,?_⟩,⟨?_,?_⟩,aa,⟨?_,?_⟩,aa,⟨?_,?_⟩,tv2⟩,tv8,aa⟩,?_,?_⟩,fun x3 w4=>⟨⟨⟨tv9,tv8,⟨?_,?_⟩,tv2⟩,⟨?_,?_,?_,?_,?_⟩,?_,?_,?_,?_,?_,?_,?_⟩,fun |false=>fun w5=>?_ |true=>fun w6=>?_⟩⟩⟩
  all_goals first|refine aw ?_|refine ax ?_|exact a8|(dsimp only [ey,fU,j1,kY,cJ,dH,gP];omega)|exact a7|exact oN|exact oN.rd|exact sS|exact hwl|exact ZB0 hg (by decide)|exact ZB0 hd (by decide)|skip
  ·have e:(cF g' A' many)=(g',A',true):=ae0 w1
   refine⟨[3,4],[],_,_,_,rfl,az,true,0,(by show true=(cF g' A' many).2.2;rw [e]),?_,?_,rfl⟩
   ·(show _=mG g' A' many true);unfold mG;first|(rw [e];rfl)|rfl
   ·(show _=qj g' A' many true);unfold qj;first|(rw [e];rfl)|rfl
  ·have hz:(bQ g' A' (aB g' A') many).2.2=false:=(show false=(bQ g' A' (aB g' A') many).2.2 from w5).symm
   refine joinTail aiB () [] (⟨w2,hz⟩) ?_
   repeat' (first|exact trivial|rfl|exact rfl|exact fP ZA0.symm|apply And.intro)
  ·have hz:(bQ g' A' (aB g' A') many).2.2=true:=(show true=(bQ g' A' (aB g' A') many).2.2 from w6).symm
   refine joinTail tail ((())) [] ((⟨w2,hz⟩)) ?_
   repeat' (first|exact trivial|rfl|exact rfl|exact fP ZA0.symm|apply And.intro)
end GL
namespace GL
theorem fq {s:ay}{t:bf}(h:t.ok):(bo s t).length=t.many.toNat:=by
 unfold bo sW
 rw [ZG5,ZB9,gi h.rd]
 have:=h.m0;have:=h.m1;omega
theorem xO {s:ay}{t:bf}(h:t.ok) {k:Nat}(hk:k<t.many.toNat):nth ab (bo s t) k=getM s t k:=by
 have h1:=h.m1
 have hl:=gi (s:=s) h.rd
 unfold bo sW getM nth
 rw [List.getElem?_map,List.getElem?_take_of_lt hk,ZB1 (by omega)]
 rfl
theorem wv {s:ay}{t:bf}(h:s.rd):∀x∈bo s t,x.size≤1000000:=by
 intro x hx
 unfold bo sW at hx
 obtain⟨p,_,rfl⟩:=List.mem_map.1 hx
 exact zp h
theorem WS {l:List ByteArray}(h:∀x∈l,x.size≤1000000) (k:Nat):(nth ab l k).size≤1000000:=by
 by_cases hk:k<l.length
 ·exact h _ (bR (ek:=ab) hk)
 ·unfold nth;rw [ZD8 (by omega)];exact ZA7 _
def cK (s:ay) (t:bf) (k:Int):fu×Bool:=bif !(ik k 0 (t.many-1)) then (nz,false) else bz (getM s t k.toNat)
theorem aet {s:ay}{t:bf}{k:Int}(h:(!(ik k 0 (t.many-1)))=true):cK s t k=(nz,false):=by unfold cK;rw [h];rfl
theorem aes {s:ay}{t:bf}{k:Int}(h:(!(ik k 0 (t.many-1)))=false):cK s t k=bz (getM s t k.toNat):=by unfold cK;rw [h];rfl
def kJ (S:ay) (t:bf) (k:Int):Prop:=S.rd∧bf.ok t
def pL (S:ay) (t:bf) (k:Int):AV:=.t [ndA (cK S t k).1,.s (.q (cK S t k).2)]
def abi (S:ay) (t:bf) (k:Int):List AV:=[]
def jE:cn where
 A:=[.a xv,.a [.int,.int,.int,.int,.int,.int,.int],.s .int]
 B:=[]
 pre:=fun x b=>kJ (x.1) (x.2.1) (x.2.2)
 r:=fun x b _=>pL (x.1) (x.2.1) (x.2.2)
 o:=fun x b _=>abi (x.1) (x.2.1) (x.2.2)
theorem vy:Has Tryz.prog 51 jE:=by
 refine Has.fm zT zF zF (l:=[(35,hZ),(36,PX),(82,ng)]) ⟨iA,afY,CT,aa⟩ Tryz.func51 ?_
 rintro⟨⟨(aj:List ByteArray),(ak:List Int),(an:List Int),(ao:Int),(ah:List Pt),(aq:Int),(ai:List Pt),(ar:Bool)⟩,⟨(t1:Int),(t2:Int),(t3:Int),(t4:Int),(t5:Int),(t6:Int),(t7:Int)⟩,(k:Int)⟩ _ (hp:kJ (aj,ak,an,ao,ah,aq,ai,ar) (t1,t2,t3,t4,t5,t6,t7) k)
 show vc _ _ _ _ (entry [.a [.vz ab aj,.vz ag ak,.vz ag an,.int ao,.vz ae ah,.int aq,.vz ae ai,.q ar],.a [.int t1,.int t2,.int t3,.int t4,.int t5,.int t6,.int t7],.int k] []) _
 let g':=(aj,ak,an,ao,ah,aq,ai,ar)
 let A':=(t1,t2,t3,t4,t5,t6,t7)
 obtain⟨dF,cG⟩:=hp
 have dF:ay.rd g':=dF
 have cG:bf.ok A':=cG
 have h0:0≤t7:=cG.m0
 have h1:t7≤16:=cG.m1
 have cm:(!(ik k 0 (t7-1)))=false→0≤k∧k<16:=fun h=>by have:=cC.1 (oH h);omega
 have dj:(getM g' A' k.toNat).size≤1000000:=zp dF
 refine⟨⟨?_,?_⟩,⟨tv4,aa⟩,fun x1 w2=>⟨fun w3=>?_,fun w4=>⟨⟨⟨tv9,tv8,tv2⟩,?_,?_,?_,?_⟩,fun x5 w6=>⟨⟨tv2,?_⟩,fun x7 w8=>?_⟩⟩⟩⟩
 all_goals first|refine aw ?_|refine ax ?_|exact a8|(dsimp only [PX,B3,ng,lf];omega)|exact a7|exact dF|exact cG.rd|exact dj|exact (cm w4).1|exact (cm w4).2|skip
 ·refine⟨[],[],_,_,_,rfl,az,(),aa,?_,?_,rfl⟩
  ·(show _=pL g' A' k);unfold pL;first|(rw [aet (s:=g') (t:=A') w3];rfl)|rfl
  ·rfl
 ·refine⟨[],[],_,_,_,rfl,az,(),aa,?_,?_,rfl⟩
  ·(show _=pL g' A' k);unfold pL;first|(rw [aes (s:=g') (t:=A') w4];rfl)|rfl
  ·rfl
def iY (mh:Int):List ByteArray→Nat→Int→Int
 |[],_,n=>n
 |x::l,k,n=>iY mh l (k+1) (bif decide ((k:Int)≠mh)&&decide (x≠⟨#[]⟩) then (k:Int)+1 else n)
theorem afU {mh:Int}{x:ByteArray}{l:List ByteArray}{k:Nat}{n:Int}(h:decide ((k:Int)≠mh)=true) (h2:decide (x≠⟨#[]⟩)=true):iY mh (x::l) k n=iY mh l (k+1) ((k:Int)+1):=by rw [iY,h,h2];rfl
theorem adN {mh:Int}{x:ByteArray}{l:List ByteArray}{k:Nat}{n:Int}(h:decide ((k:Int)≠mh)=true) (h2:decide (x≠⟨#[]⟩)=false):iY mh (x::l) k n=iY mh l (k+1) n:=by rw [iY,h,h2];rfl
theorem adM {mh:Int}{x:ByteArray}{l:List ByteArray}{k:Nat}{n:Int}(h:decide ((k:Int)≠mh)=false):iY mh (x::l) k n=iY mh l (k+1) n:=by rw [iY,h];rfl
def mx (s:ay) (t:bf) (mh:Int):Int:=iY mh (bo s t) 0 0
def q7 (S:ay) (t:bf) (mh:Int):Prop:=S.rd∧bf.ok t
def u5 (S:ay) (t:bf) (mh:Int):AV:=.s (.int (mx S t mh))
def V7 (S:ay) (t:bf) (mh:Int):List AV:=[]
def sL:cn where
 A:=[.a xv,.a [.int,.int,.int,.int,.int,.int,.int],.s .int]
 B:=[]
 pre:=fun x b=>q7 (x.1) (x.2.1) (x.2.2)
 r:=fun x b _=>u5 (x.1) (x.2.1) (x.2.2)
 o:=fun x b _=>V7 (x.1) (x.2.1) (x.2.2)
theorem ME:Has Tryz.prog 208 sL:=by
 refine Has.fm zT zF zF (l:=[(50,dc)]) ⟨iR,aa⟩ Tryz.func208 ?_
 rintro⟨⟨(aj:List ByteArray),(ak:List Int),(an:List Int),(ao:Int),(ah:List Pt),(aq:Int),(ai:List Pt),(ar:Bool)⟩,⟨(t1:Int),(t2:Int),(t3:Int),(t4:Int),(t5:Int),(t6:Int),(t7:Int)⟩,(mh:Int)⟩ _ (hp:q7 (aj,ak,an,ao,ah,aq,ai,ar) (t1,t2,t3,t4,t5,t6,t7) mh)
 show vc _ _ _ _ (entry [.a [.vz ab aj,.vz ag ak,.vz ag an,.int ao,.vz ae ah,.int aq,.vz ae ai,.q ar],.a [.int t1,.int t2,.int t3,.int t4,.int t5,.int t6,.int t7],.int mh] []) _
 obtain⟨dF,cG⟩:=hp
 have dF:ay.rd (aj,ak,an,ao,ah,aq,ai,ar):=dF
 have cG:bf.ok (t1,t2,t3,t4,t5,t6,t7):=cG
 have h0:0≤t7:=cG.m0
 have h1:t7≤16:=cG.m1
 have hl:(bo (aj,ak,an,ao,ah,aq,ai,ar) (t1,t2,t3,t4,t5,t6,t7)).length=t7.toNat:=fq cG
 refine⟨⟨⟨tv9,tv8,aa⟩,?_,?_,?_,?_⟩,fun x1 w2=>?_⟩
 all_goals first|refine aw ?_|refine ax ?_|exact a8|(dsimp only [dc,eF];omega)|exact a7|exact dF|exact cG.rd|skip
 refine cN (l:=[(50,dc)]) (ex:=zT) (wr:=zF) (pt:=zF) ⟨iR,aa⟩ [.s 2,.s 3,.s 4,.b 1003,.b 1004,.s 8,.b 130000] (fun y:Nat×Int=>[(.s 7,.int y.2),(.s 9,.int y.1)]) (fun y=>(y.1:Int)≤t7∧iY mh ((bo (aj,ak,an,ao,ah,aq,ai,ar) (t1,t2,t3,t4,t5,t6,t7)).drop y.1) y.1 y.2=mx (aj,ak,an,ao,ah,aq,ai,ar) (t1,t2,t3,t4,t5,t6,t7) mh) (fun y=>t7.toNat-y.1) (0,0) [] ⟨h0,rfl⟩ dM ?_
 rintro⟨i,n⟩ ⟨(hi:(i:Int)≤t7),(hr:iY mh ((bo (aj,ak,an,ao,ah,aq,ai,ar) (t1,t2,t3,t4,t5,t6,t7)).drop i) i n=mx (aj,ak,an,ao,ah,aq,ai,ar) (t1,t2,t3,t4,t5,t6,t7) mh)⟩
 have bU:decide ((i:Int)<t7)=true→i<(bo (aj,ak,an,ao,ah,aq,ai,ar) (t1,t2,t3,t4,t5,t6,t7)).length:=fun h=>by have:=aJ h;omega
 refine⟨fun w1=>⟨aa,fun w2=>⟨⟨?_,?_⟩,?_,fun w3=>⟨⟨?_,?_⟩,⟨?_,?_⟩,?_⟩,fun w4=>⟨⟨?_,?_⟩,?_⟩⟩,fun w5=>⟨⟨?_,?_⟩,?_⟩⟩,fun w6=>?_⟩
 all_goals first|refine aw ?_|refine ax ?_|exact a8|(dsimp only [dc,eF];omega)|exact a7|exact bU w1|skip
 ·have mo:=bU w1
  have aeb:=aJ (p:=(i:Int)<t7) w1
  refine⟨(i+1,(i:Int)+1),[],?_,?_,?_⟩
  rotate_right
  ·exact bV
  ·exact⟨by show ((i+1:Nat):Int)≤t7;omega,by rw [←hr,bW (ek:=ab) mo,afU w2 (show decide (nth ab (bo (aj,ak,an,ao,ah,aq,ai,ar) (t1,t2,t3,t4,t5,t6,t7)) i≠⟨#[]⟩)=true from w3)]⟩
  ·show t7.toNat-(i+1)<t7.toNat-i;omega
 ·have mo:=bU w1
  have aeb:=aJ (p:=(i:Int)<t7) w1
  refine⟨(i+1,n),[],?_,?_,?_⟩
  rotate_right
  ·exact bV
  ·exact⟨by show ((i+1:Nat):Int)≤t7;omega,by rw [←hr,bW (ek:=ab) mo,adN w2 (show decide (nth ab (bo (aj,ak,an,ao,ah,aq,ai,ar) (t1,t2,t3,t4,t5,t6,t7)) i≠⟨#[]⟩)=false from w4)]⟩
  ·show t7.toNat-(i+1)<t7.toNat-i;omega
 ·have mo:=bU w1
  have aeb:=aJ (p:=(i:Int)<t7) w1
  refine⟨(i+1,n),[],?_,?_,?_⟩
  rotate_right
  ·exact bV
  ·exact⟨by show ((i+1:Nat):Int)≤t7;omega,by rw [←hr,bW (ek:=ab) mo,adM w5]⟩
  ·show t7.toNat-(i+1)<t7.toNat-i;omega
 ·have e:mx (aj,ak,an,ao,ah,aq,ai,ar) (t1,t2,t3,t4,t5,t6,t7) mh=n:=by rw [←hr,ZB3 (by have:=aA (p:=(i:Int)<t7) w6;omega)];rfl
  refine⟨[],[],_,_,_,rfl,az,(),aa,?_,?_,rfl⟩
  ·(show _=u5 (aj,ak,an,ao,ah,aq,ai,ar) (t1,t2,t3,t4,t5,t6,t7) mh);unfold u5;first|(rw [e];rfl)|rfl
  ·rfl
def frF:Nat→List ByteArray→Nat→Int
 |0,_,_=> -1
 |f+1,l,k=>bif decide ((k:Int)≥(l.length:Int))||decide (nth ab l k=⟨#[]⟩) then (k:Int) else frF f l (k+1)
theorem agZ {f:Nat}{l:List ByteArray}{k:Nat}(h:decide ((k:Int)≥(l.length:Int))=true):frF (f+1) l k=(k:Int):=by rw [frF,h];rfl
theorem agY {f:Nat}{l:List ByteArray}{k:Nat}(h:decide (nth ab l k=⟨#[]⟩)=true):frF (f+1) l k=(k:Int):=by rw [frF,h,ZC4];rfl
theorem agX {f:Nat}{l:List ByteArray}{k:Nat}(h:decide ((k:Int)≥(l.length:Int))=false) (h2:decide (nth ab l k=⟨#[]⟩)=false):frF (f+1) l k=frF f l (k+1):=by rw [frF,h,h2];rfl
def xo (s:ay) (t:bf):Int:=frF 16 (bo s t) 0
def ve (S:ay) (t:bf):Prop:=S.rd∧bf.ok t
def jf (S:ay) (t:bf):AV:=.s (.int (xo S t))
def V8 (S:ay) (t:bf):List AV:=[]
def DC:cn where
 A:=[.a xv,.a [.int,.int,.int,.int,.int,.int,.int]]
 B:=[]
 pre:=fun x b=>ve (x.1) (x.2)
 r:=fun x b _=>jf (x.1) (x.2)
 o:=fun x b _=>V8 (x.1) (x.2)
theorem abJ:Has Tryz.prog 48 DC:=by
 refine Has.fm zT zF zF (l:=[(50,dc)]) ⟨iR,aa⟩ Tryz.func48 ?_
 rintro⟨⟨(aj:List ByteArray),(ak:List Int),(an:List Int),(ao:Int),(ah:List Pt),(aq:Int),(ai:List Pt),(ar:Bool)⟩,⟨(t1:Int),(t2:Int),(t3:Int),(t4:Int),(t5:Int),(t6:Int),(t7:Int)⟩⟩ _ (hp:ve (aj,ak,an,ao,ah,aq,ai,ar) (t1,t2,t3,t4,t5,t6,t7))
 show vc _ _ _ _ (entry [.a [.vz ab aj,.vz ag ak,.vz ag an,.int ao,.vz ae ah,.int aq,.vz ae ai,.q ar],.a [.int t1,.int t2,.int t3,.int t4,.int t5,.int t6,.int t7]] []) _
 let g':=(aj,ak,an,ao,ah,aq,ai,ar)
 let A':=(t1,t2,t3,t4,t5,t6,t7)
 obtain⟨dF,cG⟩:=hp
 have dF:ay.rd g':=dF
 have cG:bf.ok A':=cG
 have h0:0≤t7:=cG.m0
 have h1:t7≤16:=cG.m1
 have hl:(bo g' A').length=t7.toNat:=fq cG
 refine⟨⟨⟨tv9,tv8,aa⟩,?_,?_,?_,?_⟩,fun x1 w2=>?_⟩
 all_goals first|refine aw ?_|refine ax ?_|exact a8|(dsimp only [dc,eF];omega)|exact a7|exact dF|exact cG.rd|skip
 refine cN (l:=[(50,dc)]) (ex:=zT) (wr:=zF) (pt:=zF) ⟨iR,aa⟩ [.s 2,.s 3,.b 1002,.b 1003,.s 5,.b 100000] (fun y:Nat×Nat=>[(.s 6,.int y.1)]) (fun y=>y.1+y.2=16∧frF y.2 (bo g' A') y.1=xo g' A') (fun y=>y.2) (0,16) [] ⟨rfl,rfl⟩ dM ?_
 rintro⟨i,f⟩ ⟨(hi:i+f=16),(hr:frF f (bo g' A') i=xo g' A')⟩
 have bU:decide ((i:Int)≥((bo g' A').length:Int))=false→i<(bo g' A').length:=fun h=>by have:=aA h;omega
 refine⟨fun w1=>⟨aa,fun w2=>?_,fun w3=>⟨⟨?_,?_⟩,?_,fun w4=>?_,fun w5=>⟨⟨?_,?_⟩,?_⟩⟩⟩,fun w6=>?_⟩
 all_goals first|refine aw ?_|refine ax ?_|exact a8|(dsimp only [dc,eF];omega)|exact a7|exact bU w3|(show (i:Int)<((bo g' A').length:Int);have:=bU w3;omega)|skip
 ·obtain⟨g,rfl⟩:∃g,f=g+1:=⟨f-1,by have:=aJ (p:=(i:Int)<16) w1;omega⟩
  have e:xo g' A'=(i:Int):=by rw [←hr,agZ (show decide ((i:Int)≥((bo g' A').length:Int))=true from w2)]
  refine⟨[],[],_,_,_,rfl,az,(),aa,?_,?_,rfl⟩
  ·(show _=jf g' A');unfold jf;first|(rw [e];rfl)|rfl
  ·rfl
 ·obtain⟨g,rfl⟩:∃g,f=g+1:=⟨f-1,by have:=aJ (p:=(i:Int)<16) w1;omega⟩
  have e:xo g' A'=(i:Int):=by rw [←hr,agY (show decide (nth ab (bo g' A') i=⟨#[]⟩)=true from w4)]
  refine⟨[],[],_,_,_,rfl,az,(),aa,?_,?_,rfl⟩
  ·(show _=jf g' A');unfold jf;first|(rw [e];rfl)|rfl
  ·rfl
 ·obtain⟨g,rfl⟩:∃g,f=g+1:=⟨f-1,by have:=aJ (p:=(i:Int)<16) w1;omega⟩
  refine⟨(i+1,g),[],?_,?_,?_⟩
  rotate_right
  ·exact bV
  ·exact⟨by show i+1+g=16;omega,by rw [←hr];exact (agX (show decide ((i:Int)≥((bo g' A').length:Int))=false from w3) (show decide (nth ab (bo g' A') i=⟨#[]⟩)=false from w5)).symm⟩
  ·exact ZD9 g
 ·have hf:f=0:=by have:=aA (p:=(i:Int)<16) w6;omega
  subst hf
  have e:xo g' A'= -1:=by rw [←hr];rfl
  refine⟨[],[],_,_,_,rfl,az,(),aa,?_,?_,rfl⟩
  ·(show _=jf g' A');unfold jf;first|(rw [e];rfl)|rfl
  ·rfl
def bgB (many:Int) (x:ByteArray) (k:Nat):Bool:=decide (x=⟨#[]⟩)||(decide ((k:Int)+1<many)&&decide ((x.size:Int)≠128))
def bgF (many:Int):List ByteArray→Nat→ByteArray→ByteArray×Bool
 |[],_,out=>(out,true)
 |x::l,k,out=>bif bgB many x k then (⟨#[]⟩,false) else bgF many l (k+1) (out++x)
theorem ajT {many:Int}{x:ByteArray}{l:List ByteArray}{k:Nat}{out:ByteArray}(h:decide (x=⟨#[]⟩)=true):bgF many (x::l) k out=(⟨#[]⟩,false):=by rw [bgF,bgB,h];rfl
theorem ajS {many:Int}{x:ByteArray}{l:List ByteArray}{k:Nat}{out:ByteArray}(h:decide ((k:Int)+1<many)=true) (h2:decide ((x.size:Int)≠128)=true):bgF many (x::l) k out=(⟨#[]⟩,false):=by rw [bgF,bgB,h,h2,Bool.and_true,ZC4];rfl
theorem ajR {many:Int}{x:ByteArray}{l:List ByteArray}{k:Nat}{out:ByteArray}(h0:decide (x=⟨#[]⟩)=false) (h:decide ((k:Int)+1<many)=true) (h2:decide ((x.size:Int)≠128)=false):bgF many (x::l) k out=bgF many l (k+1) (out++x):=by rw [bgF,bgB,h0,h,h2];rfl
theorem ajQ {many:Int}{x:ByteArray}{l:List ByteArray}{k:Nat}{out:ByteArray}(h0:decide (x=⟨#[]⟩)=false) (h:decide ((k:Int)+1<many)=false):bgF many (x::l) k out=bgF many l (k+1) (out++x):=by rw [bgF,bgB,h0,h];rfl
def c7 (s:ay) (t:bf):ByteArray×Bool:=bgF t.many (bo s t) 0 ⟨#[]⟩
def B2 (S:ay) (t:bf):Prop:=S.rd∧bf.ok t
def mE (S:ay) (t:bf):AV:=.t [.s (.str (c7 S t).1),.s (.q (c7 S t).2)]
def ac1 (S:ay) (t:bf):List AV:=[]
def PW:cn where
 A:=[.a xv,.a [.int,.int,.int,.int,.int,.int,.int]]
 B:=[]
 pre:=fun x b=>B2 (x.1) (x.2)
 r:=fun x b _=>mE (x.1) (x.2)
 o:=fun x b _=>ac1 (x.1) (x.2)
theorem afX:Has Tryz.prog 226 PW:=by
 refine Has.fm zT zF zF (l:=[(50,dc)]) ⟨iR,aa⟩ Tryz.func226 ?_
 rintro⟨⟨(aj:List ByteArray),(ak:List Int),(an:List Int),(ao:Int),(ah:List Pt),(aq:Int),(ai:List Pt),(ar:Bool)⟩,⟨(t1:Int),(t2:Int),(t3:Int),(t4:Int),(t5:Int),(t6:Int),(t7:Int)⟩⟩ _ (hp:B2 (aj,ak,an,ao,ah,aq,ai,ar) (t1,t2,t3,t4,t5,t6,t7))
 show vc _ _ _ _ (entry [.a [.vz ab aj,.vz ag ak,.vz ag an,.int ao,.vz ae ah,.int aq,.vz ae ai,.q ar],.a [.int t1,.int t2,.int t3,.int t4,.int t5,.int t6,.int t7]] []) _
 obtain⟨dF,cG⟩:=hp
 have dF:ay.rd (aj,ak,an,ao,ah,aq,ai,ar):=dF
 have cG:bf.ok (t1,t2,t3,t4,t5,t6,t7):=cG
 have h0:0≤t7:=cG.m0
 have h1:t7≤16:=cG.m1
 have hl:(bo (aj,ak,an,ao,ah,aq,ai,ar) (t1,t2,t3,t4,t5,t6,t7)).length=t7.toNat:=fq cG
 refine⟨⟨⟨tv9,tv8,aa⟩,?_,?_,?_,?_⟩,fun x1 w2=>?_⟩
 all_goals first|refine aw ?_|refine ax ?_|exact a8|(dsimp only [dc,eF];omega)|exact a7|exact dF|exact cG.rd|skip
 refine cN (l:=[(50,dc)]) (ex:=zT) (wr:=zF) (pt:=zF) ⟨iR,aa⟩ [.s 2,.s 3,.b 1002,.b 1003,.s 7,.b 130000] (fun y:Nat×ByteArray=>[(.s 6,.str y.2),(.s 8,.int y.1)]) (fun y=>(y.1:Int)≤t7∧y.2.size≤1000000*y.1∧bgF t7 ((bo (aj,ak,an,ao,ah,aq,ai,ar) (t1,t2,t3,t4,t5,t6,t7)).drop y.1) y.1 y.2=c7 (aj,ak,an,ao,ah,aq,ai,ar) (t1,t2,t3,t4,t5,t6,t7)) (fun y=>t7.toNat-y.1) (0,⟨#[]⟩) [] ⟨h0,ZA7 _,rfl⟩ dM ?_
 rintro⟨i,out⟩ ⟨(hi:(i:Int)≤t7),(ho:out.size≤1000000*i),(hr:bgF t7 ((bo (aj,ak,an,ao,ah,aq,ai,ar) (t1,t2,t3,t4,t5,t6,t7)).drop i) i out=c7 (aj,ak,an,ao,ah,aq,ai,ar) (t1,t2,t3,t4,t5,t6,t7))⟩
 have bU:decide ((i:Int)<t7)=true→i<(bo (aj,ak,an,ao,ah,aq,ai,ar) (t1,t2,t3,t4,t5,t6,t7)).length:=fun h=>by have:=aJ h;omega
 have dj:=WS (wv (s:=(aj,ak,an,ao,ah,aq,ai,ar)) (t:=(t1,t2,t3,t4,t5,t6,t7)) dF) i
 refine⟨fun w1=>⟨⟨?_,?_⟩,?_,aa,fun w2=>?_,fun w3=>⟨⟨?_,?_⟩,aa,fun w4=>⟨fun w5=>?_,fun w6=>⟨?_,⟨?_,?_⟩,?_⟩⟩,fun w7=>⟨?_,⟨?_,?_⟩,?_⟩⟩⟩,fun w8=>?_⟩
 all_goals first|refine aw ?_|refine ax ?_|exact a8|(dsimp only [dc,eF];omega)|exact a7|exact bU w1|(unfold imax;dsimp only;omega)|skip
 ·have mo:=bU w1
  have e:c7 (aj,ak,an,ao,ah,aq,ai,ar) (t1,t2,t3,t4,t5,t6,t7)=(⟨#[]⟩,false):=by rw [←hr,bW (ek:=ab) mo,ajT (show decide ((nth ab (bo (aj,ak,an,ao,ah,aq,ai,ar) (t1,t2,t3,t4,t5,t6,t7)) i)=⟨#[]⟩)=true from w2)]
  refine⟨[],[],_,_,_,rfl,az,(),aa,?_,?_,rfl⟩
  ·(show _=mE (aj,ak,an,ao,ah,aq,ai,ar) (t1,t2,t3,t4,t5,t6,t7));unfold mE;first|(rw [e];rfl)|rfl
  ·rfl
 ·have mo:=bU w1
  have e:c7 (aj,ak,an,ao,ah,aq,ai,ar) (t1,t2,t3,t4,t5,t6,t7)=(⟨#[]⟩,false):=by rw [←hr,bW (ek:=ab) mo,ajS w4 (show decide (((nth ab (bo (aj,ak,an,ao,ah,aq,ai,ar) (t1,t2,t3,t4,t5,t6,t7)) i).size:Int)≠128)=true from w5)]
  refine⟨[],[],_,_,_,rfl,az,(),aa,?_,?_,rfl⟩
  ·(show _=mE (aj,ak,an,ao,ah,aq,ai,ar) (t1,t2,t3,t4,t5,t6,t7));unfold mE;first|(rw [e];rfl)|rfl
  ·rfl
 ·have mo:=bU w1
  have aeb:=aJ (p:=(i:Int)<t7) w1
  refine⟨(i+1,out++(nth ab (bo (aj,ak,an,ao,ah,aq,ai,ar) (t1,t2,t3,t4,t5,t6,t7)) i)),[],?_,?_,?_⟩
  rotate_right
  ·exact bV
  ·refine⟨by show ((i+1:Nat):Int)≤t7;omega,by show (out++(nth ab (bo (aj,ak,an,ao,ah,aq,ai,ar) (t1,t2,t3,t4,t5,t6,t7)) i)).size≤1000000*(i+1);rw [ZB2];omega,?_⟩
   rw [←hr,bW (ek:=ab) mo,ajR (show decide ((nth ab (bo (aj,ak,an,ao,ah,aq,ai,ar) (t1,t2,t3,t4,t5,t6,t7)) i)=⟨#[]⟩)=false from w3) w4 (show decide (((nth ab (bo (aj,ak,an,ao,ah,aq,ai,ar) (t1,t2,t3,t4,t5,t6,t7)) i).size:Int)≠128)=false from w6)]
  ·show t7.toNat-(i+1)<t7.toNat-i;omega
 ·have mo:=bU w1
  have aeb:=aJ (p:=(i:Int)<t7) w1
  refine⟨(i+1,out++(nth ab (bo (aj,ak,an,ao,ah,aq,ai,ar) (t1,t2,t3,t4,t5,t6,t7)) i)),[],?_,?_,?_⟩
  rotate_right
  ·exact bV
  ·refine⟨by show ((i+1:Nat):Int)≤t7;omega,by show (out++(nth ab (bo (aj,ak,an,ao,ah,aq,ai,ar) (t1,t2,t3,t4,t5,t6,t7)) i)).size≤1000000*(i+1);rw [ZB2];omega,?_⟩
   rw [←hr,bW (ek:=ab) mo,ajQ (show decide ((nth ab (bo (aj,ak,an,ao,ah,aq,ai,ar) (t1,t2,t3,t4,t5,t6,t7)) i)=⟨#[]⟩)=false from w3) w7]
  ·show t7.toNat-(i+1)<t7.toNat-i;omega
 ·have e:c7 (aj,ak,an,ao,ah,aq,ai,ar) (t1,t2,t3,t4,t5,t6,t7)=(out,true):=by rw [←hr,ZB3 (by have:=aA (p:=(i:Int)<t7) w8;omega)];rfl
  refine⟨[],[],_,_,_,rfl,az,(),aa,?_,?_,rfl⟩
  ·(show _=mE (aj,ak,an,ao,ah,aq,ai,ar) (t1,t2,t3,t4,t5,t6,t7));unfold mE;first|(rw [e];rfl)|rfl
  ·rfl
end GL
end Go.Proofs.YtnkbdhldiinfdaaGreatDoor
