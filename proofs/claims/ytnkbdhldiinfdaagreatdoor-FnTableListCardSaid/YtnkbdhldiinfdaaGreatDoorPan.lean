/- Part 14 of the proof of a drawn law. -/
import Derived.Test.YtnkbdhldiinfdaaGreatDoorPah
import Derived.Test.YtnkbdhldiinfdaaGreatDoorPam
set_option maxHeartbeats 20000000
set_option maxRecDepth 100000
set_option linter.all false
namespace Go.Proofs.YtnkbdhldiinfdaaGreatDoor
namespace GL
theorem nD {b0 b1 b2 b3 b4:Nat}{s u:ay}(h:um s u) (hs:s.wf):kW b0 b1 b2 b3 b4 s=kW b0 b1 b2 b3 b4 u:=by
 unfold kW
 rw [h.wf.n.1,h.wf.n.2.1,h.wf.n.2.2,hs.n.1,hs.n.2.1,hs.n.2.2,h.gone,h.dead,h.cg,h.bZ,h.same]
def mJ (S:ay) (t:bf) (many:Int):Prop:=S.wf∧t.rd∧0≤many∧many≤16∧S.gone.length≤1046000∧S.dead.length≤1046000
def aaX (S:ay) (t:bf) (many:Int) (z:Bool):Prop:=z=(cF S t many).2.2
def mG (S:ay) (t:bf) (many:Int) (z:Bool):AV:=match z with |true=>.t [.a (kW 0 1 2 5 6 (cF S t many).1),trA (cF S t many).2.1,.s (.q true)] |false=>.t [.a (kW 0 1 2 3 4 (cF S t many).1),trA (cF S t many).2.1,.s (.q false)]
def qj (S:ay) (t:bf) (many:Int) (z:Bool):List AV:=match z with |true=>[.rs ab (cF S t many).1.rows,.rs ag (cF S t many).1.refs,.rs ag (cF S t many).1.last,.zz,.zz,.rs ae (cF S t many).1.gone,.rs ae (cF S t many).1.dead] |false=>GF (cF S t many).1++[.zz,.zz]
def ma:cn where
 A:=[.a (stB 0 1 2 3 4),.a [.int,.int,.int,.int,.int,.int,.int],.s .int]
 B:=[.r ab,.r ag,.r ag,.r ae,.r ae]
 pre:=λx b=>stW x.1 b∧mJ (gP x.1 b) (x.2.1) (x.2.2)
 α:=λ_ _=>Bool
 φ:=λx b z=>aaX (gP x.1 b) (x.2.1) (x.2.2) z
 r:=λx b z=>mG (gP x.1 b) (x.2.1) (x.2.2) z
 o:=λx b z=>qj (gP x.1 b) (x.2.1) (x.2.2) z
 nf:=2
 mv:=true
theorem zH:Has Tryz.prog 210 ma:=by
 refine Has.ofP 4 zT zF zF (l:=[(70,ey),(94,j1),(95,cJ)]) ⟨lX,wO,gx,aa⟩ Tryz.func210 ?_
 rintro⟨⟨(AU:Nat),(AT:Nat),(AS:Nat),(ao:Int),(AR:Nat),(aq:Int),(AQ:Nat),(ar:Bool)⟩,⟨(t1:Int),(t2:Int),(t3:Int),(t4:Int),(t5:Int),(t6:Int),(t7:Int)⟩,(many:Int)⟩ ⟨(aj:List ByteArray),(ak:List Int),(an:List Int),(ah:List Pt),(ai:List Pt)⟩ ⟨⟨(gC:AU=List.length aj),(gB:AT=List.length ak),(gA:AS=List.length an),(gz:AR=List.length ah),(gy:AQ=List.length ai)⟩,(hp:mJ (aj,ak,an,ao,ah,aq,ai,ar) (t1,t2,t3,t4,t5,t6,t7) many)⟩
 subst gC gB gA gz gy
 show vcP _ _ _ _ 4 _ (entry [.a [.xs 0 1 0 aj.length,.xs 1 1 0 ak.length,.xs 2 1 0 an.length,.int ao,.xs 3 5 0 ah.length,.int aq,.xs 4 5 0 ai.length,.q ar],.a [.int t1,.int t2,.int t3,.int t4,.int t5,.int t6,.int t7],.int many] [.rs ab aj,.rs ag ak,.rs ag an,.rs ae ah,.rs ae ai])
 let g':=(aj,ak,an,ao,ah,aq,ai,ar)
 let A':=(t1,t2,t3,t4,t5,t6,t7)
 obtain⟨oN,sS,xB,EW,(hg:ah.length≤1046000),(hd:ai.length≤1046000)⟩:=hp
 have oN:ay.wf g':=oN
 have sS:bf.rd A':=sS
 have hwl:=gi (s:=g') sS
 have hwo:=lA (s:=g') sS
 have hly:=FF (t:=A') (l:=aB g' A') (many:=many) oN
 refine zb (l:=[(70,ey),(94,j1),(95,cJ)]) (ex:=zT) (wr:=zF) (pt:=zF) ⟨lX,wO,gx,aa⟩ (λy:Unit=>[(.s 3,.s (.bp 1003 0)),(.s 4,.s (.bp 1004 0)),(.s 6,.s (.bp 1006 0)),(.s 7,.s (.bp 1007 0)),(.s 12,.s (.q false)),(.b 1003,.a (kW 0 1 2 3 4 g')),(.b 0,.rs ab (bQ g' A' (aB g' A') many).1.rows),(.b 1,.rs ag (bQ g' A' (aB g' A') many).1.refs),(.b 2,.rs ag (bQ g' A' (aB g' A') many).1.last),(.b 3,.rs ae (bQ g' A' (aB g' A') many).1.gone),(.b 4,.rs ae (bQ g' A' (aB g' A') many).1.dead),(.b 1004,.a [.int t1,.int t2,.int t3,.int t4,.int t5,.int t6,.int t7]),(.b 1006,.a (uF pB.zero)),(.b 1007,.a (uF sV.zero))]) (λy=>decide (many=bf.many A')=false∧(bQ g' A' (aB g' A') many).2.2=false) (xc 4 (J9 Tryz.f210)) ?_ (λtail=>?_)
 ·rintro⟨⟩ ⟨(fA:decide (many=bf.many A')=false),(hz:(bQ g' A' (aB g' A') many).2.2=false)⟩
  have xn:=CL oN hz
  have e:(cF g' A' many)=((bQ g' A' (aB g' A') many).1,A',false):=aeZ fA (by rw [hz];rfl)
  refine⟨λw1=>⟨[.s 3,.b 1003],Sq34,ζ,[.s 4,.b 1004],Sq35,ζ,[.s 6,.s 34,.b 1006],[.b 1006],ζ,[.s 7,.s 35,.b 1007],[.b 1007],ζ,[],Sq8,ζ,?_⟩,λw2=>?_⟩
  all_goals first|refine aw ?_|refine ax ?_|exact a8|(dsimp only [ey,fU,j1,kY,cJ,dH,gP];omega)|exact a7|skip
  ·have es:kW 0 1 2 3 4 g'=kW 0 1 2 3 4 (bQ g' A' (aB g' A') many).1:=nD xn oN
   refine⟨[],[],_,_,_,ζ,az,false,2,(by show false=(cF g' A' many).2.2;rw [e]),?_,?_,ζ⟩
   ·(show _=mG g' A' many false);unfold mG;first|(rw [e];rfl)|(rw [e];exact congrArg (λx=>AV.t [A0.a x,trA A',A0.s (SV.q false)]) es)|rfl
   ·(show _=qj g' A' many false);unfold qj;first|(rw [e];rfl)|(rw [e];exact congrArg (λx=>AV.t [A0.a x,trA A',A0.s (SV.q false)]) es)|rfl
  ·exact absurd (show true=false from w2) Bool.noConfusion
 have aiB:=tail
 clear tail
 refine zb (l:=[(70,ey),(94,j1),(95,cJ)]) (ex:=zT) (wr:=zF) (pt:=zF) ⟨lX,wO,gx,aa⟩ (λy:Unit=>[(.s 2,.int many),(.s 6,.s (.bp 1006 0)),(.s 7,.s (.bp 1007 0)),(.s 9,.s (.xs 230000 5 0 (aB g' A').length)),(.s 10,.s (.bp 1010 0)),(.s 11,.s (.bp 1011 0)),(.s 12,.s (.q true)),(.b 1010,.a (kW 0 1 2 1000290000 1000290001 (bQ g' A' (aB g' A') many).1)),(.b 0,.rs ab (bQ g' A' (aB g' A') many).1.rows),(.b 1,.rs ag (bQ g' A' (aB g' A') many).1.refs),(.b 2,.rs ag (bQ g' A' (aB g' A') many).1.last),(.b 1000290000,.rs ae (bQ g' A' (aB g' A') many).1.gone),(.b 1000290001,.rs ae (bQ g' A' (aB g' A') many).1.dead),(.b 1011,.a [.int (bQ g' A' (aB g' A') many).2.1.1,.int (bQ g' A' (aB g' A') many).2.1.2.1,.int (bQ g' A' (aB g' A') many).2.1.2.2.1,.int (bQ g' A' (aB g' A') many).2.1.2.2.2.1,.int (bQ g' A' (aB g' A') many).2.1.2.2.2.2.1,.int (bQ g' A' (aB g' A') many).2.1.2.2.2.2.2.1,.int (bQ g' A' (aB g' A') many).2.1.2.2.2.2.2.2]),(.b 1006,.a (uF pB.zero)),(.b 1007,.a (uF sV.zero)),(.b 230000,.rs ae (aB g' A'))]) (λy=>decide (many=bf.many A')=false∧(bQ g' A' (aB g' A') many).2.2=true) (xc 4 (J9 Tryz.f210)) ?_ (λtail=>?_)
 ·rintro⟨⟩ ⟨(fA:decide (many=bf.many A')=false),(hz:(bQ g' A' (aB g' A') many).2.2=true)⟩
  have e:(cF g' A' many)=(dx ((aB g' A').drop many.toNat) (bQ g' A' (aB g' A') many).1,(bQ g' A' (aB g' A') many).2.1,true):=aeY fA (by rw [hz];rfl)
  refine⟨λw1=>⟨Sq3,[],ζ,?_⟩,λw2=>?_⟩
  all_goals first|refine aw ?_|refine ax ?_|exact a8|(dsimp only [ey,fU,j1,kY,cJ,dH,gP];omega)|exact a7|skip
  ·exact absurd (show false=true from w1) Bool.noConfusion
  ·refine cN (l:=[(70,ey),(94,j1),(95,cJ)]) (ex:=zT) (wr:=zF) (pt:=zF) ⟨lX,wO,gx,trivial⟩ [.s 6,.s 7,.s 9,.s 10,.s 11,.b 1011,.b 1006,.b 1007,.b 230000] (λy:Int×ay=>[(.s 13,.int y.1),(.b 1010,.a (kW 0 1 2 1000000001 1000000002 y.2)),(.b 0,.rs ab y.2.rows),(.b 1,.rs ag y.2.refs),(.b 2,.rs ag y.2.last),(.b 1000000001,.rs ae y.2.gone),(.b 1000000002,.rs ae y.2.dead)]) (λy=>y.2.wf∧(0≤y.1∧y.1≤16)∧(y.2.gone.length≤1046005+y.1.toNat∧y.2.dead.length≤1046005+y.1.toNat)∧dx ((aB g' A').drop y.1.toNat) y.2=dx ((aB g' A').drop many.toNat) (bQ g' A' (aB g' A') many).1) (λy=>16-y.1.toNat) (many,(bQ g' A' (aB g' A') many).1) [(1000000001,1000290000),(1000000002,1000290001)] ⟨hly.1,⟨xB,EW⟩,⟨ZB0 hly.2.1 (by have:ah.length≤1046000:=hg;show ah.length+5≤1046005+many.toNat;omega),ZB0 hly.2.2.1 (by have:ai.length≤1046000:=hd;show ai.length+5≤1046005+many.toNat;omega)⟩,rfl⟩ dM ?_
   rintro⟨i,u⟩ ⟨(hu:u.wf),⟨(hi0:0≤i),(hi:i≤16)⟩,⟨(hug:u.gone.length≤1046005+i.toNat),(hud:u.dead.length≤1046005+i.toNat)⟩,(ke:dx ((aB g' A').drop i.toNat) u=dx ((aB g' A').drop many.toNat) (bQ g' A' (aB g' A') many).1)⟩
   have hia:=nT (oC hwo i.toNat)
   have cm:decide (i<((aB g' A').length:Int))=true→i.toNat<(aB g' A').length:=λh=>by have:=aJ h;omega
   refine⟨λw1=>⟨[.s 10,.b 1010],Sq43,ζ,Sq9,Sq44,ζ,Sq13,Sq45,ζ,[.s 44,.s 45],Sq46,ζ,⟨?_,?_⟩,[.s 46,.b 230000],Sq47,ζ,?_,[.s 43,.s 47,.b 0,.b 1,.b 2,.b 1000000001,.b 1000000002,.b 1000490001,.b 1000490000],[.s 48,.b 0,.b 1,.b 2,.b 1000000001,.b 1000000002,.b 1000490000,.b 1000490001],ζ,⟨⟨tv9,tv6,aa⟩,⟨?_,?_,?_,?_,?_⟩,⟨?_,?_,?_⟩,?_,?_,?_,?_⟩,?_,λx2 w3=>⟨[.s 10,.s 48,.b 1010],[.b 1010],ζ,⟨?_,?_⟩,?_⟩⟩,λw4=>⟨[.s 10,.b 1010],Sq49,ζ,[.s 11,.b 1011],Sq50,ζ,[.s 6,.s 49,.b 1006],[.b 1006],ζ,[.s 7,.s 50,.b 1007],[.b 1007],ζ,[],Sq8,ζ,?_⟩⟩
   all_goals first|refine aw ?_|refine ax ?_|exact a8|(dsimp only [ey,fU,j1,kY,cJ,dH,gP];omega)|exact a7|exact cm w1|exact aJ w1|exact hu.n.1|exact hu.n.2.1|exact hu.n.2.2|exact hia.1|exact hia.2|exact ZB0 hug (by omega)|exact ZB0 hud (by omega)|skip
   ·have hil:=cm w1
    have mo:=aJ (p:=i<((aB g' A').length:Int)) w1
    have I3:=pg u (nth ae (aB g' A') i.toNat)
    have hnx:(i+1).toNat=i.toNat+1:=by omega
    refine⟨(i+1,cM u (nth ae (aB g' A') i.toNat)),[(1000000001,1000490000),(1000000002,1000490001)],?_,?_,?_⟩
    rotate_right
    ·exact bV
    ·refine⟨qq hu,⟨by show 0≤i+1;omega,by show i+1≤16;omega⟩,⟨by show (cM u (nth ae (aB g' A') i.toNat)).gone.length≤1046005+(i+1).toNat;omega,by show (cM u (nth ae (aB g' A') i.toNat)).dead.length≤1046005+(i+1).toNat;omega⟩,?_⟩
     show dx ((aB g' A').drop (i+1).toNat) _=_
     rw [←ke,bW (ek:=ae) hil,hnx];rfl
    ·show 16-(i+1).toNat<16-i.toNat;omega
   ·have e2:dx ((aB g' A').drop many.toNat) (bQ g' A' (aB g' A') many).1=u:=by
     rw [←ke,ZB3 (by have:=aA (p:=i<((aB g' A').length:Int)) w4;omega)];rfl
    have e3:(cF g' A' many)=(u,(bQ g' A' (aB g' A') many).2.1,true):=by rw [e,e2]
    refine⟨[1000000001,1000000002],[],_,_,_,ζ,az,true,0,(by show true=(cF g' A' many).2.2;rw [e3]),?_,?_,ζ⟩
    ·(show _=mG g' A' many true);unfold mG;first|(rw [e3];rfl)|rfl
    ·(show _=qj g' A' many true);unfold qj;first|(rw [e3];rfl)|rfl
 ·refine⟨λw1=>⟨[.s 3,.b 1003],Sq18,ζ,[.s 4,.b 1004],Sq19,ζ,[.s 6,.s 18,.b 1006],[.b 1006],ζ,[.s 7,.s 19,.b 1007],[.b 1007],ζ,[],Sq8,ζ,?_⟩,λw2=>⟨⟨⟨⟨⟨?_,?_⟩,⟨?_,?_⟩,⟨?_,?_⟩,aa,⟨?_,?_⟩,aa,⟨?_,?_⟩,tv2⟩,tv8,aa⟩,?_,?_⟩,λx3 w4=>⟨⟨⟨tv9,tv8,⟨?_,?_⟩,tv2⟩,⟨?_,?_,?_,?_,?_⟩,?_,?_,?_,?_,?_,?_,?_⟩,λ|false=>λw5=>?_ |true=>λw6=>?_⟩⟩⟩
  all_goals first|refine aw ?_|refine ax ?_|exact a8|(dsimp only [ey,fU,j1,kY,cJ,dH,gP];omega)|exact a7|exact oN|exact oN.rd|exact sS|exact hwl|exact ZB0 hg (by decide)|exact ZB0 hd (by decide)|skip
  ·have e:(cF g' A' many)=(g',A',true):=ae0 w1
   refine⟨[3,4],[],_,_,_,ζ,az,true,0,(by show true=(cF g' A' many).2.2;rw [e]),?_,?_,ζ⟩
   ·(show _=mG g' A' many true);unfold mG;first|(rw [e];rfl)|rfl
   ·(show _=qj g' A' many true);unfold qj;first|(rw [e];rfl)|rfl
  ·have hz:(bQ g' A' (aB g' A') many).2.2=false:=(show false=(bQ g' A' (aB g' A') many).2.2 from w5).symm
   refine joinTail aiB () [] (⟨w2,hz⟩) ?_
   repeat' (first|exact trivial|rfl|exact rfl|exact fP ZA0.symm|apply And.intro)
  ·have hz:(bQ g' A' (aB g' A') many).2.2=true:=(show true=(bQ g' A' (aB g' A') many).2.2 from w6).symm
   refine joinTail tail ((())) [] ((⟨w2,hz⟩)) ?_
   repeat' (first|exact trivial|rfl|exact rfl|exact fP ZA0.symm|apply And.intro)
end GL
namespace GL
theorem fq {s:ay}{t:bf}(h:t.ok):(bo s t).length=t.many.toNat:=by
 unfold bo sW
 rw [ZG5,ZB9,gi h.rd]
 have:=h.m0;have:=h.m1;omega
theorem xO {s:ay}{t:bf}(h:t.ok) {k:Nat}(hk:k<t.many.toNat):nth ab (bo s t) k=getM s t k:=by
 have h1:=h.m1
 have hl:=gi (s:=s) h.rd
 unfold bo sW getM nth
 rw [List.getElem?_map,List.getElem?_take_of_lt hk,ZB1 (by omega)]
 rfl
theorem wv {s:ay}{t:bf}(h:s.rd):∀x∈bo s t,x.size≤1000000:=by
 intro x hx
 unfold bo sW at hx
 obtain⟨p,_,rfl⟩:=List.mem_map.1 hx
 exact zp h
theorem WS {l:List ByteArray}(h:∀x∈l,x.size≤1000000) (k:Nat):(nth ab l k).size≤1000000:=by
 by_cases hk:k<l.length
 ·exact h _ (bR (ek:=ab) hk)
 ·unfold nth;rw [ZD8 (by omega)];exact ZA7 _
def cK (s:ay) (t:bf) (k:Int):fu×Bool:=bif !(ik k 0 (t.many-1)) then (nz,false) else bz (getM s t k.toNat)
theorem aet {s:ay}{t:bf}{k:Int}(h:(!(ik k 0 (t.many-1)))=true):cK s t k=(nz,false):=by unfold cK;rw [h];rfl
theorem aes {s:ay}{t:bf}{k:Int}(h:(!(ik k 0 (t.many-1)))=false):cK s t k=bz (getM s t k.toNat):=by unfold cK;rw [h];rfl
def kJ (S:ay) (t:bf) (k:Int):Prop:=S.rd∧bf.ok t
def pL (S:ay) (t:bf) (k:Int):AV:=.t [ndA (cK S t k).1,.s (.q (cK S t k).2)]
def abi (S:ay) (t:bf) (k:Int):List AV:=[]
def jE:cn where
 A:=[.a xv,.a [.int,.int,.int,.int,.int,.int,.int],.s .int]
 B:=[]
 pre:=λx b=>kJ (x.1) (x.2.1) (x.2.2)
 r:=λx b _=>pL (x.1) (x.2.1) (x.2.2)
 o:=λx b _=>abi (x.1) (x.2.1) (x.2.2)
theorem vy:Has Tryz.prog 51 jE:=by
 refine Has.fm zT zF zF (l:=[(35,hZ),(36,PX),(82,ng)]) ⟨iA,afY,CT,aa⟩ Tryz.func51 ?_
 rintro⟨⟨(aj:List ByteArray),(ak:List Int),(an:List Int),(ao:Int),(ah:List Pt),(aq:Int),(ai:List Pt),(ar:Bool)⟩,⟨(t1:Int),(t2:Int),(t3:Int),(t4:Int),(t5:Int),(t6:Int),(t7:Int)⟩,(k:Int)⟩ _ (hp:kJ (aj,ak,an,ao,ah,aq,ai,ar) (t1,t2,t3,t4,t5,t6,t7) k)
 show vc _ _ _ _ (entry [.a [.vz ab aj,.vz ag ak,.vz ag an,.int ao,.vz ae ah,.int aq,.vz ae ai,.q ar],.a [.int t1,.int t2,.int t3,.int t4,.int t5,.int t6,.int t7],.int k] []) _
 let g':=(aj,ak,an,ao,ah,aq,ai,ar)
 let A':=(t1,t2,t3,t4,t5,t6,t7)
 obtain⟨dF,cG⟩:=hp
 have dF:ay.rd g':=dF
 have cG:bf.ok A':=cG
 have h0:0≤t7:=cG.m0
 have h1:t7≤16:=cG.m1
 have cm:(!(ik k 0 (t7-1)))=false→0≤k∧k<16:=λh=>by have:=cC.1 (oH h);omega
 have dj:(getM g' A' k.toNat).size≤1000000:=zp dF
 refine⟨⟨?_,?_⟩,⟨tv4,aa⟩,λx1 w2=>⟨λw3=>?_,λw4=>⟨⟨⟨tv9,tv8,tv2⟩,?_,?_,?_,?_⟩,λx5 w6=>⟨⟨tv2,?_⟩,λx7 w8=>?_⟩⟩⟩⟩
 all_goals first|refine aw ?_|refine ax ?_|exact a8|(dsimp only [PX,B3,ng,lf];omega)|exact a7|exact dF|exact cG.rd|exact dj|exact (cm w4).1|exact (cm w4).2|skip
 ·refine⟨[],[],_,_,_,ζ,az,(),aa,?_,?_,ζ⟩
  ·(show _=pL g' A' k);unfold pL;first|(rw [aet (s:=g') (t:=A') w3];rfl)|rfl
  ·rfl
 ·refine⟨[],[],_,_,_,ζ,az,(),aa,?_,?_,ζ⟩
  ·(show _=pL g' A' k);unfold pL;first|(rw [aes (s:=g') (t:=A') w4];rfl)|rfl
  ·rfl
def iY (mh:Int):List ByteArray→Nat→Int→Int
 |[],_,n=>n
 |x::l,k,n=>iY mh l (k+1) (bif decide ((k:Int)≠mh)&&decide (x≠⟨#[]⟩) then (k:Int)+1 else n)
theorem afU {mh:Int}{x:ByteArray}{l:List ByteArray}{k:Nat}{n:Int}(h:decide ((k:Int)≠mh)=true) (h2:decide (x≠⟨#[]⟩)=true):iY mh (x::l) k n=iY mh l (k+1) ((k:Int)+1):=by rw [iY,h,h2];rfl
theorem adN {mh:Int}{x:ByteArray}{l:List ByteArray}{k:Nat}{n:Int}(h:decide ((k:Int)≠mh)=true) (h2:decide (x≠⟨#[]⟩)=false):iY mh (x::l) k n=iY mh l (k+1) n:=by rw [iY,h,h2];rfl
theorem adM {mh:Int}{x:ByteArray}{l:List ByteArray}{k:Nat}{n:Int}(h:decide ((k:Int)≠mh)=false):iY mh (x::l) k n=iY mh l (k+1) n:=by rw [iY,h];rfl
def mx (s:ay) (t:bf) (mh:Int):Int:=iY mh (bo s t) 0 0
def q7 (S:ay) (t:bf) (mh:Int):Prop:=S.rd∧bf.ok t
def u5 (S:ay) (t:bf) (mh:Int):AV:=.s (.int (mx S t mh))
def V7 (S:ay) (t:bf) (mh:Int):List AV:=[]
def sL:cn where
 A:=[.a xv,.a [.int,.int,.int,.int,.int,.int,.int],.s .int]
 B:=[]
 pre:=λx b=>q7 (x.1) (x.2.1) (x.2.2)
 r:=λx b _=>u5 (x.1) (x.2.1) (x.2.2)
 o:=λx b _=>V7 (x.1) (x.2.1) (x.2.2)
theorem ME:Has Tryz.prog 208 sL:=by
 refine Has.fm zT zF zF (l:=[(50,dc)]) ⟨iR,aa⟩ Tryz.func208 ?_
 rintro⟨⟨(aj:List ByteArray),(ak:List Int),(an:List Int),(ao:Int),(ah:List Pt),(aq:Int),(ai:List Pt),(ar:Bool)⟩,⟨(t1:Int),(t2:Int),(t3:Int),(t4:Int),(t5:Int),(t6:Int),(t7:Int)⟩,(mh:Int)⟩ _ (hp:q7 (aj,ak,an,ao,ah,aq,ai,ar) (t1,t2,t3,t4,t5,t6,t7) mh)
 show vc _ _ _ _ (entry [.a [.vz ab aj,.vz ag ak,.vz ag an,.int ao,.vz ae ah,.int aq,.vz ae ai,.q ar],.a [.int t1,.int t2,.int t3,.int t4,.int t5,.int t6,.int t7],.int mh] []) _
 obtain⟨dF,cG⟩:=hp
 have dF:ay.rd (aj,ak,an,ao,ah,aq,ai,ar):=dF
 have cG:bf.ok (t1,t2,t3,t4,t5,t6,t7):=cG
 have h0:0≤t7:=cG.m0
 have h1:t7≤16:=cG.m1
 have hl:(bo (aj,ak,an,ao,ah,aq,ai,ar) (t1,t2,t3,t4,t5,t6,t7)).length=t7.toNat:=fq cG
 refine⟨⟨⟨tv9,tv8,aa⟩,?_,?_,?_,?_⟩,λx1 w2=>?_⟩
 all_goals first|refine aw ?_|refine ax ?_|exact a8|(dsimp only [dc,eF];omega)|exact a7|exact dF|exact cG.rd|skip
 refine cN (l:=[(50,dc)]) (ex:=zT) (wr:=zF) (pt:=zF) ⟨iR,aa⟩ [.s 2,.s 3,.s 4,.b 1003,.b 1004,.s 8,.b 130000] (λy:Nat×Int=>[(.s 7,.int y.2),(.s 9,.int y.1)]) (λy=>(y.1:Int)≤t7∧iY mh ((bo (aj,ak,an,ao,ah,aq,ai,ar) (t1,t2,t3,t4,t5,t6,t7)).drop y.1) y.1 y.2=mx (aj,ak,an,ao,ah,aq,ai,ar) (t1,t2,t3,t4,t5,t6,t7) mh) (λy=>t7.toNat-y.1) (0,0) [] ⟨h0,rfl⟩ dM ?_
 rintro⟨i,n⟩ ⟨(hi:(i:Int)≤t7),(hr:iY mh ((bo (aj,ak,an,ao,ah,aq,ai,ar) (t1,t2,t3,t4,t5,t6,t7)).drop i) i n=mx (aj,ak,an,ao,ah,aq,ai,ar) (t1,t2,t3,t4,t5,t6,t7) mh)⟩
 have bU:decide ((i:Int)<t7)=true→i<(bo (aj,ak,an,ao,ah,aq,ai,ar) (t1,t2,t3,t4,t5,t6,t7)).length:=λh=>by have:=aJ h;omega
 refine⟨λw1=>⟨aa,λw2=>⟨⟨?_,?_⟩,?_,λw3=>⟨⟨?_,?_⟩,⟨?_,?_⟩,?_⟩,λw4=>⟨⟨?_,?_⟩,?_⟩⟩,λw5=>⟨⟨?_,?_⟩,?_⟩⟩,λw6=>?_⟩
 all_goals first|refine aw ?_|refine ax ?_|exact a8|(dsimp only [dc,eF];omega)|exact a7|exact bU w1|skip
 ·have mo:=bU w1
  have aeb:=aJ (p:=(i:Int)<t7) w1
  refine⟨(i+1,(i:Int)+1),[],?_,?_,?_⟩
  rotate_right
  ·exact bV
  ·exact⟨by show ((i+1:Nat):Int)≤t7;omega,by rw [←hr,bW (ek:=ab) mo,afU w2 (show decide (nth ab (bo (aj,ak,an,ao,ah,aq,ai,ar) (t1,t2,t3,t4,t5,t6,t7)) i≠⟨#[]⟩)=true from w3)]⟩
  ·show t7.toNat-(i+1)<t7.toNat-i;omega
 ·have mo:=bU w1
  have aeb:=aJ (p:=(i:Int)<t7) w1
  refine⟨(i+1,n),[],?_,?_,?_⟩
  rotate_right
  ·exact bV
  ·exact⟨by show ((i+1:Nat):Int)≤t7;omega,by rw [←hr,bW (ek:=ab) mo,adN w2 (show decide (nth ab (bo (aj,ak,an,ao,ah,aq,ai,ar) (t1,t2,t3,t4,t5,t6,t7)) i≠⟨#[]⟩)=false from w4)]⟩
  ·show t7.toNat-(i+1)<t7.toNat-i;omega
 ·have mo:=bU w1
  have aeb:=aJ (p:=(i:Int)<t7) w1
  refine⟨(i+1,n),[],?_,?_,?_⟩
  rotate_right
  ·exact bV
  ·exact⟨by show ((i+1:Nat):Int)≤t7;omega,by rw [←hr,bW (ek:=ab) mo,adM w5]⟩
  ·show t7.toNat-(i+1)<t7.toNat-i;omega
 ·have e:mx (aj,ak,an,ao,ah,aq,ai,ar) (t1,t2,t3,t4,t5,t6,t7) mh=n:=by rw [←hr,ZB3 (by have:=aA (p:=(i:Int)<t7) w6;omega)];rfl
  refine⟨[],[],_,_,_,ζ,az,(),aa,?_,?_,ζ⟩
  ·(show _=u5 (aj,ak,an,ao,ah,aq,ai,ar) (t1,t2,t3,t4,t5,t6,t7) mh);unfold u5;first|(rw [e];rfl)|rfl
  ·rfl
def frF:Nat→List ByteArray→Nat→Int
 |0,_,_=> -1
 |f+1,l,k=>bif decide ((k:Int)≥(l.length:Int))||decide (nth ab l k=⟨#[]⟩) then (k:Int) else frF f l (k+1)
theorem agZ {f:Nat}{l:List ByteArray}{k:Nat}(h:decide ((k:Int)≥(l.length:Int))=true):frF (f+1) l k=(k:Int):=by rw [frF,h];rfl
theorem agY {f:Nat}{l:List ByteArray}{k:Nat}(h:decide (nth ab l k=⟨#[]⟩)=true):frF (f+1) l k=(k:Int):=by rw [frF,h,ZC4];rfl
theorem agX {f:Nat}{l:List ByteArray}{k:Nat}(h:decide ((k:Int)≥(l.length:Int))=false) (h2:decide (nth ab l k=⟨#[]⟩)=false):frF (f+1) l k=frF f l (k+1):=by rw [frF,h,h2];rfl
def xo (s:ay) (t:bf):Int:=frF 16 (bo s t) 0
def ve (S:ay) (t:bf):Prop:=S.rd∧bf.ok t
def jf (S:ay) (t:bf):AV:=.s (.int (xo S t))
def V8 (S:ay) (t:bf):List AV:=[]
def DC:cn where
 A:=[.a xv,.a [.int,.int,.int,.int,.int,.int,.int]]
 B:=[]
 pre:=λx b=>ve (x.1) (x.2)
 r:=λx b _=>jf (x.1) (x.2)
 o:=λx b _=>V8 (x.1) (x.2)
theorem abJ:Has Tryz.prog 48 DC:=by
 refine Has.fm zT zF zF (l:=[(50,dc)]) ⟨iR,aa⟩ Tryz.func48 ?_
 rintro⟨⟨(aj:List ByteArray),(ak:List Int),(an:List Int),(ao:Int),(ah:List Pt),(aq:Int),(ai:List Pt),(ar:Bool)⟩,⟨(t1:Int),(t2:Int),(t3:Int),(t4:Int),(t5:Int),(t6:Int),(t7:Int)⟩⟩ _ (hp:ve (aj,ak,an,ao,ah,aq,ai,ar) (t1,t2,t3,t4,t5,t6,t7))
 show vc _ _ _ _ (entry [.a [.vz ab aj,.vz ag ak,.vz ag an,.int ao,.vz ae ah,.int aq,.vz ae ai,.q ar],.a [.int t1,.int t2,.int t3,.int t4,.int t5,.int t6,.int t7]] []) _
 let g':=(aj,ak,an,ao,ah,aq,ai,ar)
 let A':=(t1,t2,t3,t4,t5,t6,t7)
 obtain⟨dF,cG⟩:=hp
 have dF:ay.rd g':=dF
 have cG:bf.ok A':=cG
 have h0:0≤t7:=cG.m0
 have h1:t7≤16:=cG.m1
 have hl:(bo g' A').length=t7.toNat:=fq cG
 refine⟨⟨⟨tv9,tv8,aa⟩,?_,?_,?_,?_⟩,λx1 w2=>?_⟩
 all_goals first|refine aw ?_|refine ax ?_|exact a8|(dsimp only [dc,eF];omega)|exact a7|exact dF|exact cG.rd|skip
 refine cN (l:=[(50,dc)]) (ex:=zT) (wr:=zF) (pt:=zF) ⟨iR,aa⟩ [.s 2,.s 3,.b 1002,.b 1003,.s 5,.b 100000] (λy:Nat×Nat=>[(.s 6,.int y.1)]) (λy=>y.1+y.2=16∧frF y.2 (bo g' A') y.1=xo g' A') (λy=>y.2) (0,16) [] ⟨rfl,rfl⟩ dM ?_
 rintro⟨i,f⟩ ⟨(hi:i+f=16),(hr:frF f (bo g' A') i=xo g' A')⟩
 have bU:decide ((i:Int)≥((bo g' A').length:Int))=false→i<(bo g' A').length:=λh=>by have:=aA h;omega
 refine⟨λw1=>⟨aa,λw2=>?_,λw3=>⟨⟨?_,?_⟩,?_,λw4=>?_,λw5=>⟨⟨?_,?_⟩,?_⟩⟩⟩,λw6=>?_⟩
 all_goals first|refine aw ?_|refine ax ?_|exact a8|(dsimp only [dc,eF];omega)|exact a7|exact bU w3|(show (i:Int)<((bo g' A').length:Int);have:=bU w3;omega)|skip
 ·obtain⟨g,rfl⟩:∃g,f=g+1:=⟨f-1,by have:=aJ (p:=(i:Int)<16) w1;omega⟩
  have e:xo g' A'=(i:Int):=by rw [←hr,agZ (show decide ((i:Int)≥((bo g' A').length:Int))=true from w2)]
  refine⟨[],[],_,_,_,ζ,az,(),aa,?_,?_,ζ⟩
  ·(show _=jf g' A');unfold jf;first|(rw [e];rfl)|rfl
  ·rfl
 ·obtain⟨g,rfl⟩:∃g,f=g+1:=⟨f-1,by have:=aJ (p:=(i:Int)<16) w1;omega⟩
  have e:xo g' A'=(i:Int):=by rw [←hr,agY (show decide (nth ab (bo g' A') i=⟨#[]⟩)=true from w4)]
  refine⟨[],[],_,_,_,ζ,az,(),aa,?_,?_,ζ⟩
  ·(show _=jf g' A');unfold jf;first|(rw [e];rfl)|rfl
  ·rfl
 ·obtain⟨g,rfl⟩:∃g,f=g+1:=⟨f-1,by have:=aJ (p:=(i:Int)<16) w1;omega⟩
  refine⟨(i+1,g),[],?_,?_,?_⟩
  rotate_right
  ·exact bV
  ·exact⟨by show i+1+g=16;omega,by rw [←hr];exact (agX (show decide ((i:Int)≥((bo g' A').length:Int))=false from w3) (show decide (nth ab (bo g' A') i=⟨#[]⟩)=false from w5)).symm⟩
  ·exact ZD9 g
 ·have hf:f=0:=by have:=aA (p:=(i:Int)<16) w6;omega
  subst hf
  have e:xo g' A'= -1:=by rw [←hr];rfl
  refine⟨[],[],_,_,_,ζ,az,(),aa,?_,?_,ζ⟩
  ·(show _=jf g' A');unfold jf;first|(rw [e];rfl)|rfl
  ·rfl
def bgB (many:Int) (x:ByteArray) (k:Nat):Bool:=decide (x=⟨#[]⟩)||(decide ((k:Int)+1<many)&&decide ((x.size:Int)≠128))
def bgF (many:Int):List ByteArray→Nat→ByteArray→ByteArray×Bool
 |[],_,out=>(out,true)
 |x::l,k,out=>bif bgB many x k then (⟨#[]⟩,false) else bgF many l (k+1) (out++x)
theorem ajT {many:Int}{x:ByteArray}{l:List ByteArray}{k:Nat}{out:ByteArray}(h:decide (x=⟨#[]⟩)=true):bgF many (x::l) k out=(⟨#[]⟩,false):=by rw [bgF,bgB,h];rfl
theorem ajS {many:Int}{x:ByteArray}{l:List ByteArray}{k:Nat}{out:ByteArray}(h:decide ((k:Int)+1<many)=true) (h2:decide ((x.size:Int)≠128)=true):bgF many (x::l) k out=(⟨#[]⟩,false):=by rw [bgF,bgB,h,h2,Bool.and_true,ZC4];rfl
theorem ajR {many:Int}{x:ByteArray}{l:List ByteArray}{k:Nat}{out:ByteArray}(h0:decide (x=⟨#[]⟩)=false) (h:decide ((k:Int)+1<many)=true) (h2:decide ((x.size:Int)≠128)=false):bgF many (x::l) k out=bgF many l (k+1) (out++x):=by rw [bgF,bgB,h0,h,h2];rfl
theorem ajQ {many:Int}{x:ByteArray}{l:List ByteArray}{k:Nat}{out:ByteArray}(h0:decide (x=⟨#[]⟩)=false) (h:decide ((k:Int)+1<many)=false):bgF many (x::l) k out=bgF many l (k+1) (out++x):=by rw [bgF,bgB,h0,h];rfl
def c7 (s:ay) (t:bf):ByteArray×Bool:=bgF t.many (bo s t) 0 ⟨#[]⟩
def B2 (S:ay) (t:bf):Prop:=S.rd∧bf.ok t
def mE (S:ay) (t:bf):AV:=.t [.s (.str (c7 S t).1),.s (.q (c7 S t).2)]
def ac1 (S:ay) (t:bf):List AV:=[]
def PW:cn where
 A:=[.a xv,.a [.int,.int,.int,.int,.int,.int,.int]]
 B:=[]
 pre:=λx b=>B2 (x.1) (x.2)
 r:=λx b _=>mE (x.1) (x.2)
 o:=λx b _=>ac1 (x.1) (x.2)
theorem afX:Has Tryz.prog 226 PW:=by
 refine Has.fm zT zF zF (l:=[(50,dc)]) ⟨iR,aa⟩ Tryz.func226 ?_
 rintro⟨⟨(aj:List ByteArray),(ak:List Int),(an:List Int),(ao:Int),(ah:List Pt),(aq:Int),(ai:List Pt),(ar:Bool)⟩,⟨(t1:Int),(t2:Int),(t3:Int),(t4:Int),(t5:Int),(t6:Int),(t7:Int)⟩⟩ _ (hp:B2 (aj,ak,an,ao,ah,aq,ai,ar) (t1,t2,t3,t4,t5,t6,t7))
 show vc _ _ _ _ (entry [.a [.vz ab aj,.vz ag ak,.vz ag an,.int ao,.vz ae ah,.int aq,.vz ae ai,.q ar],.a [.int t1,.int t2,.int t3,.int t4,.int t5,.int t6,.int t7]] []) _
 obtain⟨dF,cG⟩:=hp
 have dF:ay.rd (aj,ak,an,ao,ah,aq,ai,ar):=dF
 have cG:bf.ok (t1,t2,t3,t4,t5,t6,t7):=cG
 have h0:0≤t7:=cG.m0
 have h1:t7≤16:=cG.m1
 have hl:(bo (aj,ak,an,ao,ah,aq,ai,ar) (t1,t2,t3,t4,t5,t6,t7)).length=t7.toNat:=fq cG
 refine⟨⟨⟨tv9,tv8,aa⟩,?_,?_,?_,?_⟩,λx1 w2=>?_⟩
 all_goals first|refine aw ?_|refine ax ?_|exact a8|(dsimp only [dc,eF];omega)|exact a7|exact dF|exact cG.rd|skip
 refine cN (l:=[(50,dc)]) (ex:=zT) (wr:=zF) (pt:=zF) ⟨iR,aa⟩ [.s 2,.s 3,.b 1002,.b 1003,.s 7,.b 130000] (λy:Nat×ByteArray=>[(.s 6,.str y.2),(.s 8,.int y.1)]) (λy=>(y.1:Int)≤t7∧y.2.size≤1000000*y.1∧bgF t7 ((bo (aj,ak,an,ao,ah,aq,ai,ar) (t1,t2,t3,t4,t5,t6,t7)).drop y.1) y.1 y.2=c7 (aj,ak,an,ao,ah,aq,ai,ar) (t1,t2,t3,t4,t5,t6,t7)) (λy=>t7.toNat-y.1) (0,⟨#[]⟩) [] ⟨h0,ZA7 _,rfl⟩ dM ?_
 rintro⟨i,out⟩ ⟨(hi:(i:Int)≤t7),(ho:out.size≤1000000*i),(hr:bgF t7 ((bo (aj,ak,an,ao,ah,aq,ai,ar) (t1,t2,t3,t4,t5,t6,t7)).drop i) i out=c7 (aj,ak,an,ao,ah,aq,ai,ar) (t1,t2,t3,t4,t5,t6,t7))⟩
 have bU:decide ((i:Int)<t7)=true→i<(bo (aj,ak,an,ao,ah,aq,ai,ar) (t1,t2,t3,t4,t5,t6,t7)).length:=λh=>by have:=aJ h;omega
 have dj:=WS (wv (s:=(aj,ak,an,ao,ah,aq,ai,ar)) (t:=(t1,t2,t3,t4,t5,t6,t7)) dF) i
 refine⟨λw1=>⟨⟨?_,?_⟩,?_,aa,λw2=>?_,λw3=>⟨⟨?_,?_⟩,aa,λw4=>⟨λw5=>?_,λw6=>⟨?_,⟨?_,?_⟩,?_⟩⟩,λw7=>⟨?_,⟨?_,?_⟩,?_⟩⟩⟩,λw8=>?_⟩
 all_goals first|refine aw ?_|refine ax ?_|exact a8|(dsimp only [dc,eF];omega)|exact a7|exact bU w1|(unfold imax;dsimp only;omega)|skip
 ·have mo:=bU w1
  have e:c7 (aj,ak,an,ao,ah,aq,ai,ar) (t1,t2,t3,t4,t5,t6,t7)=(⟨#[]⟩,false):=by rw [←hr,bW (ek:=ab) mo,ajT (show decide ((nth ab (bo (aj,ak,an,ao,ah,aq,ai,ar) (t1,t2,t3,t4,t5,t6,t7)) i)=⟨#[]⟩)=true from w2)]
  refine⟨[],[],_,_,_,ζ,az,(),aa,?_,?_,ζ⟩
  ·(show _=mE (aj,ak,an,ao,ah,aq,ai,ar) (t1,t2,t3,t4,t5,t6,t7));unfold mE;first|(rw [e];rfl)|rfl
  ·rfl
 ·have mo:=bU w1
  have e:c7 (aj,ak,an,ao,ah,aq,ai,ar) (t1,t2,t3,t4,t5,t6,t7)=(⟨#[]⟩,false):=by rw [←hr,bW (ek:=ab) mo,ajS w4 (show decide (((nth ab (bo (aj,ak,an,ao,ah,aq,ai,ar) (t1,t2,t3,t4,t5,t6,t7)) i).size:Int)≠128)=true from w5)]
  refine⟨[],[],_,_,_,ζ,az,(),aa,?_,?_,ζ⟩
  ·(show _=mE (aj,ak,an,ao,ah,aq,ai,ar) (t1,t2,t3,t4,t5,t6,t7));unfold mE;first|(rw [e];rfl)|rfl
  ·rfl
 ·have mo:=bU w1
  have aeb:=aJ (p:=(i:Int)<t7) w1
  refine⟨(i+1,out++(nth ab (bo (aj,ak,an,ao,ah,aq,ai,ar) (t1,t2,t3,t4,t5,t6,t7)) i)),[],?_,?_,?_⟩
  rotate_right
  ·exact bV
  ·refine⟨by show ((i+1:Nat):Int)≤t7;omega,by show (out++(nth ab (bo (aj,ak,an,ao,ah,aq,ai,ar) (t1,t2,t3,t4,t5,t6,t7)) i)).size≤1000000*(i+1);rw [ZB2];omega,?_⟩
   rw [←hr,bW (ek:=ab) mo,ajR (show decide ((nth ab (bo (aj,ak,an,ao,ah,aq,ai,ar) (t1,t2,t3,t4,t5,t6,t7)) i)=⟨#[]⟩)=false from w3) w4 (show decide (((nth ab (bo (aj,ak,an,ao,ah,aq,ai,ar) (t1,t2,t3,t4,t5,t6,t7)) i).size:Int)≠128)=false from w6)]
  ·show t7.toNat-(i+1)<t7.toNat-i;omega
 ·have mo:=bU w1
  have aeb:=aJ (p:=(i:Int)<t7) w1
  refine⟨(i+1,out++(nth ab (bo (aj,ak,an,ao,ah,aq,ai,ar) (t1,t2,t3,t4,t5,t6,t7)) i)),[],?_,?_,?_⟩
  rotate_right
  ·exact bV
  ·refine⟨by show ((i+1:Nat):Int)≤t7;omega,by show (out++(nth ab (bo (aj,ak,an,ao,ah,aq,ai,ar) (t1,t2,t3,t4,t5,t6,t7)) i)).size≤1000000*(i+1);rw [ZB2];omega,?_⟩
   rw [←hr,bW (ek:=ab) mo,ajQ (show decide ((nth ab (bo (aj,ak,an,ao,ah,aq,ai,ar) (t1,t2,t3,t4,t5,t6,t7)) i)=⟨#[]⟩)=false from w3) w7]
  ·show t7.toNat-(i+1)<t7.toNat-i;omega
 ·have e:c7 (aj,ak,an,ao,ah,aq,ai,ar) (t1,t2,t3,t4,t5,t6,t7)=(out,true):=by rw [←hr,ZB3 (by have:=aA (p:=(i:Int)<t7) w8;omega)];rfl
  refine⟨[],[],_,_,_,ζ,az,(),aa,?_,?_,ζ⟩
  ·(show _=mE (aj,ak,an,ao,ah,aq,ai,ar) (t1,t2,t3,t4,t5,t6,t7));unfold mE;first|(rw [e];rfl)|rfl
  ·rfl
end GL
namespace GL
def egB (w:List ByteArray) (i:Nat):List ByteArray:=bm (nth ab w i) 61
def egF:Nat→List ByteArray→Nat→List eU→Option (List eU)
 |0,_,_,out=>some out
 |f+1,w,i,out=>bif decide ((i:Int)+1<(w.length:Int)) then
   (bif decide (((egB w i).length:Int)≠2) then none else egF f w (i+1) (out++[(nth ab (egB w i) 0,(aD (nth ab (egB w i) 1)).1)])) else some out
def EF (s:ByteArray) (out:List eU):List eU×Bool:=bif !(eE out)||decide (eh out≠s) then ([],false) else (out,true)
def cP (s:ByteArray):List eU×Bool:=match egF ((bm s 59).length) (bm s 59) 0 [] with
 |none=>([],false)
 |some out=>EF s out
theorem ag2 {f:Nat}{w:List ByteArray}{i:Nat}{out:List eU}(h:decide ((i:Int)+1<(w.length:Int))=true) (h2:decide (((egB w i).length:Int)≠2)=true):egF (f+1) w i out=none:=by rw [egF,h,h2];rfl
theorem ag1 {f:Nat}{w:List ByteArray}{i:Nat}{out:List eU}(h:decide ((i:Int)+1<(w.length:Int))=true) (h2:decide (((egB w i).length:Int)≠2)=false):egF (f+1) w i out=egF f w (i+1) (out++[(nth ab (egB w i) 0,(aD (nth ab (egB w i) 1)).1)]):=by rw [egF,h,h2];rfl
theorem aan {f:Nat}{w:List ByteArray}{i:Nat}{out:List eU}(h:decide ((i:Int)+1<(w.length:Int))=false):egF f w i out=some out:=by
 cases f with
 |zero=>rfl
 |succ f=>rw [egF,h];rfl
theorem xG {s:ByteArray}(h:egF ((bm s 59).length) (bm s 59) 0 []=none):cP s=([],false):=by unfold cP;rw [h]
theorem nw {s:ByteArray}{out:List eU}(h:egF ((bm s 59).length) (bm s 59) 0 []=some out):cP s=EF s out:=by unfold cP;rw [h]
theorem aal {s:ByteArray}{out:List eU}(h:(!(eE out))=true):EF s out=([],false):=by unfold EF;rw [h];rfl
theorem aak {s:ByteArray}{out:List eU}(h:decide (eh out≠s)=true):EF s out=([],false):=by unfold EF;rw [h,ZC4];rfl
theorem aam {s:ByteArray}{out:List eU}(h:(!(eE out))=false) (h2:decide (eh out≠s)=false):EF s out=(out,true):=by unfold EF;rw [h,h2];rfl
theorem aag {l:List eU}:∀{f i:Nat},z7 f l i=true→∀k,i≤k→k<i+f→kf l k=false
 |0,i,_,k,h1,h2=>by omega
 |f+1,i,h,k,h1,h2=>by
  cases hb:kf l i with
  |true=>rw [PT hb] at h;cases h
  |false=>
   rw [XU hb] at h
   by_cases e:k=i
   ·rw [e];exact hb
   ·exact aag h k (by omega) (by omega)
theorem xF {l:List eU}(h:eE l=true):l.length≤12∧∀e∈l,fC e.1=true∧1≤e.2∧e.2≤15:=by
 unfold eE at h
 simp only [ZA9,decide_eq_true_eq] at h
 refine⟨by omega,λe he=>?_⟩
 obtain⟨k,hk,rfl⟩:=List.mem_iff_getElem.1 he
 have hb:=aag h.1 k (ZA7 _) (by omega)
 unfold kf at hb
 simp only [ZE1,Bool.not_eq_false',cC] at hb
 have hn:nth aK l k=l[k]:=by
  have:=oD (ek:=aK) hk
  rw [ZB1 hk] at this
  exact (ZG8 this).symm
 rw [hn] at hb
 exact⟨hb.1,hb.2.1⟩
theorem DZ {s:ByteArray}(h:fC s=true):1≤s.size∧s.size≤4:=by
 unfold fC at h
 simp only [ZA9,cC] at h
 omega
theorem ach.akG {l:List eU}(h:eE l=true):ach l:=by
 obtain⟨h1,h2⟩:=xF h
 refine⟨by omega,λe he=>?_,λe he=>?_⟩
 ·have:=DZ (h2 e he).1;omega
 ·have:=(h2 e he).2;omega
def lR (s:ByteArray):Prop:=s.size≤1000000
def eo (s:ByteArray):AV:=.t [.s (.xs 0 2 0 (cP s).1.length),.s (.q (cP s).2)]
def eY (s:ByteArray):List AV:=[.rs aK (cP s).1]
def ui:cn where
 A:=[.s .str]
 B:=[]
 pre:=λx b=>lR x
 r:=λx b _=>eo x
 o:=λx b _=>eY x
 nf:=1
theorem PK:Has Tryz.prog 227 ui:=by
 refine Has.fm zT zF zF (l:=[(167,iD),(122,jF),(246,oj),(205,qz)]) ⟨tG,vA,D4,IJ,aa⟩ Tryz.func227 ?_
 rintro (s:ByteArray) _ (hp:lR s)
 show vc _ _ _ _ (entry [.str s] []) _
 unfold lR at hp
 have hcl:=tW s 59
 have mq:=oX (s:=s) (c:=59)
 refine⟨aa,⟨tv3,?_⟩,λx1 w2=>?_⟩
 all_goals first|refine aw ?_|refine ax ?_|exact a8|(dsimp only [iD,iQ,jF,gI,oj,nt,qz,p9];omega)|exact a7|skip
 refine cN (l:=[(167,iD),(122,jF),(246,oj),(205,qz)]) (ex:=zT) (wr:=zF) (pt:=zF) ⟨tG,vA,D4,IJ,trivial⟩ [.s 0,.s 5,.b 130000] (λy:Nat×Nat×List eU=>[(.s 4,.s (.xs 1010 2 0 y.2.2.length)),(.s 6,.int y.1),(.b 1010,.rs aK y.2.2)]) (λy=>(y.1+y.2.1=(bm s 59).length∧1≤y.2.1)∧y.2.2.length=y.1∧(∀e∈y.2.2,e.1.size≤1000000)∧egF y.2.1 (bm s 59) y.1 y.2.2=egF (bm s 59).length (bm s 59) 0 []) (λy=>y.2.1) (0,(bm s 59).length,[]) [] ⟨⟨ZA6 _,hcl.1⟩,rfl,(λ_ h=>by cases h),rfl⟩ dM ?_
 rintro⟨i,f,out⟩ ⟨⟨(hi:i+f=(bm s 59).length),(hf1:1≤f)⟩,(hlo:out.length=i),(hos:∀e∈out,e.1.size≤1000000),(hr:egF f (bm s 59) i out=egF (bm s 59).length (bm s 59) 0 [])⟩
 have bU:decide ((i:Int)+1<((bm s 59).length:Int))=true→i<(bm s 59).length:=λh=>by have:=aJ h;omega
 have hxs:i<(bm s 59).length→(nth ab (bm s 59) i).size≤1000000:=λh=>ZB0 (mq _ (bR (ek:=ab) h)) hp
 have hbl:=tW (nth ab (bm s 59) i) 61
 refine⟨⟨?_,?_⟩,λw1=>⟨⟨?_,?_⟩,?_,⟨tv3,?_⟩,λx2 w3=>⟨λw4=>⟨aa,?_⟩,λw5=>⟨⟨?_,?_⟩,?_,⟨tv2,?_⟩,λx6 w7=>⟨⟨?_,?_⟩,?_,aa,⟨⟨?_,?_⟩,?_,?_⟩,⟨?_,?_⟩,?_⟩⟩⟩⟩,λw8=>⟨⟨⟨⟨?_,?_⟩,aa⟩,?_⟩,λx9 dy=>⟨aa,λkA=>⟨aa,?_⟩,λdJ=>⟨⟨⟨⟨?_,?_⟩,aa⟩,?_⟩,λrW gO=>⟨λqK=>⟨aa,?_⟩,λkg=>?_⟩⟩⟩⟩⟩
 all_goals first|refine aw ?_|refine ax ?_|exact a8|(dsimp only [iD,iQ,jF,gI,oj,nt,qz,p9];omega)|exact a7|exact bU w1|exact hxs (bU w1)|skip
 ·obtain⟨g,rfl⟩:∃g,f=g+1:=⟨f-1,by have:=bU w1;omega⟩
  have e:cP s=([],false):=xG (by rw [←hr];exact ag2 w1 w4)
  refine⟨[1028],[],_,_,_,ζ,az,(),aa,?_,?_,ζ⟩
  ·(show _=eo s);unfold eo;first|(rw [e];rfl)|rfl
  ·(show _=eY s);unfold eY;first|(rw [e];rfl)|rfl
 ·have h2:(bm (nth ab (bm s 59) i) 61).length=2:=by have:=aA (p:=((bm (nth ab (bm s 59) i) 61).length:Int)≠2) w5;omega
  show (1:Int)<((bm (nth ab (bm s 59) i) 61).length:Int);omega
 ·have h2:(bm (nth ab (bm s 59) i) 61).length=2:=by have:=aA (p:=((bm (nth ab (bm s 59) i) 61).length:Int)≠2) w5;omega
  show 1<(bm (nth ab (bm s 59) i) 61).length;omega
 ·have h2:(bm (nth ab (bm s 59) i) 61).length=2:=by have:=aA (p:=((bm (nth ab (bm s 59) i) 61).length:Int)≠2) w5;omega
  have h3:(nth ab (bm (nth ab (bm s 59) i) 61) 1).size≤1000000:=ZB0 (oX (s:=(nth ab (bm s 59) i)) (c:=61) _ (bR (ek:=ab) (l:=bm (nth ab (bm s 59) i) 61) (k:=1) (by omega))) (hxs (bU w1))
  show ((nth ab (bm (nth ab (bm s 59) i) 61) 1).size:Int)≤1000000000000;omega
 ·obtain⟨g,rfl⟩:∃g,f=g+1:=⟨f-1,by have:=bU w1;omega⟩
  have h2:(bm (nth ab (bm s 59) i) 61).length=2:=by have:=aA (p:=((bm (nth ab (bm s 59) i) 61).length:Int)≠2) w5;omega
  refine⟨(i+1,g,out++[(nth ab (egB (bm s 59) i) 0,(aD (nth ab (egB (bm s 59) i) 1)).1)]),[(1010,1043)],?_,?_,?_⟩
  rotate_right
  ·exact bV
  ·refine⟨⟨by show i+1+g=(bm s 59).length;omega,by show 1≤g;have:=aJ (p:=(i:Int)+1<((bm s 59).length:Int)) w1;omega⟩,by show (out++[_]).length=i+1;rw [ZA0,hlo];rfl,λe he=>?_,by rw [←hr];exact (ag1 w1 w5).symm⟩
   rcases ZB4.1 he with he |he
   ·exact hos e he
   ·rw [ZC7.1 he]
    exact ZB0 (oX (s:=(nth ab (bm s 59) i)) (c:=61) _ (bR (ek:=ab) (l:=bm (nth ab (bm s 59) i) 61) (k:=0) (by omega))) (hxs (bU w1))
  ·exact ZD9 g
 ·exact (⟨by show out.length≤1000000;have:=aA (p:=(i:Int)+1<((bm s 59).length:Int)) w8;omega,hos⟩:afx out)
 ·have e0:egF (bm s 59).length (bm s 59) 0 []=some out:=by rw [←hr];exact aan w8
  have e:cP s=([],false):=by rw [nw e0];exact aal kA
  refine⟨[1053],[],_,_,_,ζ,az,(),aa,?_,?_,ζ⟩
  ·(show _=eo s);unfold eo;first|(rw [e];rfl)|rfl
  ·(show _=eY s);unfold eY;first|(rw [e];rfl)|rfl
 ·exact ach.akG (cL dJ)
 ·have e0:egF (bm s 59).length (bm s 59) 0 []=some out:=by rw [←hr];exact aan w8
  have e:cP s=([],false):=by rw [nw e0];exact aak qK
  refine⟨[1053],[],_,_,_,ζ,az,(),aa,?_,?_,ζ⟩
  ·(show _=eo s);unfold eo;first|(rw [e];rfl)|rfl
  ·(show _=eY s);unfold eY;first|(rw [e];rfl)|rfl
 ·have e0:egF (bm s 59).length (bm s 59) 0 []=some out:=by rw [←hr];exact aan w8
  have e:cP s=(out,true):=by rw [nw e0];exact aam dJ kg
  refine⟨[1010],[],_,_,_,ζ,az,(),aa,?_,?_,ζ⟩
  ·(show _=eo s);unfold eo;first|(rw [e];rfl)|rfl
  ·(show _=eY s);unfold eY;first|(rw [e];rfl)|rfl
end GL
namespace GL
def bC (s:ByteArray):List ByteArray:=bif decide (s=⟨#[47]⟩) then [] else (bm s 47).drop 1
theorem SO {s:ByteArray}(h:decide (s=⟨#[47]⟩)=true):bC s=[]:=by unfold bC;rw [h];rfl
theorem ady {s:ByteArray}(h:decide (s=⟨#[47]⟩)=false):bC s=(bm s 47).drop 1:=by unfold bC;rw [h];rfl
theorem CG {s:ByteArray}:∀x∈bC s,x.size≤s.size:=by
 intro x hx
 unfold bC at hx
 cases h:decide (s=⟨#[47]⟩) with
 |true=>rw [h] at hx;cases hx
 |false=>rw [h] at hx;exact oX x (ZF2 hx)
theorem ql {s:ByteArray}:(bC s).length≤s.size:=by
 unfold bC
 cases h:decide (s=⟨#[47]⟩) with
 |true=>exact ZA7 _
 |false=>have:=tW s 47;simp only [cond_false,ZC8];omega
def fB (s:ByteArray):Prop:=s.size≤1000000
def lF (s:ByteArray):AV:=.s (.vw ab (bC s))
def R0 (s:ByteArray):List AV:=[]
def eQ:cn where
 A:=[.s .str]
 B:=[]
 pre:=λx b=>fB x
 r:=λx b _=>lF x
 o:=λx b _=>R0 x
theorem mV:Has Tryz.prog 187 eQ:=by
 refine Has.fm zT zF zF (l:=[(167,iD)]) ⟨tG,aa⟩ Tryz.func187 ?_
 rintro (s:ByteArray) _ (hp:fB s)
 show vc _ _ _ _ (entry [.str s] []) _
 unfold fB at hp
 have hb:=tW s 47
 have hv:(((bm s 47).drop (0+1)).take ((bm s 47).length-1))=(bm s 47).drop 1:=ZD1 (by rw [ZC8];omega)
 refine⟨λw1=>⟨aa,?_⟩,λw2=>⟨⟨tv3,?_⟩,λx3 w4=>⟨⟨?_,?_,?_⟩,?_⟩⟩⟩
 all_goals first|refine aw ?_|refine ax ?_|exact a8|(dsimp only [iD,iQ];omega)|exact a7|skip
 ·refine⟨[],[],_,_,_,ζ,cf,(),aa,?_,?_,ζ⟩
  ·(show _=lF s);unfold lF;first|(rw [SO w1];rfl)|rfl
  ·rfl
 ·refine⟨[],[],_,_,_,ζ,cf,(),aa,?_,?_,ζ⟩
  ·(show _=lF s);unfold lF;first|(rw [ady w2,←hv];rfl)|rfl
  ·rfl
def G9:Nat→List ByteArray→Nat→Bool
 |0,_,_=>true
 |f+1,l,i=>bif fC (nth ab l i) then G9 f l (i+1) else false
def tu (l:List ByteArray):Bool:=G9 l.length l 0&&decide ((l.length:Int)≤4)
def gb (s:ByteArray):Bool:=bif decide (s=⟨#[47]⟩) then true else bif decide (s=⟨#[]⟩)||decide (bL s 0≠47) then false else tu (bC s)
theorem ahk {f:Nat}{l:List ByteArray}{i:Nat}(h:(!(fC (nth ab l i)))=true):G9 (f+1) l i=false:=by rw [G9,xm h];rfl
theorem ahj {f:Nat}{l:List ByteArray}{i:Nat}(h:(!(fC (nth ab l i)))=false):G9 (f+1) l i=G9 f l (i+1):=by rw [G9,cL h];rfl
theorem aa2 {s:ByteArray}(h:decide (s=⟨#[47]⟩)=true):gb s=true:=by unfold gb;rw [h];rfl
theorem aa1 {s:ByteArray}(h:decide (s=⟨#[47]⟩)=false) (h2:decide (s=⟨#[]⟩)=true):gb s=false:=by unfold gb;rw [h,h2];rfl
theorem aa0 {s:ByteArray}(h:decide (s=⟨#[47]⟩)=false) (h2:decide (bL s 0≠47)=true):gb s=false:=by unfold gb;rw [h,h2,ZC4];rfl
theorem aaZ {s:ByteArray}(h:decide (s=⟨#[47]⟩)=false) (h2:decide (s=⟨#[]⟩)=false) (h3:decide (bL s 0≠47)=false):gb s=tu (bC s):=by unfold gb;rw [h,h2,h3];rfl
def mO (s:ByteArray):Prop:=s.size≤1000000
def fS (s:ByteArray):AV:=.s (.q (gb s))
def abq (s:ByteArray):List AV:=[]
def qE:cn where
 A:=[.s .str]
 B:=[]
 pre:=λx b=>mO x
 r:=λx b _=>fS x
 o:=λx b _=>abq x
theorem IP:Has Tryz.prog 140 qE:=by
 refine Has.fm zT zF zF (l:=[(187,eQ),(188,oi)]) ⟨mV,zM,aa⟩ Tryz.func140 ?_
 rintro (s:ByteArray) _ (hp:mO s)
 show vc _ _ _ _ (entry [.str s] []) _
 unfold mO at hp
 have hnl:=ql (s:=s)
 have hns:=CG (s:=s)
 have oU:decide (s=⟨#[]⟩)=false→0<(s.size:Int):=λh=>by have:=size_pos (aA h);omega
 refine⟨λw1=>?_,λw2=>⟨aa,λw3=>?_,λw4=>⟨⟨?_,?_⟩,λw5=>?_,λw6=>⟨⟨tv2,?_⟩,λx7 w8=>?_⟩⟩⟩⟩
 all_goals first|refine aw ?_|refine ax ?_|exact a8|(dsimp only [eQ,fB,oi,mP];omega)|exact a7|exact oU w4|skip
 ·refine⟨[],[],_,_,_,ζ,az,(),aa,?_,?_,ζ⟩
  ·(show _=fS s);unfold fS;first|(rw [aa2 w1];rfl)|rfl
  ·rfl
 ·refine⟨[],[],_,_,_,ζ,az,(),aa,?_,?_,ζ⟩
  ·(show _=fS s);unfold fS;first|(rw [aa1 w2 w3];rfl)|rfl
  ·rfl
 ·refine⟨[],[],_,_,_,ζ,az,(),aa,?_,?_,ζ⟩
  ·(show _=fS s);unfold fS;first|(rw [aa0 w2 w5];rfl)|rfl
  ·rfl
 ·have hM:=aaZ w2 w4 w6
  refine cN (l:=[(187,eQ),(188,oi)]) (ex:=zT) (wr:=zF) (pt:=zF) ⟨mV,zM,aa⟩ [.s 0,.s 3] (λy:Nat×Nat=>[(.s 4,.int y.1)]) (λy=>y.1+y.2=(bC s).length∧G9 y.2 (bC s) y.1=G9 (bC s).length (bC s) 0) (λy=>y.2) (0,(bC s).length) [] ⟨ZA6 _,rfl⟩ dM ?_
  rintro⟨k,f⟩ ⟨(hk:k+f=(bC s).length),(he:G9 f (bC s) k=G9 (bC s).length (bC s) 0)⟩
  have bU:decide ((k:Int)<((bC s).length:Int))=true→k<(bC s).length:=λh=>by have:=aJ h;omega
  have dj:k<(bC s).length→(nth ab (bC s) k).size≤1000000:=λh=>ZB0 (hns _ (bR (ek:=ab) h)) hp
  refine⟨λw1=>⟨⟨?_,?_⟩,⟨tv2,?_⟩,λx2 w3=>⟨λw4=>?_,λw5=>⟨⟨?_,?_⟩,?_⟩⟩⟩,λw6=>?_⟩
  all_goals first|refine aw ?_|refine ax ?_|exact a8|(dsimp only [eQ,fB,oi,mP];omega)|exact a7|exact bU w1|exact dj (bU w1)|skip
  ·obtain⟨g,rfl⟩:∃g,f=g+1:=⟨f-1,by have:=bU w1;omega⟩
   have e:tu (bC s)=false:=by unfold tu;rw [←he,ahk (show (!(fC (nth ab (bC s) k)))=true from w4)];rfl
   refine⟨[],[],_,_,_,ζ,az,(),aa,?_,?_,ζ⟩
   ·(show _=fS s);unfold fS;first|(rw [hM,e];rfl)|rfl
   ·rfl
  ·obtain⟨g,rfl⟩:∃g,f=g+1:=⟨f-1,by have:=bU w1;omega⟩
   refine⟨(k+1,g),[],?_,?_,?_⟩
   rotate_right
   ·exact bV
   ·exact⟨by show k+1+g=(bC s).length;omega,by rw [←he];exact (ahj w5).symm⟩
   ·exact ZD9 g
  ·have hf:f=0:=by have:=aA (p:=(k:Int)<((bC s).length:Int)) w6;omega
   subst hf
   have e:tu (bC s)=decide (((bC s).length:Int)≤4):=by unfold tu;rw [←he];rfl
   refine⟨[],[],_,_,_,ζ,az,(),aa,?_,?_,ζ⟩
   ·(show _=fS s);unfold fS;first|(rw [hM,e];rfl)|rfl
   ·rfl
def bT (s:ByteArray):List ByteArray×Bool:=bif !(gb s) then ([],false) else (bC s,true)
theorem OJ {s:ByteArray}(h:(!(gb s))=true):bT s=([],false):=by unfold bT;rw [h];rfl
theorem OI {s:ByteArray}(h:(!(gb s))=false):bT s=(bC s,true):=by unfold bT;rw [h];rfl
def nr (s:ByteArray):Prop:=s.size≤1000000
def ki (s:ByteArray):AV:=.t [.s (.vw ab (bT s).1),.s (.q (bT s).2)]
def OR (s:ByteArray):List AV:=[]
def vW:cn where
 A:=[.s .str]
 B:=[]
 pre:=λx b=>nr x
 r:=λx b _=>ki x
 o:=λx b _=>OR x
theorem TF:Has Tryz.prog 211 vW:=by
 refine Has.fm zT zF zF (l:=[(140,qE),(187,eQ)]) ⟨IP,mV,aa⟩ Tryz.func211 ?_
 rintro (s:ByteArray) _ (hp:nr s)
 show vc _ _ _ _ (entry [.str s] []) _
 unfold nr at hp
 have hnl:=ql (s:=s)
 refine⟨⟨tv2,?_⟩,λx1 w2=>⟨λw3=>⟨aa,?_⟩,λw4=>⟨aa,⟨tv2,?_⟩,λx5 w6=>⟨⟨⟨?_,?_⟩,aa⟩,?_⟩⟩⟩⟩
 all_goals first|refine aw ?_|refine ax ?_|exact a8|(dsimp only [qE,mO,eQ,fB];omega)|exact a7|skip
 ·refine⟨[],[],_,_,_,ζ,cf,(),aa,?_,?_,ζ⟩
  ·(show _=ki s);unfold ki;first|(rw [OJ w3];rfl)|rfl
  ·rfl
 ·have hv:([]++bC s)=bC s:=ZD0 _
  refine⟨[],[],_,_,_,ζ,cf,(),aa,?_,?_,ζ⟩
  ·(show _=ki s);unfold ki;first|(show AV.t [A0.s (SV.vw ab (List.take (([]:List ByteArray).length+(bC s).length) (List.drop 0 ([]++bC s)))),A0.s (SV.q true)]=_;simp only [ZD0,ZF0,ZA4,ZA6,List.take_length,OI w4])|rfl
  ·rfl
def jn (o x:ByteArray):ByteArray:=o++⟨#[47]⟩++x
def oS (l:List ByteArray):ByteArray:=bif decide (l.foldl jn ⟨#[]⟩=⟨#[]⟩) then ⟨#[47]⟩ else l.foldl jn ⟨#[]⟩
theorem aa4 {l:List ByteArray}{o:ByteArray}(h:l.foldl jn ⟨#[]⟩=o) (h2:decide (o=⟨#[]⟩)=true):oS l=⟨#[47]⟩:=by unfold oS;rw [h,h2];rfl
theorem aa3 {l:List ByteArray}{o:ByteArray}(h:l.foldl jn ⟨#[]⟩=o) (h2:decide (o=⟨#[]⟩)=false):oS l=o:=by unfold oS;rw [h,h2];rfl
def B4 (l:List ByteArray):Prop:=l.length≤1000∧∀x∈l,x.size≤1000000
def r7 (l:List ByteArray):AV:=.s (.str (oS l))
def ac8 (l:List ByteArray):List AV:=[]
def PZ:cn where
 A:=[.s (.vz ab)]
 B:=[]
 pre:=λx b=>B4 x
 r:=λx b _=>r7 x
 o:=λx b _=>ac8 x
theorem afZ:Has Tryz.prog 212 PZ:=by
 refine Has.fm zT zF zF (l:=[]) trivial Tryz.func212 ?_
 rintro (l:List ByteArray) _ (hp:B4 l)
 show vc _ _ _ _ (entry [.s (.vz ab l)] []) _
 obtain⟨hlen,dj⟩:=hp
 refine ?_
 all_goals first|refine aw ?_|refine ax ?_|exact a8|exact a7|skip
 refine cN (l:=[]) (ex:=zT) (wr:=zF) (pt:=zF) trivial [.s 0] (λy:Nat×ByteArray=>[(.s 3,.str y.2),(.s 4,.int y.1)]) (λy=>y.1≤l.length∧y.2.size≤1000001*y.1∧(l.drop y.1).foldl jn y.2=l.foldl jn ⟨#[]⟩) (λy=>l.length-y.1) (0,⟨#[]⟩) [] ⟨ZA7 _,ZA7 _,rfl⟩ dM ?_
 rintro⟨i,out⟩ ⟨(hi:i≤l.length),(ho:out.size≤1000001*i),(hr:(l.drop i).foldl jn out=l.foldl jn ⟨#[]⟩)⟩
 have bU:decide ((i:Int)<(l.length:Int))=true→i<l.length:=λh=>by have:=aJ h;omega
 have hx:i<l.length→(nth ab l i).size≤1000000:=λh=>dj _ (bR (ek:=ab) h)
 refine⟨λw1=>⟨?_,⟨⟨?_,?_⟩,⟨?_,⟨⟨?_,?_⟩,?_⟩⟩⟩⟩,λw2=>⟨λw3=>?_,λw4=>?_⟩⟩
 all_goals first|refine aw ?_|refine ax ?_|exact a8|exact a7|exact bU w1|(unfold imax;simp only [ZB2,ZA5,sz1];have:=hx (bU w1);omega)|skip
 ·have mo:=bU w1
  refine⟨(i+1,jn out (nth ab l i)),[],?_,?_,?_⟩
  rotate_right
  ·exact bV
  ·refine⟨mo,?_,by rw [←hr,bW (ek:=ab) mo];rfl⟩
   show (out++⟨#[47]⟩++nth ab l i).size≤1000001*(i+1)
   have a1:=hx mo
   simp only [ZB2]
   rw [show (⟨#[47]⟩:ByteArray).size=1 from rfl];omega
  ·show l.length-(i+1)<l.length-i;omega
 ·have e:l.foldl jn ⟨#[]⟩=out:=by rw [←hr,ZB3 (by have:=aA (p:=(i:Int)<(l.length:Int)) w2;omega)];rfl
  refine⟨[],[],_,_,_,ζ,az,(),aa,?_,?_,ζ⟩
  ·(show _=r7 l);unfold r7;first|(rw [aa4 e w3];rfl)|rfl
  ·rfl
 ·have e:l.foldl jn ⟨#[]⟩=out:=by rw [←hr,ZB3 (by have:=aA (p:=(i:Int)<(l.length:Int)) w2;omega)];rfl
  refine⟨[],[],_,_,_,ζ,az,(),aa,?_,?_,ζ⟩
  ·(show _=r7 l);unfold r7;first|(rw [aa3 e w4];rfl)|rfl
  ·rfl
def px (s top:ByteArray):Bool:=
 bif !(bT s).2||(!(bT top).2||decide (((bT s).1.length:Int)<((bT top).1.length:Int))) then false
 else decide (oS ((bT s).1.take (bT top).1.length)=oS (bT top).1)
theorem xy (s:ByteArray):(bT s).1.length≤4∧∀x∈(bT s).1,x.size≤s.size:=by
 unfold bT
 cases h: !(gb s) with
 |true=>exact⟨ZA7 _,λx hx=>by cases hx⟩
 |false=>
  refine⟨?_,CG⟩
  have h:=cL h
  show (bC s).length≤4
  unfold gb at h
  cases h1:decide (s=⟨#[47]⟩) with
  |true=>rw [SO h1];exact ZA7 _
  |false=>
   rw [h1] at h
   simp only [cond_false] at h
   cases h2:decide (s=⟨#[]⟩)||decide (bL s 0≠47) with
   |true=>rw [h2] at h;cases h
   |false=>
    rw [h2] at h
    simp only [cond_false] at h
    unfold tu at h
    simp only [ZA9,decide_eq_true_eq] at h
    omega
def rG (s:ByteArray) (top:ByteArray):Prop:=s.size≤1000000∧top.size≤1000000
def eV (s:ByteArray) (top:ByteArray):AV:=.s (.q (px s top))
def OQ (s:ByteArray) (top:ByteArray):List AV:=[]
def vV:cn where
 A:=[.s .str,.s .str]
 B:=[]
 pre:=λx b=>rG (x.1) (x.2)
 r:=λx b _=>eV (x.1) (x.2)
 o:=λx b _=>OQ (x.1) (x.2)
theorem TE:Has Tryz.prog 184 vV:=by
 refine Has.fm zT zF zF (l:=[(211,vW),(212,PZ)]) ⟨TF,afZ,aa⟩ Tryz.func184 ?_
 rintro⟨(s:ByteArray),(top:ByteArray)⟩ _ (hp:rG s top)
 show vc _ _ _ _ (entry [.str s,.str top] []) _
 obtain⟨h1,h2⟩:=hp
 have hb:=xy s
 have hc:=xy top
 have hT:((bT s).1.take (((some ((bT top).1.length:Int)).getD (bT s).1.length).toNat-(((none:Option Int).getD 0).toNat)))=(bT s).1.take (bT top).1.length:=rfl
 have hm:∀x∈(bT s).1.take (bT top).1.length,x.size≤1000000:=λx hx=>ZB0 (hb.2 x (ZE6 hx)) h1
 refine⟨⟨tv2,?_⟩,λx1 w2=>⟨⟨tv2,?_⟩,λx3 w4=>⟨aa,λw5=>?_,λw6=>⟨aa,λw7=>?_,λw8=>⟨λw9=>?_,λdy=>⟨⟨?_,?_,?_⟩,⟨tv2,?_,λkz dJ=>?_⟩,λrW gO=>⟨⟨tv2,?_,λky kg=>?_⟩,λx17 rS=>?_⟩⟩⟩⟩⟩⟩⟩
 all_goals first|refine aw ?_|refine ax ?_|exact a8|(dsimp only [vW,nr,PZ,B4];omega)|exact a7|(show ((bT s).1.take (bT top).1.length).length≤1000;rw [ZB9];omega)|exact hm _ dJ|exact ZB0 (hc.2 _ kg) h2|skip
 ·have e:px s top=false:=by unfold px;rw [w5];rfl
  refine⟨[],[],_,_,_,ζ,az,(),aa,?_,?_,ζ⟩
  ·(show _=eV s top);unfold eV;first|(rw [e];rfl)|rfl
  ·rfl
 ·have e:px s top=false:=by unfold px;rw [w6,w7];rfl
  refine⟨[],[],_,_,_,ζ,az,(),aa,?_,?_,ζ⟩
  ·(show _=eV s top);unfold eV;first|(rw [e];rfl)|rfl
  ·rfl
 ·have e:px s top=false:=by unfold px;rw [w6,w8,w9];rfl
  refine⟨[],[],_,_,_,ζ,az,(),aa,?_,?_,ζ⟩
  ·(show _=eV s top);unfold eV;first|(rw [e];rfl)|rfl
  ·rfl
 ·have e:px s top=decide (oS ((bT s).1.take (bT top).1.length)=oS (bT top).1):=by unfold px;rw [w6,w8,dy];rfl
  refine⟨[],[],_,_,_,ζ,az,(),aa,?_,?_,ζ⟩
  ·(show _=eV s top);unfold eV;first|(rw [e];rfl)|rfl
  ·rfl
def k8 (s:ByteArray):Prop:=s.size≤1000000∧1≤(bC s).length
def u1 (s:ByteArray):AV:=.s (.str (nth ab (bC s) ((bC s).length-1)))
def V3 (s:ByteArray):List AV:=[]
def j6:cn where
 A:=[.s .str]
 B:=[]
 pre:=λx b=>k8 x
 r:=λx b _=>u1 x
 o:=λx b _=>V3 x
theorem wS:Has Tryz.prog 177 j6:=by
 refine Has.fm zT zF zF (l:=[(187,eQ)]) ⟨mV,aa⟩ Tryz.func177 ?_
 rintro (s:ByteArray) _ (hp:k8 s)
 show vc _ _ _ _ (entry [.str s] []) _
 obtain⟨h1,h2⟩:=hp
 have hnl:=ql (s:=s)
 refine⟨⟨tv2,?_⟩,λx1 w2=>⟨⟨?_,?_⟩,⟨?_,?_⟩,?_⟩⟩
 all_goals first|refine aw ?_|refine ax ?_|exact a8|(dsimp only [eQ,fB];omega)|exact a7|(unfold imax;omega)|skip
 refine⟨[],[],_,_,_,ζ,az,(),aa,?_,?_,ζ⟩
 ·(show _=u1 s);unfold u1;first|(exact congrArg (λk:Nat=>AV.s (SV.str (nth ab (bC s) k))) (show ((bC s).length-1:Int).toNat=(bC s).length-1 by omega))|rfl
 ·rfl
def SA (o:Opr):Bool:=decide (o.1=6)||decide (o.1=7)
def ahv (o:Opr):Bool:=decide (o.1=3)||decide (o.1=4)
def SB (tw a:Bool) (o:Opr):Bool:=
 bif !(ik o.1 1 7)||(!(gb o.2.1)||((tw&& !(gb o.2.2.1))||(!tw&&decide (o.2.2.1≠⟨#[]⟩)))) then false
 else bif (decide (o.1≠3)&&decide (o.2.2.2.2≠⟨#[]⟩))||decide ((o.2.2.2.2.size:Int)>24) then false
 else decide (o.2.2.2.1=0)||(a&&ik o.2.2.2.1 0 192)
def Y6 (o:Opr):Bool:=SB (SA o) (ahv o) o
def vj (o:Opr):Prop:=o.2.1.size≤1000000∧o.2.2.1.size≤1000000
def GW (o:Opr):AV:=.s (.q (Y6 o))
def afG (o:Opr):List AV:=[]
def y7:cn where
 A:=[.a [.int,.str,.str,.int,.str]]
 B:=[]
 pre:=λx b=>vj x
 r:=λx b _=>GW x
 o:=λx b _=>afG x
theorem XC:Has Tryz.prog 92 y7:=by
 refine Has.ofP 3 zT zF zF (l:=[(35,hZ),(140,qE)]) ⟨iA,IP,aa⟩ Tryz.func92 ?_
 rintro⟨(o1:Int),(o2:ByteArray),(o3:ByteArray),(o4:Int),(o5:ByteArray)⟩ _ (hp:vj (o1,o2,o3,o4,o5))
 show vcP _ _ _ _ 3 _ (entry [.a [.int o1,.str o2,.str o3,.int o4,.str o5]] [])
 obtain⟨(h1:o2.size≤1000000),(h2:o3.size≤1000000)⟩:=hp
 refine zb (l:=[(35,hZ),(140,qE)]) (ex:=zT) (wr:=zF) (pt:=zF) ⟨iA,IP,aa⟩ (λy:Bool×Bool=>[(.s 1,.s (.bp 1001 0)),(.s 3,.s (.q y.1)),(.s 4,.s (.q y.2)),(.b 1001,.a [.int o1,.str o2,.str o3,.int o4,.str o5])]) (λy=>y.1=SA (o1,o2,o3,o4,o5)∧y.2=ahv (o1,o2,o3,o4,o5)) (xc 3 (J9 Tryz.f92)) ?_ (λtail=>?_)
 ·rintro⟨tw,at'⟩ ⟨(h3:tw=SA (o1,o2,o3,o4,o5)),(h4:at'=ahv (o1,o2,o3,o4,o5))⟩
  have e:Y6 (o1,o2,o3,o4,o5)=SB tw at' (o1,o2,o3,o4,o5):=by rw [h3,h4];rfl
  clear h3 h4
  show vc _ _ _ _ (DX.ap [(.s 1,.s (.bp 1001 0)),(.s 3,.s (.q tw)),(.s 4,.s (.q at')),(.b 1001,.a [.int o1,.str o2,.str o3,.int o4,.str o5])]) _
  refine⟨⟨tv4,aa⟩,λx1 w2=>⟨aa,λw3=>?_,λw4=>⟨⟨tv2,?_⟩,λx5 w6=>⟨aa,λw7=>?_,λw8=>⟨aa,λw9=>⟨⟨tv2,?_⟩,λx10 kA=>⟨aa,λdJ=>?_,λiU=>⟨aa,λgO=>⟨λqK=>?_,λkg=>⟨aa,λxh=>⟨aa,λrS=>?_,λoL=>⟨λuI=>?_,λA4=>⟨aa,λA3=>?_,λxK=>⟨aa,λrR=>⟨⟨tv4,aa⟩,λx25 w26=>?_⟩,λw27=>?_⟩⟩⟩⟩,λw28=>⟨λw29=>?_,λw30=>⟨aa,λw31=>?_,λw32=>⟨aa,λw33=>⟨⟨tv4,aa⟩,λx34 w35=>?_⟩,λw36=>?_⟩⟩⟩⟩⟩,λw37=>⟨aa,λw38=>⟨aa,λw39=>?_,λw40=>⟨λw41=>?_,λw42=>⟨aa,λw43=>?_,λw44=>⟨aa,λw45=>⟨⟨tv4,aa⟩,λx46 w47=>?_⟩,λw48=>?_⟩⟩⟩⟩,λw49=>⟨λw50=>?_,λw51=>⟨aa,λw52=>?_,λw53=>⟨aa,λw54=>⟨⟨tv4,aa⟩,λx55 w56=>?_⟩,λw57=>?_⟩⟩⟩⟩⟩⟩⟩,λw58=>⟨aa,λw59=>⟨λw60=>?_,λw61=>⟨aa,λw62=>⟨aa,λw63=>?_,λw64=>⟨λw65=>?_,λw66=>⟨aa,λw67=>?_,λw68=>⟨aa,λw69=>⟨⟨tv4,aa⟩,λx70 w71=>?_⟩,λw72=>?_⟩⟩⟩⟩,λw73=>⟨λw74=>?_,λw75=>⟨aa,λw76=>?_,λw77=>⟨aa,λw78=>⟨⟨tv4,aa⟩,λx79 w80=>?_⟩,λw81=>?_⟩⟩⟩⟩⟩,λw82=>⟨aa,λw83=>⟨aa,λw84=>?_,λw85=>⟨λw86=>?_,λw87=>⟨aa,λw88=>?_,λw89=>⟨aa,λw90=>⟨⟨tv4,aa⟩,λx91 w92=>?_⟩,λw93=>?_⟩⟩⟩⟩,λw94=>⟨λw95=>?_,λw96=>⟨aa,λw97=>?_,λw98=>⟨aa,λw99=>⟨⟨tv4,aa⟩,λalC aku=>?_⟩,λal7=>?_⟩⟩⟩⟩⟩⟩⟩⟩⟩⟩
  all_goals first|refine aw ?_|refine ax ?_|exact a8|(dsimp only [qE,mO];omega)|exact a7|exact h1|exact h2|skip
  all_goals
   refine⟨[],[],_,_,_,ζ,az,(),0,aa,?_,?_,ζ⟩
   ·(show _=GW (o1,o2,o3,o4,o5));unfold GW;first|((rw [e];simp only [SB, *];rfl))|((rw [e];simp [SB, *]<;>rfl))|((exfalso;clear e;simp_all))|rfl
   ·rfl
 ·refine⟨aa,λw1=>⟨aa,λw2=>?_,λw3=>?_⟩,λw4=>⟨aa,λw5=>?_,λw6=>?_⟩⟩
  all_goals first|refine aw ?_|refine ax ?_|exact a8|(dsimp only [qE,mO];omega)|exact a7|skip
  ·refine joinTail tail ((true,decide (o1=4))) [] ((⟨by show true=(decide (o1=6)||decide (o1=7));rw [w1];rfl,by show decide (o1=4)=(decide (o1=3)||decide (o1=4));rw [w3];rfl⟩)) ?_
   repeat' (first|exact trivial|rfl|exact rfl|exact fP ZA0.symm|apply And.intro)
  ·refine joinTail tail ((decide (o1=7),true)) [] ((⟨by show decide (o1=7)=(decide (o1=6)||decide (o1=7));rw [w4];rfl,by show true=(decide (o1=3)||decide (o1=4));rw [w5];rfl⟩)) ?_
   repeat' (first|exact trivial|rfl|exact rfl|exact fP ZA0.symm|apply And.intro)
  ·refine joinTail tail ((decide (o1=7),decide (o1=4))) [] ((⟨by show decide (o1=7)=(decide (o1=6)||decide (o1=7));rw [w4];rfl,by show decide (o1=4)=(decide (o1=3)||decide (o1=4));rw [w6];rfl⟩)) ?_
   repeat' (first|exact trivial|rfl|exact rfl|exact fP ZA0.symm|apply And.intro)
