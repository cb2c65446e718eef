/- A drawn law returns true for every code (its row lists package variables, tied by the card): part 24. -/
import Derived.Test.YtkgpljpmdkflmaaGreatDoorPan
import Derived.Test.YtkgpljpmdkflmaaGreatDoorPav
set_option maxHeartbeats 20000000
set_option maxRecDepth 100000
set_option linter.all false
namespace Go.Proofs.YtkgpljpmdkflmaaGreatDoor
namespace GL
theorem nG {b0 b1 b2 b3 b4:Nat}{s u:ay}(h:uq s u) (hs:s.wf):kZ b0 b1 b2 b3 b4 s=kZ b0 b1 b2 b3 b4 u:=by
 unfold kZ
 rw [h.wf.n.1,h.wf.n.2.1,h.wf.n.2.2,hs.n.1,hs.n.2.1,hs.n.2.2,h.gone,h.dead,h.cj,h.ca,h.same]
def mM (S:ay) (t:bf) (many:Int):Prop:=S.wf∧t.rd∧0≤many∧many≤16∧S.gone.length≤1046000∧S.dead.length≤1046000
def aaU (S:ay) (t:bf) (many:Int) (z:Bool):Prop:=z=(cG S t many).2.2
def mJ (S:ay) (t:bf) (many:Int) (z:Bool):AV:=match z with |true=>.t [.a (kZ 0 1 2 5 6 (cG S t many).1),trA (cG S t many).2.1,.s (.q true)] |false=>.t [.a (kZ 0 1 2 3 4 (cG S t many).1),trA (cG S t many).2.1,.s (.q false)]
def ql (S:ay) (t:bf) (many:Int) (z:Bool):List AV:=match z with |true=>[.rs ab (cG S t many).1.rows,.rs ag (cG S t many).1.refs,.rs ag (cG S t many).1.last,.zz,.zz,.rs ae (cG S t many).1.gone,.rs ae (cG S t many).1.dead] |false=>GD (cG S t many).1++[.zz,.zz]
def me:ct where
 A:=[.a (stB 0 1 2 3 4),.a [.int,.int,.int,.int,.int,.int,.int],.s .int]
 B:=[.r ab,.r ag,.r ag,.r ae,.r ae]
 pre:=fun x b=>stW x.1 b∧mM (gQ x.1 b) (x.2.1) (x.2.2)
 α:=fun _ _=>Bool
 φ:=fun x b z=>aaU (gQ x.1 b) (x.2.1) (x.2.2) z
 r:=fun x b z=>mJ (gQ x.1 b) (x.2.1) (x.2.2) z
 o:=fun x b z=>ql (gQ x.1 b) (x.2.1) (x.2.2) z
 nf:=2
 mv:=true
theorem zI:Has Tryz.prog 124 me:=by
 refine Has.ofP 4 zT zF zF (l:=[(97,ez),(121,j4),(122,cK)]) ⟨l5,wR,gy,aa⟩ Tryz.func124 ?_
 rintro⟨⟨(AU:Nat),(AT:Nat),(AS:Nat),(ao:Int),(AR:Nat),(aq:Int),(AQ:Nat),(ar:Bool)⟩,⟨(t1:Int),(t2:Int),(t3:Int),(t4:Int),(t5:Int),(t6:Int),(t7:Int)⟩,(many:Int)⟩ ⟨(aj:List ByteArray),(ak:List Int),(an:List Int),(ah:List Pt),(ai:List Pt)⟩ ⟨⟨(gD:AU=List.length aj),(gC:AT=List.length ak),(gB:AS=List.length an),(gA:AR=List.length ah),(gz:AQ=List.length ai)⟩,(hp:mM (aj,ak,an,ao,ah,aq,ai,ar) (t1,t2,t3,t4,t5,t6,t7) many)⟩
 subst gD gC gB gA gz
 show vcP _ _ _ _ 4 _ (entry [.a [.xs 0 1 0 aj.length,.xs 1 1 0 ak.length,.xs 2 1 0 an.length,.int ao,.xs 3 5 0 ah.length,.int aq,.xs 4 5 0 ai.length,.q ar],.a [.int t1,.int t2,.int t3,.int t4,.int t5,.int t6,.int t7],.int many] [.rs ab aj,.rs ag ak,.rs ag an,.rs ae ah,.rs ae ai])
 obtain⟨oP,sV,CW,hm1,(hg:ah.length≤1046000),(hd:ai.length≤1046000)⟩:=hp
 have oP:ay.wf (aj,ak,an,ao,ah,aq,ai,ar):=oP
 have sV:bf.rd (t1,t2,t3,t4,t5,t6,t7):=sV
 have hwl:=gi (s:=(aj,ak,an,ao,ah,aq,ai,ar)) sV
 have hwo:=lD (s:=(aj,ak,an,ao,ah,aq,ai,ar)) sV
 have hly:=FE (t:=(t1,t2,t3,t4,t5,t6,t7)) (l:=aB (aj,ak,an,ao,ah,aq,ai,ar) (t1,t2,t3,t4,t5,t6,t7)) (many:=many) oP
 refine ze (l:=[(97,ez),(121,j4),(122,cK)]) (ex:=zT) (wr:=zF) (pt:=zF) ⟨l5,wR,gy,aa⟩ (fun y:Unit=>[(.s 3,.s (.bp 1003 0)),(.s 4,.s (.bp 1004 0)),(.s 6,.s (.bp 1006 0)),(.s 7,.s (.bp 1007 0)),(.s 12,.s (.q false)),(.b 1003,.a (kZ 0 1 2 3 4 (aj,ak,an,ao,ah,aq,ai,ar))),(.b 0,.rs ab (bR (aj,ak,an,ao,ah,aq,ai,ar) (t1,t2,t3,t4,t5,t6,t7) (aB (aj,ak,an,ao,ah,aq,ai,ar) (t1,t2,t3,t4,t5,t6,t7)) many).1.rows),(.b 1,.rs ag (bR (aj,ak,an,ao,ah,aq,ai,ar) (t1,t2,t3,t4,t5,t6,t7) (aB (aj,ak,an,ao,ah,aq,ai,ar) (t1,t2,t3,t4,t5,t6,t7)) many).1.refs),(.b 2,.rs ag (bR (aj,ak,an,ao,ah,aq,ai,ar) (t1,t2,t3,t4,t5,t6,t7) (aB (aj,ak,an,ao,ah,aq,ai,ar) (t1,t2,t3,t4,t5,t6,t7)) many).1.last),(.b 3,.rs ae (bR (aj,ak,an,ao,ah,aq,ai,ar) (t1,t2,t3,t4,t5,t6,t7) (aB (aj,ak,an,ao,ah,aq,ai,ar) (t1,t2,t3,t4,t5,t6,t7)) many).1.gone),(.b 4,.rs ae (bR (aj,ak,an,ao,ah,aq,ai,ar) (t1,t2,t3,t4,t5,t6,t7) (aB (aj,ak,an,ao,ah,aq,ai,ar) (t1,t2,t3,t4,t5,t6,t7)) many).1.dead),(.b 1004,.a [.int t1,.int t2,.int t3,.int t4,.int t5,.int t6,.int t7]),(.b 1006,.a (uI pD.zero)),(.b 1007,.a (uI sY.zero))]) (fun y=>decide (many=bf.many (t1,t2,t3,t4,t5,t6,t7))=false∧(bR (aj,ak,an,ao,ah,aq,ai,ar) (t1,t2,t3,t4,t5,t6,t7) (aB (aj,ak,an,ao,ah,aq,ai,ar) (t1,t2,t3,t4,t5,t6,t7)) many).2.2=false) (xf 4 (J7 Tryz.f124)) ?_ (fun tail=>?_)
 ·rintro⟨⟩ ⟨(fB:decide (many=bf.many (t1,t2,t3,t4,t5,t6,t7))=false),(hz:(bR (aj,ak,an,ao,ah,aq,ai,ar) (t1,t2,t3,t4,t5,t6,t7) (aB (aj,ak,an,ao,ah,aq,ai,ar) (t1,t2,t3,t4,t5,t6,t7)) many).2.2=false)⟩
  have xr:=CL oP hz
  have e:(cG (aj,ak,an,ao,ah,aq,ai,ar) (t1,t2,t3,t4,t5,t6,t7) many)=((bR (aj,ak,an,ao,ah,aq,ai,ar) (t1,t2,t3,t4,t5,t6,t7) (aB (aj,ak,an,ao,ah,aq,ai,ar) (t1,t2,t3,t4,t5,t6,t7)) many).1,(t1,t2,t3,t4,t5,t6,t7),false):=aeV fB (by rw [hz];rfl)
  refine⟨fun w1=>⟨[.s 3,.b 1003],Sq34,rfl,[.s 4,.b 1004],Sq35,rfl,[.s 6,.s 34,.b 1006],[.b 1006],rfl,[.s 7,.s 35,.b 1007],[.b 1007],rfl,[],Sq8,rfl,?_⟩,fun w2=>?_⟩
  all_goals first|refine aw ?_|refine ax ?_|exact a8|(dsimp only [ez,fU,j4,k7,cK,dI,gQ];omega)|exact a7|skip
  ·have es:kZ 0 1 2 3 4 (aj,ak,an,ao,ah,aq,ai,ar)=kZ 0 1 2 3 4 (bR (aj,ak,an,ao,ah,aq,ai,ar) (t1,t2,t3,t4,t5,t6,t7) (aB (aj,ak,an,ao,ah,aq,ai,ar) (t1,t2,t3,t4,t5,t6,t7)) many).1:=nG xr oP
   refine⟨[],[],_,_,_,rfl,az,false,2,(by show false=(cG (aj,ak,an,ao,ah,aq,ai,ar) (t1,t2,t3,t4,t5,t6,t7) many).2.2;rw [e]),?_,?_,rfl⟩
   ·(show _=mJ (aj,ak,an,ao,ah,aq,ai,ar) (t1,t2,t3,t4,t5,t6,t7) many false);unfold mJ;first|(rw [e];rfl)|(rw [e];exact congrArg (fun x=>AV.t [A0.a x,trA (t1,t2,t3,t4,t5,t6,t7),A0.s (SV.q false)]) es)|rfl
   ·(show _=ql (aj,ak,an,ao,ah,aq,ai,ar) (t1,t2,t3,t4,t5,t6,t7) many false);unfold ql;first|(rw [e];rfl)|(rw [e];exact congrArg (fun x=>AV.t [A0.a x,trA (t1,t2,t3,t4,t5,t6,t7),A0.s (SV.q false)]) es)|rfl
  ·exact absurd (show true=false from w2) Bool.noConfusion
 have aiu:=tail
 clear tail
 refine ze (l:=[(97,ez),(121,j4),(122,cK)]) (ex:=zT) (wr:=zF) (pt:=zF) ⟨l5,wR,gy,aa⟩ (fun y:Unit=>[(.s 2,.int many),(.s 6,.s (.bp 1006 0)),(.s 7,.s (.bp 1007 0)),(.s 9,.s (.xs 230000 5 0 (aB (aj,ak,an,ao,ah,aq,ai,ar) (t1,t2,t3,t4,t5,t6,t7)).length)),(.s 10,.s (.bp 1010 0)),(.s 11,.s (.bp 1011 0)),(.s 12,.s (.q true)),(.b 1010,.a (kZ 0 1 2 1000290000 1000290001 (bR (aj,ak,an,ao,ah,aq,ai,ar) (t1,t2,t3,t4,t5,t6,t7) (aB (aj,ak,an,ao,ah,aq,ai,ar) (t1,t2,t3,t4,t5,t6,t7)) many).1)),(.b 0,.rs ab (bR (aj,ak,an,ao,ah,aq,ai,ar) (t1,t2,t3,t4,t5,t6,t7) (aB (aj,ak,an,ao,ah,aq,ai,ar) (t1,t2,t3,t4,t5,t6,t7)) many).1.rows),(.b 1,.rs ag (bR (aj,ak,an,ao,ah,aq,ai,ar) (t1,t2,t3,t4,t5,t6,t7) (aB (aj,ak,an,ao,ah,aq,ai,ar) (t1,t2,t3,t4,t5,t6,t7)) many).1.refs),(.b 2,.rs ag (bR (aj,ak,an,ao,ah,aq,ai,ar) (t1,t2,t3,t4,t5,t6,t7) (aB (aj,ak,an,ao,ah,aq,ai,ar) (t1,t2,t3,t4,t5,t6,t7)) many).1.last),(.b 1000290000,.rs ae (bR (aj,ak,an,ao,ah,aq,ai,ar) (t1,t2,t3,t4,t5,t6,t7) (aB (aj,ak,an,ao,ah,aq,ai,ar) (t1,t2,t3,t4,t5,t6,t7)) many).1.gone),(.b 1000290001,.rs ae (bR (aj,ak,an,ao,ah,aq,ai,ar) (t1,t2,t3,t4,t5,t6,t7) (aB (aj,ak,an,ao,ah,aq,ai,ar) (t1,t2,t3,t4,t5,t6,t7)) many).1.dead),(.b 1011,.a [.int (bR (aj,ak,an,ao,ah,aq,ai,ar) (t1,t2,t3,t4,t5,t6,t7) (aB (aj,ak,an,ao,ah,aq,ai,ar) (t1,t2,t3,t4,t5,t6,t7)) many).2.1.1,.int (bR (aj,ak,an,ao,ah,aq,ai,ar) (t1,t2,t3,t4,t5,t6,t7) (aB (aj,ak,an,ao,ah,aq,ai,ar) (t1,t2,t3,t4,t5,t6,t7)) many).2.1.2.1,.int (bR (aj,ak,an,ao,ah,aq,ai,ar) (t1,t2,t3,t4,t5,t6,t7) (aB (aj,ak,an,ao,ah,aq,ai,ar) (t1,t2,t3,t4,t5,t6,t7)) many).2.1.2.2.1,.int (bR (aj,ak,an,ao,ah,aq,ai,ar) (t1,t2,t3,t4,t5,t6,t7) (aB (aj,ak,an,ao,ah,aq,ai,ar) (t1,t2,t3,t4,t5,t6,t7)) many).2.1.2.2.2.1,.int (bR (aj,ak,an,ao,ah,aq,ai,ar) (t1,t2,t3,t4,t5,t6,t7) (aB (aj,ak,an,ao,ah,aq,ai,ar) (t1,t2,t3,t4,t5,t6,t7)) many).2.1.2.2.2.2.1,.int (bR (aj,ak,an,ao,ah,aq,ai,ar) (t1,t2,t3,t4,t5,t6,t7) (aB (aj,ak,an,ao,ah,aq,ai,ar) (t1,t2,t3,t4,t5,t6,t7)) many).2.1.2.2.2.2.2.1,.int (bR (aj,ak,an,ao,ah,aq,ai,ar) (t1,t2,t3,t4,t5,t6,t7) (aB (aj,ak,an,ao,ah,aq,ai,ar) (t1,t2,t3,t4,t5,t6,t7)) many).2.1.2.2.2.2.2.2]),(.b 1006,.a (uI pD.zero)),(.b 1007,.a (uI sY.zero)),(.b 230000,.rs ae (aB (aj,ak,an,ao,ah,aq,ai,ar) (t1,t2,t3,t4,t5,t6,t7)))]) (fun y=>decide (many=bf.many (t1,t2,t3,t4,t5,t6,t7))=false∧(bR (aj,ak,an,ao,ah,aq,ai,ar) (t1,t2,t3,t4,t5,t6,t7) (aB (aj,ak,an,ao,ah,aq,ai,ar) (t1,t2,t3,t4,t5,t6,t7)) many).2.2=true) (xf 4 (J7 Tryz.f124)) ?_ (fun tail=>?_)
 ·rintro⟨⟩ ⟨(fB:decide (many=bf.many (t1,t2,t3,t4,t5,t6,t7))=false),(hz:(bR (aj,ak,an,ao,ah,aq,ai,ar) (t1,t2,t3,t4,t5,t6,t7) (aB (aj,ak,an,ao,ah,aq,ai,ar) (t1,t2,t3,t4,t5,t6,t7)) many).2.2=true)⟩
  have e:(cG (aj,ak,an,ao,ah,aq,ai,ar) (t1,t2,t3,t4,t5,t6,t7) many)=(dx ((aB (aj,ak,an,ao,ah,aq,ai,ar) (t1,t2,t3,t4,t5,t6,t7)).drop many.toNat) (bR (aj,ak,an,ao,ah,aq,ai,ar) (t1,t2,t3,t4,t5,t6,t7) (aB (aj,ak,an,ao,ah,aq,ai,ar) (t1,t2,t3,t4,t5,t6,t7)) many).1,(bR (aj,ak,an,ao,ah,aq,ai,ar) (t1,t2,t3,t4,t5,t6,t7) (aB (aj,ak,an,ao,ah,aq,ai,ar) (t1,t2,t3,t4,t5,t6,t7)) many).2.1,true):=aeU fB (by rw [hz];rfl)
  refine⟨fun w1=>⟨Sq3,[],rfl,?_⟩,fun w2=>?_⟩
  all_goals first|refine aw ?_|refine ax ?_|exact a8|(dsimp only [ez,fU,j4,k7,cK,dI,gQ];omega)|exact a7|skip
  ·exact absurd (show false=true from w1) Bool.noConfusion
  ·refine cO (l:=[(97,ez),(121,j4),(122,cK)]) (ex:=zT) (wr:=zF) (pt:=zF) ⟨l5,wR,gy,trivial⟩ [.s 6,.s 7,.s 9,.s 10,.s 11,.b 1011,.b 1006,.b 1007,.b 230000] (fun y:Int×ay=>[(.s 13,.int y.1),(.b 1010,.a (kZ 0 1 2 1000000001 1000000002 y.2)),(.b 0,.rs ab y.2.rows),(.b 1,.rs ag y.2.refs),(.b 2,.rs ag y.2.last),(.b 1000000001,.rs ae y.2.gone),(.b 1000000002,.rs ae y.2.dead)]) (fun y=>y.2.wf∧(0≤y.1∧y.1≤16)∧(y.2.gone.length≤1046005+y.1.toNat∧y.2.dead.length≤1046005+y.1.toNat)∧dx ((aB (aj,ak,an,ao,ah,aq,ai,ar) (t1,t2,t3,t4,t5,t6,t7)).drop y.1.toNat) y.2=dx ((aB (aj,ak,an,ao,ah,aq,ai,ar) (t1,t2,t3,t4,t5,t6,t7)).drop many.toNat) (bR (aj,ak,an,ao,ah,aq,ai,ar) (t1,t2,t3,t4,t5,t6,t7) (aB (aj,ak,an,ao,ah,aq,ai,ar) (t1,t2,t3,t4,t5,t6,t7)) many).1) (fun y=>16-y.1.toNat) (many,(bR (aj,ak,an,ao,ah,aq,ai,ar) (t1,t2,t3,t4,t5,t6,t7) (aB (aj,ak,an,ao,ah,aq,ai,ar) (t1,t2,t3,t4,t5,t6,t7)) many).1) [(1000000001,1000290000),(1000000002,1000290001)] ⟨hly.1,⟨CW,hm1⟩,⟨ZB0 hly.2.1 (by have:ah.length≤1046000:=hg;show ah.length+5≤1046005+many.toNat;omega),ZB0 hly.2.2.1 (by have:ai.length≤1046000:=hd;show ai.length+5≤1046005+many.toNat;omega)⟩,rfl⟩ dN ?_
   rintro⟨i,u⟩ ⟨(hu:u.wf),⟨(hi0:0≤i),(hi:i≤16)⟩,⟨(hug:u.gone.length≤1046005+i.toNat),(hud:u.dead.length≤1046005+i.toNat)⟩,(kg:dx ((aB (aj,ak,an,ao,ah,aq,ai,ar) (t1,t2,t3,t4,t5,t6,t7)).drop i.toNat) u=dx ((aB (aj,ak,an,ao,ah,aq,ai,ar) (t1,t2,t3,t4,t5,t6,t7)).drop many.toNat) (bR (aj,ak,an,ao,ah,aq,ai,ar) (t1,t2,t3,t4,t5,t6,t7) (aB (aj,ak,an,ao,ah,aq,ai,ar) (t1,t2,t3,t4,t5,t6,t7)) many).1)⟩
   have hia:=nW (oE hwo i.toNat)
   have cq:decide (i<((aB (aj,ak,an,ao,ah,aq,ai,ar) (t1,t2,t3,t4,t5,t6,t7)).length:Int))=true→i.toNat<(aB (aj,ak,an,ao,ah,aq,ai,ar) (t1,t2,t3,t4,t5,t6,t7)).length:=fun h=>by have:=aJ h;omega
   refine⟨fun w1=>⟨[.s 10,.b 1010],Sq43,rfl,Sq9,Sq44,rfl,Sq13,Sq45,rfl,[.s 44,.s 45],Sq46,rfl,⟨?_,?_⟩,[.s 46,.b 230000],Sq47,rfl,?_,[.s 43,.s 47,.b 0,.b 1,.b 2,.b 1000000001,.b 1000000002,.b 1000490001,.b 1000490000],[.s 48,.b 0,.b 1,.b 2,.b 1000000001,.b 1000000002,.b 1000490000,.b 1000490001],rfl,⟨⟨⟨aa,aa,aa,aa,aa,aa,aa,aa,aa⟩,⟨aa,aa,aa,aa,aa,aa⟩,aa⟩,⟨?_,?_,?_,?_,?_⟩,⟨?_,?_,?_⟩,?_,?_,?_,?_⟩,?_,fun x2 w3=>⟨[.s 10,.s 48,.b 1010],[.b 1010],rfl,⟨?_,?_⟩,?_⟩⟩,fun w4=>⟨[.s 10,.b 1010],Sq49,rfl,[.s 11,.b 1011],Sq50,rfl,[.s 6,.s 49,.b 1006],[.b 1006],rfl,[.s 7,.s 50,.b 1007],[.b 1007],rfl,[],Sq8,rfl,?_⟩⟩
   all_goals first|refine aw ?_|refine ax ?_|exact a8|(dsimp only [ez,fU,j4,k7,cK,dI,gQ];omega)|exact a7|exact cq w1|exact aJ w1|exact hu.n.1|exact hu.n.2.1|exact hu.n.2.2|exact hia.1|exact hia.2|exact ZB0 hug (by omega)|exact ZB0 hud (by omega)|skip
   ·have hil:=cq w1
    have mu:=aJ (p:=i<((aB (aj,ak,an,ao,ah,aq,ai,ar) (t1,t2,t3,t4,t5,t6,t7)).length:Int)) w1
    have I2:=pj u (nth ae (aB (aj,ak,an,ao,ah,aq,ai,ar) (t1,t2,t3,t4,t5,t6,t7)) i.toNat)
    have hnx:(i+1).toNat=i.toNat+1:=by omega
    refine⟨(i+1,cN u (nth ae (aB (aj,ak,an,ao,ah,aq,ai,ar) (t1,t2,t3,t4,t5,t6,t7)) i.toNat)),[(1000000001,1000490000),(1000000002,1000490001)],?_,?_,?_⟩
    rotate_right
    ·exact bW
    ·refine⟨qt hu,⟨by show 0≤i+1;omega,by show i+1≤16;omega⟩,⟨by show (cN u (nth ae (aB (aj,ak,an,ao,ah,aq,ai,ar) (t1,t2,t3,t4,t5,t6,t7)) i.toNat)).gone.length≤1046005+(i+1).toNat;omega,by show (cN u (nth ae (aB (aj,ak,an,ao,ah,aq,ai,ar) (t1,t2,t3,t4,t5,t6,t7)) i.toNat)).dead.length≤1046005+(i+1).toNat;omega⟩,?_⟩
     show dx ((aB (aj,ak,an,ao,ah,aq,ai,ar) (t1,t2,t3,t4,t5,t6,t7)).drop (i+1).toNat) _=_
     rw [←kg,bX (ek:=ae) hil,hnx];rfl
    ·show 16-(i+1).toNat<16-i.toNat;omega
   ·have e2:dx ((aB (aj,ak,an,ao,ah,aq,ai,ar) (t1,t2,t3,t4,t5,t6,t7)).drop many.toNat) (bR (aj,ak,an,ao,ah,aq,ai,ar) (t1,t2,t3,t4,t5,t6,t7) (aB (aj,ak,an,ao,ah,aq,ai,ar) (t1,t2,t3,t4,t5,t6,t7)) many).1=u:=by
     rw [←kg,ZB3 (by have:=aA (p:=i<((aB (aj,ak,an,ao,ah,aq,ai,ar) (t1,t2,t3,t4,t5,t6,t7)).length:Int)) w4;omega)];rfl
    have e3:(cG (aj,ak,an,ao,ah,aq,ai,ar) (t1,t2,t3,t4,t5,t6,t7) many)=(u,(bR (aj,ak,an,ao,ah,aq,ai,ar) (t1,t2,t3,t4,t5,t6,t7) (aB (aj,ak,an,ao,ah,aq,ai,ar) (t1,t2,t3,t4,t5,t6,t7)) many).2.1,true):=by rw [e,e2]
    refine⟨[1000000001,1000000002],[],_,_,_,rfl,az,true,0,(by show true=(cG (aj,ak,an,ao,ah,aq,ai,ar) (t1,t2,t3,t4,t5,t6,t7) many).2.2;rw [e3]),?_,?_,rfl⟩
    ·(show _=mJ (aj,ak,an,ao,ah,aq,ai,ar) (t1,t2,t3,t4,t5,t6,t7) many true);unfold mJ;first|(rw [e3];rfl)|rfl
    ·(show _=ql (aj,ak,an,ao,ah,aq,ai,ar) (t1,t2,t3,t4,t5,t6,t7) many true);unfold ql;first|(rw [e3];rfl)|rfl
 ·refine⟨fun w1=>⟨[.s 3,.b 1003],Sq18,rfl,[.s 4,.b 1004],Sq19,rfl,[.s 6,.s 18,.b 1006],[.b 1006],rfl,[.s 7,.s 19,.b 1007],[.b 1007],rfl,[],Sq8,rfl,?_⟩,fun w2=>⟨⟨⟨⟨⟨?_,?_⟩,⟨?_,?_⟩,⟨?_,?_⟩,aa,⟨?_,?_⟩,aa,⟨?_,?_⟩,aa,aa⟩,⟨aa,aa,aa,aa,aa,aa,aa,aa⟩,aa⟩,?_,?_⟩,fun x3 w4=>⟨⟨⟨⟨aa,aa,aa,aa,aa,aa,aa,aa,aa⟩,⟨aa,aa,aa,aa,aa,aa,aa,aa⟩,⟨?_,?_⟩,aa,aa⟩,⟨?_,?_,?_,?_,?_⟩,?_,?_,?_,?_,?_,?_,?_⟩,fun |false=>fun w5=>?_ |true=>fun w6=>?_⟩⟩⟩
  all_goals first|refine aw ?_|refine ax ?_|exact a8|(dsimp only [ez,fU,j4,k7,cK,dI,gQ];omega)|exact a7|exact oP|exact oP.rd|exact sV|exact hwl|exact ZB0 hg (by decide)|exact ZB0 hd (by decide)|skip
  ·have e:(cG (aj,ak,an,ao,ah,aq,ai,ar) (t1,t2,t3,t4,t5,t6,t7) many)=((aj,ak,an,ao,ah,aq,ai,ar),(t1,t2,t3,t4,t5,t6,t7),true):=aeW w1
   refine⟨[3,4],[],_,_,_,rfl,az,true,0,(by show true=(cG (aj,ak,an,ao,ah,aq,ai,ar) (t1,t2,t3,t4,t5,t6,t7) many).2.2;rw [e]),?_,?_,rfl⟩
   ·(show _=mJ (aj,ak,an,ao,ah,aq,ai,ar) (t1,t2,t3,t4,t5,t6,t7) many true);unfold mJ;first|(rw [e];rfl)|rfl
   ·(show _=ql (aj,ak,an,ao,ah,aq,ai,ar) (t1,t2,t3,t4,t5,t6,t7) many true);unfold ql;first|(rw [e];rfl)|rfl
  ·have hz:(bR (aj,ak,an,ao,ah,aq,ai,ar) (t1,t2,t3,t4,t5,t6,t7) (aB (aj,ak,an,ao,ah,aq,ai,ar) (t1,t2,t3,t4,t5,t6,t7)) many).2.2=false:=(show false=(bR (aj,ak,an,ao,ah,aq,ai,ar) (t1,t2,t3,t4,t5,t6,t7) (aB (aj,ak,an,ao,ah,aq,ai,ar) (t1,t2,t3,t4,t5,t6,t7)) many).2.2 from w5).symm
   refine joinTail aiu () [] (⟨w2,hz⟩) ?_
   repeat' (first|exact trivial|rfl|exact rfl|exact fP ZA0.symm|apply And.intro)
  ·have hz:(bR (aj,ak,an,ao,ah,aq,ai,ar) (t1,t2,t3,t4,t5,t6,t7) (aB (aj,ak,an,ao,ah,aq,ai,ar) (t1,t2,t3,t4,t5,t6,t7)) many).2.2=true:=(show true=(bR (aj,ak,an,ao,ah,aq,ai,ar) (t1,t2,t3,t4,t5,t6,t7) (aB (aj,ak,an,ao,ah,aq,ai,ar) (t1,t2,t3,t4,t5,t6,t7)) many).2.2 from w6).symm
   refine joinTail tail ((())) [] ((⟨w2,hz⟩)) ?_
   repeat' (first|exact trivial|rfl|exact rfl|exact fP ZA0.symm|apply And.intro)
end GL
namespace GL
theorem fq {s:ay}{t:bf}(h:t.ok):(bq s t).length=t.many.toNat:=by
 unfold bq sZ
 rw [ZG2,ZC0,gi h.rd]
 have:=h.m0;have:=h.m1;omega
theorem xQ {s:ay}{t:bf}(h:t.ok) {k:Nat}(hk:k<t.many.toNat):nth ab (bq s t) k=getM s t k:=by
 have h1:=h.m1
 have hl:=gi (s:=s) h.rd
 unfold bq sZ getM nth
 rw [List.getElem?_map,List.getElem?_take_of_lt hk,ZB1 (by omega)]
 rfl
theorem wz {s:ay}{t:bf}(h:s.rd):∀x∈bq s t,x.size≤1000000:=by
 intro x hx
 unfold bq sZ at hx
 obtain⟨p,_,rfl⟩:=List.mem_map.1 hx
 exact zr h
theorem WO {l:List ByteArray}(h:∀x∈l,x.size≤1000000) (k:Nat):(nth ab l k).size≤1000000:=by
 by_cases hk:k<l.length
 ·exact h _ (bS (ek:=ab) hk)
 ·unfold nth;rw [ZD8 (by omega)];exact ZA7 _
def cL (s:ay) (t:bf) (k:Int):fv×Bool:=bif !(iB k 0 (t.many-1)) then (nC,false) else bA (getM s t k.toNat)
theorem aep {s:ay}{t:bf}{k:Int}(h:(!(iB k 0 (t.many-1)))=true):cL s t k=(nC,false):=by unfold cL;rw [h];rfl
theorem aeo {s:ay}{t:bf}{k:Int}(h:(!(iB k 0 (t.many-1)))=false):cL s t k=bA (getM s t k.toNat):=by unfold cL;rw [h];rfl
def kL (S:ay) (t:bf) (k:Int):Prop:=S.rd∧bf.ok t
def pN (S:ay) (t:bf) (k:Int):AV:=.t [ndA (cL S t k).1,.s (.q (cL S t k).2)]
def abf (S:ay) (t:bf) (k:Int):List AV:=[]
def jG:ct where
 A:=[.a xy,.a [.int,.int,.int,.int,.int,.int,.int],.s .int]
 B:=[]
 pre:=fun x b=>kL (x.1) (x.2.1) (x.2.2)
 r:=fun x b _=>pN (x.1) (x.2.1) (x.2.2)
 o:=fun x b _=>abf (x.1) (x.2.1) (x.2.2)
theorem vC:Has Tryz.prog 257 jG:=by
 refine Has.fu zT zF zF (l:=[(95,dE),(273,PV),(129,nk)]) ⟨iz,afS,CT,aa⟩ Tryz.func257 ?_
 rintro⟨⟨(aj:List ByteArray),(ak:List Int),(an:List Int),(ao:Int),(ah:List Pt),(aq:Int),(ai:List Pt),(ar:Bool)⟩,⟨(t1:Int),(t2:Int),(t3:Int),(t4:Int),(t5:Int),(t6:Int),(t7:Int)⟩,(k:Int)⟩ _ (hp:kL (aj,ak,an,ao,ah,aq,ai,ar) (t1,t2,t3,t4,t5,t6,t7) k)
 show vc _ _ _ _ (entry [.a [.vz ab aj,.vz ag ak,.vz ag an,.int ao,.vz ae ah,.int aq,.vz ae ai,.q ar],.a [.int t1,.int t2,.int t3,.int t4,.int t5,.int t6,.int t7],.int k] []) _
 obtain⟨dG,cH⟩:=hp
 have dG:ay.rd (aj,ak,an,ao,ah,aq,ai,ar):=dG
 have cH:bf.ok (t1,t2,t3,t4,t5,t6,t7):=cH
 have h0:0≤t7:=cH.m0
 have h1:t7≤16:=cH.m1
 have cq:(!(iB k 0 (t7-1)))=false→0≤k∧k<16:=fun h=>by have:=cD.1 (oJ h);omega
 have dj:(getM (aj,ak,an,ao,ah,aq,ai,ar) (t1,t2,t3,t4,t5,t6,t7) k.toNat).size≤1000000:=zr dG
 refine⟨⟨?_,?_⟩,⟨⟨aa,aa,aa,aa⟩,aa⟩,fun x1 w2=>⟨fun w3=>?_,fun w4=>⟨⟨⟨⟨aa,aa,aa,aa,aa,aa,aa,aa,aa⟩,⟨aa,aa,aa,aa,aa,aa,aa,aa⟩,aa,aa⟩,?_,?_,?_,?_⟩,fun x5 w6=>⟨⟨⟨aa,aa⟩,?_⟩,fun x7 w8=>?_⟩⟩⟩⟩
 all_goals first|refine aw ?_|refine ax ?_|exact a8|(dsimp only [PV,B3,nk,lj];omega)|exact a7|exact dG|exact cH.rd|exact dj|exact (cq w4).1|exact (cq w4).2|skip
 ·refine⟨[],[],_,_,_,rfl,az,(),aa,?_,?_,rfl⟩
  ·(show _=pN (aj,ak,an,ao,ah,aq,ai,ar) (t1,t2,t3,t4,t5,t6,t7) k);unfold pN;first|(rw [aep (s:=(aj,ak,an,ao,ah,aq,ai,ar)) (t:=(t1,t2,t3,t4,t5,t6,t7)) w3];rfl)|rfl
  ·rfl
 ·refine⟨[],[],_,_,_,rfl,az,(),aa,?_,?_,rfl⟩
  ·(show _=pN (aj,ak,an,ao,ah,aq,ai,ar) (t1,t2,t3,t4,t5,t6,t7) k);unfold pN;first|(rw [aeo (s:=(aj,ak,an,ao,ah,aq,ai,ar)) (t:=(t1,t2,t3,t4,t5,t6,t7)) w4];rfl)|rfl
  ·rfl
def ja (mm:Int):List ByteArray→Nat→Int→Int
 |[],_,n=>n
 |x::l,k,n=>ja mm l (k+1) (bif decide ((k:Int)≠mm)&&decide (x≠⟨#[]⟩) then (k:Int)+1 else n)
theorem afO {mm:Int}{x:ByteArray}{l:List ByteArray}{k:Nat}{n:Int}(h:decide ((k:Int)≠mm)=true) (h2:decide (x≠⟨#[]⟩)=true):ja mm (x::l) k n=ja mm l (k+1) ((k:Int)+1):=by rw [ja,h,h2];rfl
theorem adJ {mm:Int}{x:ByteArray}{l:List ByteArray}{k:Nat}{n:Int}(h:decide ((k:Int)≠mm)=true) (h2:decide (x≠⟨#[]⟩)=false):ja mm (x::l) k n=ja mm l (k+1) n:=by rw [ja,h,h2];rfl
theorem adI {mm:Int}{x:ByteArray}{l:List ByteArray}{k:Nat}{n:Int}(h:decide ((k:Int)≠mm)=false):ja mm (x::l) k n=ja mm l (k+1) n:=by rw [ja,h];rfl
def mA (s:ay) (t:bf) (mm:Int):Int:=ja mm (bq s t) 0 0
def ra (S:ay) (t:bf) (mm:Int):Prop:=S.rd∧bf.ok t
def u9 (S:ay) (t:bf) (mm:Int):AV:=.s (.int (mA S t mm))
def V4 (S:ay) (t:bf) (mm:Int):List AV:=[]
def sO:ct where
 A:=[.a xy,.a [.int,.int,.int,.int,.int,.int,.int],.s .int]
 B:=[]
 pre:=fun x b=>ra (x.1) (x.2.1) (x.2.2)
 r:=fun x b _=>u9 (x.1) (x.2.1) (x.2.2)
 o:=fun x b _=>V4 (x.1) (x.2.1) (x.2.2)
theorem MC:Has Tryz.prog 258 sO:=by
 refine Has.fu zT zF zF (l:=[(90,df)]) ⟨iS,aa⟩ Tryz.func258 ?_
 rintro⟨⟨(aj:List ByteArray),(ak:List Int),(an:List Int),(ao:Int),(ah:List Pt),(aq:Int),(ai:List Pt),(ar:Bool)⟩,⟨(t1:Int),(t2:Int),(t3:Int),(t4:Int),(t5:Int),(t6:Int),(t7:Int)⟩,(mm:Int)⟩ _ (hp:ra (aj,ak,an,ao,ah,aq,ai,ar) (t1,t2,t3,t4,t5,t6,t7) mm)
 show vc _ _ _ _ (entry [.a [.vz ab aj,.vz ag ak,.vz ag an,.int ao,.vz ae ah,.int aq,.vz ae ai,.q ar],.a [.int t1,.int t2,.int t3,.int t4,.int t5,.int t6,.int t7],.int mm] []) _
 obtain⟨dG,cH⟩:=hp
 have dG:ay.rd (aj,ak,an,ao,ah,aq,ai,ar):=dG
 have cH:bf.ok (t1,t2,t3,t4,t5,t6,t7):=cH
 have h0:0≤t7:=cH.m0
 have h1:t7≤16:=cH.m1
 have hl:(bq (aj,ak,an,ao,ah,aq,ai,ar) (t1,t2,t3,t4,t5,t6,t7)).length=t7.toNat:=fq cH
 refine⟨⟨⟨⟨aa,aa,aa,aa,aa,aa,aa,aa,aa⟩,⟨aa,aa,aa,aa,aa,aa,aa,aa⟩,aa⟩,?_,?_,?_,?_⟩,fun x1 w2=>?_⟩
 all_goals first|refine aw ?_|refine ax ?_|exact a8|(dsimp only [df,eG];omega)|exact a7|exact dG|exact cH.rd|skip
 refine cO (l:=[(90,df)]) (ex:=zT) (wr:=zF) (pt:=zF) ⟨iS,aa⟩ [.s 2,.s 3,.s 4,.b 1003,.b 1004,.s 8,.b 130000] (fun y:Nat×Int=>[(.s 7,.int y.2),(.s 9,.int y.1)]) (fun y=>(y.1:Int)≤t7∧ja mm ((bq (aj,ak,an,ao,ah,aq,ai,ar) (t1,t2,t3,t4,t5,t6,t7)).drop y.1) y.1 y.2=mA (aj,ak,an,ao,ah,aq,ai,ar) (t1,t2,t3,t4,t5,t6,t7) mm) (fun y=>t7.toNat-y.1) (0,0) [] ⟨h0,rfl⟩ dN ?_
 rintro⟨i,n⟩ ⟨(hi:(i:Int)≤t7),(hr:ja mm ((bq (aj,ak,an,ao,ah,aq,ai,ar) (t1,t2,t3,t4,t5,t6,t7)).drop i) i n=mA (aj,ak,an,ao,ah,aq,ai,ar) (t1,t2,t3,t4,t5,t6,t7) mm)⟩
 have bV:decide ((i:Int)<t7)=true→i<(bq (aj,ak,an,ao,ah,aq,ai,ar) (t1,t2,t3,t4,t5,t6,t7)).length:=fun h=>by have:=aJ h;omega
 refine⟨fun w1=>⟨aa,fun w2=>⟨⟨?_,?_⟩,?_,fun w3=>⟨⟨?_,?_⟩,⟨?_,?_⟩,?_⟩,fun w4=>⟨⟨?_,?_⟩,?_⟩⟩,fun w5=>⟨⟨?_,?_⟩,?_⟩⟩,fun w6=>?_⟩
 all_goals first|refine aw ?_|refine ax ?_|exact a8|(dsimp only [df,eG];omega)|exact a7|exact bV w1|skip
 ·have mu:=bV w1
  have ad7:=aJ (p:=(i:Int)<t7) w1
  refine⟨(i+1,(i:Int)+1),[],?_,?_,?_⟩
  rotate_right
  ·exact bW
  ·exact⟨by show ((i+1:Nat):Int)≤t7;omega,by rw [←hr,bX (ek:=ab) mu,afO w2 (show decide (nth ab (bq (aj,ak,an,ao,ah,aq,ai,ar) (t1,t2,t3,t4,t5,t6,t7)) i≠⟨#[]⟩)=true from w3)]⟩
  ·show t7.toNat-(i+1)<t7.toNat-i;omega
 ·have mu:=bV w1
  have ad7:=aJ (p:=(i:Int)<t7) w1
  refine⟨(i+1,n),[],?_,?_,?_⟩
  rotate_right
  ·exact bW
  ·exact⟨by show ((i+1:Nat):Int)≤t7;omega,by rw [←hr,bX (ek:=ab) mu,adJ w2 (show decide (nth ab (bq (aj,ak,an,ao,ah,aq,ai,ar) (t1,t2,t3,t4,t5,t6,t7)) i≠⟨#[]⟩)=false from w4)]⟩
  ·show t7.toNat-(i+1)<t7.toNat-i;omega
 ·have mu:=bV w1
  have ad7:=aJ (p:=(i:Int)<t7) w1
  refine⟨(i+1,n),[],?_,?_,?_⟩
  rotate_right
  ·exact bW
  ·exact⟨by show ((i+1:Nat):Int)≤t7;omega,by rw [←hr,bX (ek:=ab) mu,adI w5]⟩
  ·show t7.toNat-(i+1)<t7.toNat-i;omega
 ·have e:mA (aj,ak,an,ao,ah,aq,ai,ar) (t1,t2,t3,t4,t5,t6,t7) mm=n:=by rw [←hr,ZB3 (by have:=aA (p:=(i:Int)<t7) w6;omega)];rfl
  refine⟨[],[],_,_,_,rfl,az,(),aa,?_,?_,rfl⟩
  ·(show _=u9 (aj,ak,an,ao,ah,aq,ai,ar) (t1,t2,t3,t4,t5,t6,t7) mm);unfold u9;first|(rw [e];rfl)|rfl
  ·rfl
def frF:Nat→List ByteArray→Nat→Int
 |0,_,_=> -1
 |f+1,l,k=>bif decide ((k:Int)≥(l.length:Int))||decide (nth ab l k=⟨#[]⟩) then (k:Int) else frF f l (k+1)
theorem agT {f:Nat}{l:List ByteArray}{k:Nat}(h:decide ((k:Int)≥(l.length:Int))=true):frF (f+1) l k=(k:Int):=by rw [frF,h];rfl
theorem agS {f:Nat}{l:List ByteArray}{k:Nat}(h:decide (nth ab l k=⟨#[]⟩)=true):frF (f+1) l k=(k:Int):=by rw [frF,h,ZC4];rfl
theorem agR {f:Nat}{l:List ByteArray}{k:Nat}(h:decide ((k:Int)≥(l.length:Int))=false) (h2:decide (nth ab l k=⟨#[]⟩)=false):frF (f+1) l k=frF f l (k+1):=by rw [frF,h,h2];rfl
def xt (s:ay) (t:bf):Int:=frF 16 (bq s t) 0
def vh (S:ay) (t:bf):Prop:=S.rd∧bf.ok t
def jh (S:ay) (t:bf):AV:=.s (.int (xt S t))
def V5 (S:ay) (t:bf):List AV:=[]
def DD:ct where
 A:=[.a xy,.a [.int,.int,.int,.int,.int,.int,.int]]
 B:=[]
 pre:=fun x b=>vh (x.1) (x.2)
 r:=fun x b _=>jh (x.1) (x.2)
 o:=fun x b _=>V5 (x.1) (x.2)
theorem abG:Has Tryz.prog 87 DD:=by
 refine Has.fu zT zF zF (l:=[(90,df)]) ⟨iS,aa⟩ Tryz.func87 ?_
 rintro⟨⟨(aj:List ByteArray),(ak:List Int),(an:List Int),(ao:Int),(ah:List Pt),(aq:Int),(ai:List Pt),(ar:Bool)⟩,⟨(t1:Int),(t2:Int),(t3:Int),(t4:Int),(t5:Int),(t6:Int),(t7:Int)⟩⟩ _ (hp:vh (aj,ak,an,ao,ah,aq,ai,ar) (t1,t2,t3,t4,t5,t6,t7))
 show vc _ _ _ _ (entry [.a [.vz ab aj,.vz ag ak,.vz ag an,.int ao,.vz ae ah,.int aq,.vz ae ai,.q ar],.a [.int t1,.int t2,.int t3,.int t4,.int t5,.int t6,.int t7]] []) _
 obtain⟨dG,cH⟩:=hp
 have dG:ay.rd (aj,ak,an,ao,ah,aq,ai,ar):=dG
 have cH:bf.ok (t1,t2,t3,t4,t5,t6,t7):=cH
 have h0:0≤t7:=cH.m0
 have h1:t7≤16:=cH.m1
 have hl:(bq (aj,ak,an,ao,ah,aq,ai,ar) (t1,t2,t3,t4,t5,t6,t7)).length=t7.toNat:=fq cH
 refine⟨⟨⟨⟨aa,aa,aa,aa,aa,aa,aa,aa,aa⟩,⟨aa,aa,aa,aa,aa,aa,aa,aa⟩,aa⟩,?_,?_,?_,?_⟩,fun x1 w2=>?_⟩
 all_goals first|refine aw ?_|refine ax ?_|exact a8|(dsimp only [df,eG];omega)|exact a7|exact dG|exact cH.rd|skip
 refine cO (l:=[(90,df)]) (ex:=zT) (wr:=zF) (pt:=zF) ⟨iS,aa⟩ [.s 2,.s 3,.b 1002,.b 1003,.s 5,.b 100000] (fun y:Nat×Nat=>[(.s 6,.int y.1)]) (fun y=>y.1+y.2=16∧frF y.2 (bq (aj,ak,an,ao,ah,aq,ai,ar) (t1,t2,t3,t4,t5,t6,t7)) y.1=xt (aj,ak,an,ao,ah,aq,ai,ar) (t1,t2,t3,t4,t5,t6,t7)) (fun y=>y.2) (0,16) [] ⟨rfl,rfl⟩ dN ?_
 rintro⟨i,f⟩ ⟨(hi:i+f=16),(hr:frF f (bq (aj,ak,an,ao,ah,aq,ai,ar) (t1,t2,t3,t4,t5,t6,t7)) i=xt (aj,ak,an,ao,ah,aq,ai,ar) (t1,t2,t3,t4,t5,t6,t7))⟩
 have bV:decide ((i:Int)≥((bq (aj,ak,an,ao,ah,aq,ai,ar) (t1,t2,t3,t4,t5,t6,t7)).length:Int))=false→i<(bq (aj,ak,an,ao,ah,aq,ai,ar) (t1,t2,t3,t4,t5,t6,t7)).length:=fun h=>by have:=aA h;omega
 refine⟨fun w1=>⟨aa,fun w2=>?_,fun w3=>⟨⟨?_,?_⟩,?_,fun w4=>?_,fun w5=>⟨⟨?_,?_⟩,?_⟩⟩⟩,fun w6=>?_⟩
 all_goals first|refine aw ?_|refine ax ?_|exact a8|(dsimp only [df,eG];omega)|exact a7|exact bV w3|(show (i:Int)<((bq (aj,ak,an,ao,ah,aq,ai,ar) (t1,t2,t3,t4,t5,t6,t7)).length:Int);have:=bV w3;omega)|skip
 ·obtain⟨g,rfl⟩:∃g,f=g+1:=⟨f-1,by have:=aJ (p:=(i:Int)<16) w1;omega⟩
  have e:xt (aj,ak,an,ao,ah,aq,ai,ar) (t1,t2,t3,t4,t5,t6,t7)=(i:Int):=by rw [←hr,agT (show decide ((i:Int)≥((bq (aj,ak,an,ao,ah,aq,ai,ar) (t1,t2,t3,t4,t5,t6,t7)).length:Int))=true from w2)]
  refine⟨[],[],_,_,_,rfl,az,(),aa,?_,?_,rfl⟩
  ·(show _=jh (aj,ak,an,ao,ah,aq,ai,ar) (t1,t2,t3,t4,t5,t6,t7));unfold jh;first|(rw [e];rfl)|rfl
  ·rfl
 ·obtain⟨g,rfl⟩:∃g,f=g+1:=⟨f-1,by have:=aJ (p:=(i:Int)<16) w1;omega⟩
  have e:xt (aj,ak,an,ao,ah,aq,ai,ar) (t1,t2,t3,t4,t5,t6,t7)=(i:Int):=by rw [←hr,agS (show decide (nth ab (bq (aj,ak,an,ao,ah,aq,ai,ar) (t1,t2,t3,t4,t5,t6,t7)) i=⟨#[]⟩)=true from w4)]
  refine⟨[],[],_,_,_,rfl,az,(),aa,?_,?_,rfl⟩
  ·(show _=jh (aj,ak,an,ao,ah,aq,ai,ar) (t1,t2,t3,t4,t5,t6,t7));unfold jh;first|(rw [e];rfl)|rfl
  ·rfl
 ·obtain⟨g,rfl⟩:∃g,f=g+1:=⟨f-1,by have:=aJ (p:=(i:Int)<16) w1;omega⟩
  refine⟨(i+1,g),[],?_,?_,?_⟩
  rotate_right
  ·exact bW
  ·exact⟨by show i+1+g=16;omega,by rw [←hr];exact (agR (show decide ((i:Int)≥((bq (aj,ak,an,ao,ah,aq,ai,ar) (t1,t2,t3,t4,t5,t6,t7)).length:Int))=false from w3) (show decide (nth ab (bq (aj,ak,an,ao,ah,aq,ai,ar) (t1,t2,t3,t4,t5,t6,t7)) i=⟨#[]⟩)=false from w5)).symm⟩
  ·exact ZD9 g
 ·have hf:f=0:=by have:=aA (p:=(i:Int)<16) w6;omega
  subst hf
  have e:xt (aj,ak,an,ao,ah,aq,ai,ar) (t1,t2,t3,t4,t5,t6,t7)= -1:=by rw [←hr];rfl
  refine⟨[],[],_,_,_,rfl,az,(),aa,?_,?_,rfl⟩
  ·(show _=jh (aj,ak,an,ao,ah,aq,ai,ar) (t1,t2,t3,t4,t5,t6,t7));unfold jh;first|(rw [e];rfl)|rfl
  ·rfl
def bgB (many:Int) (x:ByteArray) (k:Nat):Bool:=decide (x=⟨#[]⟩)||(decide ((k:Int)+1<many)&&decide ((x.size:Int)≠128))
def bgF (many:Int):List ByteArray→Nat→ByteArray→ByteArray×Bool
 |[],_,out=>(out,true)
 |x::l,k,out=>bif bgB many x k then (⟨#[]⟩,false) else bgF many l (k+1) (out++x)
theorem ajO {many:Int}{x:ByteArray}{l:List ByteArray}{k:Nat}{out:ByteArray}(h:decide (x=⟨#[]⟩)=true):bgF many (x::l) k out=(⟨#[]⟩,false):=by rw [bgF,bgB,h];rfl
theorem ajN {many:Int}{x:ByteArray}{l:List ByteArray}{k:Nat}{out:ByteArray}(h:decide ((k:Int)+1<many)=true) (h2:decide ((x.size:Int)≠128)=true):bgF many (x::l) k out=(⟨#[]⟩,false):=by rw [bgF,bgB,h,h2,Bool.and_true,ZC4];rfl
theorem ajM {many:Int}{x:ByteArray}{l:List ByteArray}{k:Nat}{out:ByteArray}(h0:decide (x=⟨#[]⟩)=false) (h:decide ((k:Int)+1<many)=true) (h2:decide ((x.size:Int)≠128)=false):bgF many (x::l) k out=bgF many l (k+1) (out++x):=by rw [bgF,bgB,h0,h,h2];rfl
theorem ajL {many:Int}{x:ByteArray}{l:List ByteArray}{k:Nat}{out:ByteArray}(h0:decide (x=⟨#[]⟩)=false) (h:decide ((k:Int)+1<many)=false):bgF many (x::l) k out=bgF many l (k+1) (out++x):=by rw [bgF,bgB,h0,h];rfl
def c8 (s:ay) (t:bf):ByteArray×Bool:=bgF t.many (bq s t) 0 ⟨#[]⟩
def B2 (S:ay) (t:bf):Prop:=S.rd∧bf.ok t
def mH (S:ay) (t:bf):AV:=.t [.s (.str (c8 S t).1),.s (.q (c8 S t).2)]
def acX (S:ay) (t:bf):List AV:=[]
def PU:ct where
 A:=[.a xy,.a [.int,.int,.int,.int,.int,.int,.int]]
 B:=[]
 pre:=fun x b=>B2 (x.1) (x.2)
 r:=fun x b _=>mH (x.1) (x.2)
 o:=fun x b _=>acX (x.1) (x.2)
theorem afR:Has Tryz.prog 125 PU:=by
 refine Has.fu zT zF zF (l:=[(90,df)]) ⟨iS,aa⟩ Tryz.func125 ?_
 rintro⟨⟨(aj:List ByteArray),(ak:List Int),(an:List Int),(ao:Int),(ah:List Pt),(aq:Int),(ai:List Pt),(ar:Bool)⟩,⟨(t1:Int),(t2:Int),(t3:Int),(t4:Int),(t5:Int),(t6:Int),(t7:Int)⟩⟩ _ (hp:B2 (aj,ak,an,ao,ah,aq,ai,ar) (t1,t2,t3,t4,t5,t6,t7))
 show vc _ _ _ _ (entry [.a [.vz ab aj,.vz ag ak,.vz ag an,.int ao,.vz ae ah,.int aq,.vz ae ai,.q ar],.a [.int t1,.int t2,.int t3,.int t4,.int t5,.int t6,.int t7]] []) _
 obtain⟨dG,cH⟩:=hp
 have dG:ay.rd (aj,ak,an,ao,ah,aq,ai,ar):=dG
 have cH:bf.ok (t1,t2,t3,t4,t5,t6,t7):=cH
 have h0:0≤t7:=cH.m0
 have h1:t7≤16:=cH.m1
 have hl:(bq (aj,ak,an,ao,ah,aq,ai,ar) (t1,t2,t3,t4,t5,t6,t7)).length=t7.toNat:=fq cH
 refine⟨⟨⟨⟨aa,aa,aa,aa,aa,aa,aa,aa,aa⟩,⟨aa,aa,aa,aa,aa,aa,aa,aa⟩,aa⟩,?_,?_,?_,?_⟩,fun x1 w2=>?_⟩
 all_goals first|refine aw ?_|refine ax ?_|exact a8|(dsimp only [df,eG];omega)|exact a7|exact dG|exact cH.rd|skip
 refine cO (l:=[(90,df)]) (ex:=zT) (wr:=zF) (pt:=zF) ⟨iS,aa⟩ [.s 2,.s 3,.b 1002,.b 1003,.s 7,.b 130000] (fun y:Nat×ByteArray=>[(.s 6,.str y.2),(.s 8,.int y.1)]) (fun y=>(y.1:Int)≤t7∧y.2.size≤1000000*y.1∧bgF t7 ((bq (aj,ak,an,ao,ah,aq,ai,ar) (t1,t2,t3,t4,t5,t6,t7)).drop y.1) y.1 y.2=c8 (aj,ak,an,ao,ah,aq,ai,ar) (t1,t2,t3,t4,t5,t6,t7)) (fun y=>t7.toNat-y.1) (0,⟨#[]⟩) [] ⟨h0,ZA7 _,rfl⟩ dN ?_
 rintro⟨i,out⟩ ⟨(hi:(i:Int)≤t7),(ho:out.size≤1000000*i),(hr:bgF t7 ((bq (aj,ak,an,ao,ah,aq,ai,ar) (t1,t2,t3,t4,t5,t6,t7)).drop i) i out=c8 (aj,ak,an,ao,ah,aq,ai,ar) (t1,t2,t3,t4,t5,t6,t7))⟩
 have bV:decide ((i:Int)<t7)=true→i<(bq (aj,ak,an,ao,ah,aq,ai,ar) (t1,t2,t3,t4,t5,t6,t7)).length:=fun h=>by have:=aJ h;omega
 have dj:=WO (wz (s:=(aj,ak,an,ao,ah,aq,ai,ar)) (t:=(t1,t2,t3,t4,t5,t6,t7)) dG) i
 refine⟨fun w1=>⟨⟨?_,?_⟩,?_,aa,fun w2=>?_,fun w3=>⟨⟨?_,?_⟩,aa,fun w4=>⟨fun w5=>?_,fun w6=>⟨?_,⟨?_,?_⟩,?_⟩⟩,fun w7=>⟨?_,⟨?_,?_⟩,?_⟩⟩⟩,fun w8=>?_⟩
 all_goals first|refine aw ?_|refine ax ?_|exact a8|(dsimp only [df,eG];omega)|exact a7|exact bV w1|(unfold imax;dsimp only;omega)|skip
 ·have mu:=bV w1
  have e:c8 (aj,ak,an,ao,ah,aq,ai,ar) (t1,t2,t3,t4,t5,t6,t7)=(⟨#[]⟩,false):=by rw [←hr,bX (ek:=ab) mu,ajO (show decide ((nth ab (bq (aj,ak,an,ao,ah,aq,ai,ar) (t1,t2,t3,t4,t5,t6,t7)) i)=⟨#[]⟩)=true from w2)]
  refine⟨[],[],_,_,_,rfl,az,(),aa,?_,?_,rfl⟩
  ·(show _=mH (aj,ak,an,ao,ah,aq,ai,ar) (t1,t2,t3,t4,t5,t6,t7));unfold mH;first|(rw [e];rfl)|rfl
  ·rfl
 ·have mu:=bV w1
  have e:c8 (aj,ak,an,ao,ah,aq,ai,ar) (t1,t2,t3,t4,t5,t6,t7)=(⟨#[]⟩,false):=by rw [←hr,bX (ek:=ab) mu,ajN w4 (show decide (((nth ab (bq (aj,ak,an,ao,ah,aq,ai,ar) (t1,t2,t3,t4,t5,t6,t7)) i).size:Int)≠128)=true from w5)]
  refine⟨[],[],_,_,_,rfl,az,(),aa,?_,?_,rfl⟩
  ·(show _=mH (aj,ak,an,ao,ah,aq,ai,ar) (t1,t2,t3,t4,t5,t6,t7));unfold mH;first|(rw [e];rfl)|rfl
  ·rfl
 ·have mu:=bV w1
  have ad7:=aJ (p:=(i:Int)<t7) w1
  refine⟨(i+1,out++(nth ab (bq (aj,ak,an,ao,ah,aq,ai,ar) (t1,t2,t3,t4,t5,t6,t7)) i)),[],?_,?_,?_⟩
  rotate_right
  ·exact bW
  ·refine⟨by show ((i+1:Nat):Int)≤t7;omega,by show (out++(nth ab (bq (aj,ak,an,ao,ah,aq,ai,ar) (t1,t2,t3,t4,t5,t6,t7)) i)).size≤1000000*(i+1);rw [ZB2];omega,?_⟩
   rw [←hr,bX (ek:=ab) mu,ajM (show decide ((nth ab (bq (aj,ak,an,ao,ah,aq,ai,ar) (t1,t2,t3,t4,t5,t6,t7)) i)=⟨#[]⟩)=false from w3) w4 (show decide (((nth ab (bq (aj,ak,an,ao,ah,aq,ai,ar) (t1,t2,t3,t4,t5,t6,t7)) i).size:Int)≠128)=false from w6)]
  ·show t7.toNat-(i+1)<t7.toNat-i;omega
 ·have mu:=bV w1
  have ad7:=aJ (p:=(i:Int)<t7) w1
  refine⟨(i+1,out++(nth ab (bq (aj,ak,an,ao,ah,aq,ai,ar) (t1,t2,t3,t4,t5,t6,t7)) i)),[],?_,?_,?_⟩
  rotate_right
  ·exact bW
  ·refine⟨by show ((i+1:Nat):Int)≤t7;omega,by show (out++(nth ab (bq (aj,ak,an,ao,ah,aq,ai,ar) (t1,t2,t3,t4,t5,t6,t7)) i)).size≤1000000*(i+1);rw [ZB2];omega,?_⟩
   rw [←hr,bX (ek:=ab) mu,ajL (show decide ((nth ab (bq (aj,ak,an,ao,ah,aq,ai,ar) (t1,t2,t3,t4,t5,t6,t7)) i)=⟨#[]⟩)=false from w3) w7]
  ·show t7.toNat-(i+1)<t7.toNat-i;omega
 ·have e:c8 (aj,ak,an,ao,ah,aq,ai,ar) (t1,t2,t3,t4,t5,t6,t7)=(out,true):=by rw [←hr,ZB3 (by have:=aA (p:=(i:Int)<t7) w8;omega)];rfl
  refine⟨[],[],_,_,_,rfl,az,(),aa,?_,?_,rfl⟩
  ·(show _=mH (aj,ak,an,ao,ah,aq,ai,ar) (t1,t2,t3,t4,t5,t6,t7));unfold mH;first|(rw [e];rfl)|rfl
  ·rfl
end GL
end Go.Proofs.YtkgpljpmdkflmaaGreatDoor
