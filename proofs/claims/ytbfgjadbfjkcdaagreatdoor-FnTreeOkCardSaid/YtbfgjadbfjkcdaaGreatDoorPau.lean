/- FnTreeOk returns true for every code (its row lists package variables, tied by the card): part 21. -/
import Derived.Test.YtbfgjadbfjkcdaaGreatDoorPal
import Derived.Test.YtbfgjadbfjkcdaaGreatDoorPas
set_option maxHeartbeats 20000000
set_option linter.all false
namespace Go.Proofs.YtbfgjadbfjkcdaaGreatDoor
namespace GL
theorem nK {b0 b1 b2 b3 b4:Nat}{s u:ay}(h:uv s u) (hs:s.wf):k9 b0 b1 b2 b3 b4 s=k9 b0 b1 b2 b3 b4 u:=by
 unfold k9
 rw [h.wf.n.1,h.wf.n.2.1,h.wf.n.2.2,hs.n.1,hs.n.2.1,hs.n.2.2,h.gone,h.dead,h.ck,h.bY,h.same]
def mP (S:ay) (t:bf) (many:Int):Prop:=S.wf∧t.rd∧0≤many∧many≤16∧S.gone.length≤1046000∧S.dead.length≤1046000
def abe (S:ay) (t:bf) (many:Int) (z:Bool):Prop:=z=(cH S t many).2.2
def mM (S:ay) (t:bf) (many:Int) (z:Bool):AV:=match z with |true=>.t [.a (k9 0 1 2 5 6 (cH S t many).1),trA (cH S t many).2.1,.s (.q true)] |false=>.t [.a (k9 0 1 2 3 4 (cH S t many).1),trA (cH S t many).2.1,.s (.q false)]
def qo (S:ay) (t:bf) (many:Int) (z:Bool):List AV:=match z with |true=>[.rs ab (cH S t many).1.rows,.rs ag (cH S t many).1.refs,.rs ag (cH S t many).1.last,.zz,.zz,.rs ae (cH S t many).1.gone,.rs ae (cH S t many).1.dead] |false=>GR (cH S t many).1++[.zz,.zz]
def ml:Con where
 A:=[.a (stB 0 1 2 3 4),.a [.int,.int,.int,.int,.int,.int,.int],.s .int]
 B:=[.r ab,.r ag,.r ag,.r ae,.r ae]
 pre:=fun x b=>whole x.1.1 x.1.2.1 x.1.2.2.1 x.1.2.2.2.2.1 x.1.2.2.2.2.2.2.1 (b.1) (b.2.1) (b.2.2.1) (b.2.2.2.1) (b.2.2.2.2)∧mP ((b.1,b.2.1,b.2.2.1,x.1.2.2.2.1,b.2.2.2.1,x.1.2.2.2.2.2.1,b.2.2.2.2,x.1.2.2.2.2.2.2.2)) (x.2.1) (x.2.2)
 α:=fun _ _=>Bool
 φ:=fun x b z=>abe ((b.1,b.2.1,b.2.2.1,x.1.2.2.2.1,b.2.2.2.1,x.1.2.2.2.2.2.1,b.2.2.2.2,x.1.2.2.2.2.2.2.2)) (x.2.1) (x.2.2) z
 r:=fun x b z=>mM ((b.1,b.2.1,b.2.2.1,x.1.2.2.2.1,b.2.2.2.1,x.1.2.2.2.2.2.1,b.2.2.2.2,x.1.2.2.2.2.2.2.2)) (x.2.1) (x.2.2) z
 o:=fun x b z=>qo ((b.1,b.2.1,b.2.2.1,x.1.2.2.2.1,b.2.2.2.1,x.1.2.2.2.2.2.1,b.2.2.2.2,x.1.2.2.2.2.2.2.2)) (x.2.1) (x.2.2) z
 nf:=2
 mv:=true
set_option maxRecDepth 100000 in
theorem zR:Has Tryz.prog 135 ml:=by
 refine Has.ofP 4 (fun _=>true) (fun _=>false) (fun _=>false) (l:=[(47,eA),(49,j3),(50,cL)]) ⟨ma,wW,gz,trivial⟩ (fn:=Tryz.f135) Tryz.func135 rfl (by decide) (aZ rfl) ?_
 rintro⟨⟨(A3:Nat),(A2:Nat),(A1:Nat),(ao:Int),(AZ:Nat),(aq:Int),(AY:Nat),(ar:Bool)⟩,⟨(t1:Int),(t2:Int),(t3:Int),(t4:Int),(t5:Int),(t6:Int),(t7:Int)⟩,(many:Int)⟩ ⟨(aj:List ByteArray),(ak:List Int),(an:List Int),(ah:List Pt),(ai:List Pt)⟩ ⟨⟨(gE:A3=List.length aj),(gD:A2=List.length ak),(gC:A1=List.length an),(gB:AZ=List.length ah),(gA:AY=List.length ai)⟩,(hp:mP (aj,ak,an,ao,ah,aq,ai,ar) (t1,t2,t3,t4,t5,t6,t7) many)⟩
 subst gE gD gC gB gA
 show vcP _ _ _ _ 4 _ (entry [.a [.xs 0 1 0 aj.length,.xs 1 1 0 ak.length,.xs 2 1 0 an.length,.int ao,.xs 3 5 0 ah.length,.int aq,.xs 4 5 0 ai.length,.q ar],.a [.int t1,.int t2,.int t3,.int t4,.int t5,.int t6,.int t7],.int many] [.rs ab aj,.rs ag ak,.rs ag an,.rs ae ah,.rs ae ai])
 obtain⟨oS,sX,C1,hm1,(hg:ah.length≤1046000),(hd:ai.length≤1046000)⟩:=hp
 have oS:ay.wf (aj,ak,an,ao,ah,aq,ai,ar):=oS
 have sX:bf.rd (t1,t2,t3,t4,t5,t6,t7):=sX
 have hwl:=gj (s:=(aj,ak,an,ao,ah,aq,ai,ar)) sX
 have hwo:=lH (s:=(aj,ak,an,ao,ah,aq,ai,ar)) sX
 have hly:=FR (t:=(t1,t2,t3,t4,t5,t6,t7)) (l:=aB (aj,ak,an,ao,ah,aq,ai,ar) (t1,t2,t3,t4,t5,t6,t7)) (many:=many) oS
 refine zn (l:=[(47,eA),(49,j3),(50,cL)]) (ex:=fun _=>true) (wr:=fun _=>false) (pt:=fun _=>false) ⟨ma,wW,gz,aa⟩ (fun y:Unit=>[(.s 3,.s (.bp 1003 0)),(.s 4,.s (.bp 1004 0)),(.s 6,.s (.bp 1006 0)),(.s 7,.s (.bp 1007 0)),(.s 12,.s (.q false)),(.b 1003,.a (k9 0 1 2 3 4 (aj,ak,an,ao,ah,aq,ai,ar))),(.b 0,.rs ab (bS (aj,ak,an,ao,ah,aq,ai,ar) (t1,t2,t3,t4,t5,t6,t7) (aB (aj,ak,an,ao,ah,aq,ai,ar) (t1,t2,t3,t4,t5,t6,t7)) many).1.rows),(.b 1,.rs ag (bS (aj,ak,an,ao,ah,aq,ai,ar) (t1,t2,t3,t4,t5,t6,t7) (aB (aj,ak,an,ao,ah,aq,ai,ar) (t1,t2,t3,t4,t5,t6,t7)) many).1.refs),(.b 2,.rs ag (bS (aj,ak,an,ao,ah,aq,ai,ar) (t1,t2,t3,t4,t5,t6,t7) (aB (aj,ak,an,ao,ah,aq,ai,ar) (t1,t2,t3,t4,t5,t6,t7)) many).1.last),(.b 3,.rs ae (bS (aj,ak,an,ao,ah,aq,ai,ar) (t1,t2,t3,t4,t5,t6,t7) (aB (aj,ak,an,ao,ah,aq,ai,ar) (t1,t2,t3,t4,t5,t6,t7)) many).1.gone),(.b 4,.rs ae (bS (aj,ak,an,ao,ah,aq,ai,ar) (t1,t2,t3,t4,t5,t6,t7) (aB (aj,ak,an,ao,ah,aq,ai,ar) (t1,t2,t3,t4,t5,t6,t7)) many).1.dead),(.b 1004,.a [.int t1,.int t2,.int t3,.int t4,.int t5,.int t6,.int t7]),(.b 1006,.a (uM pF.zero)),(.b 1007,.a (uM s3.zero))]) (fun y=>decide (many=bf.many (t1,t2,t3,t4,t5,t6,t7))=false∧(bS (aj,ak,an,ao,ah,aq,ai,ar) (t1,t2,t3,t4,t5,t6,t7) (aB (aj,ak,an,ao,ah,aq,ai,ar) (t1,t2,t3,t4,t5,t6,t7)) many).2.2=false) (xk 4 (KK Tryz.f135)) ?_ (fun tail=>?_)
 ·rintro⟨⟩ ⟨(fB:decide (many=bf.many (t1,t2,t3,t4,t5,t6,t7))=false),(hz:(bS (aj,ak,an,ao,ah,aq,ai,ar) (t1,t2,t3,t4,t5,t6,t7) (aB (aj,ak,an,ao,ah,aq,ai,ar) (t1,t2,t3,t4,t5,t6,t7)) many).2.2=false)⟩
  have xw:=CR oS hz
  have e:(cH (aj,ak,an,ao,ah,aq,ai,ar) (t1,t2,t3,t4,t5,t6,t7) many)=((bS (aj,ak,an,ao,ah,aq,ai,ar) (t1,t2,t3,t4,t5,t6,t7) (aB (aj,ak,an,ao,ah,aq,ai,ar) (t1,t2,t3,t4,t5,t6,t7)) many).1,(t1,t2,t3,t4,t5,t6,t7),false):=afk fB (by rw [hz];rfl)
  refine⟨fun w1=>⟨[.s 3,.b 1003],[.s 34],rfl,[.s 4,.b 1004],[.s 35],rfl,[.s 6,.s 34,.b 1006],[.b 1006],rfl,[.s 7,.s 35,.b 1007],[.b 1007],rfl,[],[.s 8],rfl,?_⟩,fun w2=>?_⟩
  all_goals first|refine aw ?_|refine ax ?_|exact ba|(dsimp only [eA,fU];omega)|(dsimp only [j3,lf];omega)|(dsimp only [cL,dJ];omega)|exact a8|skip
  ·have es:k9 0 1 2 3 4 (aj,ak,an,ao,ah,aq,ai,ar)=k9 0 1 2 3 4 (bS (aj,ak,an,ao,ah,aq,ai,ar) (t1,t2,t3,t4,t5,t6,t7) (aB (aj,ak,an,ao,ah,aq,ai,ar) (t1,t2,t3,t4,t5,t6,t7)) many).1:=nK xw oS
   refine⟨[],[],_,_,_,rfl,az,false,2,(by show false=(cH (aj,ak,an,ao,ah,aq,ai,ar) (t1,t2,t3,t4,t5,t6,t7) many).2.2;rw [e]),?_,?_,rfl⟩
   ·(show _=mM (aj,ak,an,ao,ah,aq,ai,ar) (t1,t2,t3,t4,t5,t6,t7) many false);unfold mM;first|(rw [e];rfl)|(rw [e];exact congrArg (fun x=>AV.t [A0.a x,trA (t1,t2,t3,t4,t5,t6,t7),A0.s (SV.q false)]) es)|rfl
   ·(show _=qo (aj,ak,an,ao,ah,aq,ai,ar) (t1,t2,t3,t4,t5,t6,t7) many false);unfold qo;first|(rw [e];rfl)|(rw [e];exact congrArg (fun x=>AV.t [A0.a x,trA (t1,t2,t3,t4,t5,t6,t7),A0.s (SV.q false)]) es)|rfl
  ·exact absurd (show true=false from w2) Bool.noConfusion
 have aiT:=tail
 clear tail
 refine zn (l:=[(47,eA),(49,j3),(50,cL)]) (ex:=fun _=>true) (wr:=fun _=>false) (pt:=fun _=>false) ⟨ma,wW,gz,aa⟩ (fun y:Unit=>[(.s 2,.int many),(.s 6,.s (.bp 1006 0)),(.s 7,.s (.bp 1007 0)),(.s 9,.s (.xs 230000 5 0 (aB (aj,ak,an,ao,ah,aq,ai,ar) (t1,t2,t3,t4,t5,t6,t7)).length)),(.s 10,.s (.bp 1010 0)),(.s 11,.s (.bp 1011 0)),(.s 12,.s (.q true)),(.b 1010,.a (k9 0 1 2 1000290000 1000290001 (bS (aj,ak,an,ao,ah,aq,ai,ar) (t1,t2,t3,t4,t5,t6,t7) (aB (aj,ak,an,ao,ah,aq,ai,ar) (t1,t2,t3,t4,t5,t6,t7)) many).1)),(.b 0,.rs ab (bS (aj,ak,an,ao,ah,aq,ai,ar) (t1,t2,t3,t4,t5,t6,t7) (aB (aj,ak,an,ao,ah,aq,ai,ar) (t1,t2,t3,t4,t5,t6,t7)) many).1.rows),(.b 1,.rs ag (bS (aj,ak,an,ao,ah,aq,ai,ar) (t1,t2,t3,t4,t5,t6,t7) (aB (aj,ak,an,ao,ah,aq,ai,ar) (t1,t2,t3,t4,t5,t6,t7)) many).1.refs),(.b 2,.rs ag (bS (aj,ak,an,ao,ah,aq,ai,ar) (t1,t2,t3,t4,t5,t6,t7) (aB (aj,ak,an,ao,ah,aq,ai,ar) (t1,t2,t3,t4,t5,t6,t7)) many).1.last),(.b 1000290000,.rs ae (bS (aj,ak,an,ao,ah,aq,ai,ar) (t1,t2,t3,t4,t5,t6,t7) (aB (aj,ak,an,ao,ah,aq,ai,ar) (t1,t2,t3,t4,t5,t6,t7)) many).1.gone),(.b 1000290001,.rs ae (bS (aj,ak,an,ao,ah,aq,ai,ar) (t1,t2,t3,t4,t5,t6,t7) (aB (aj,ak,an,ao,ah,aq,ai,ar) (t1,t2,t3,t4,t5,t6,t7)) many).1.dead),(.b 1011,.a [.int (bS (aj,ak,an,ao,ah,aq,ai,ar) (t1,t2,t3,t4,t5,t6,t7) (aB (aj,ak,an,ao,ah,aq,ai,ar) (t1,t2,t3,t4,t5,t6,t7)) many).2.1.1,.int (bS (aj,ak,an,ao,ah,aq,ai,ar) (t1,t2,t3,t4,t5,t6,t7) (aB (aj,ak,an,ao,ah,aq,ai,ar) (t1,t2,t3,t4,t5,t6,t7)) many).2.1.2.1,.int (bS (aj,ak,an,ao,ah,aq,ai,ar) (t1,t2,t3,t4,t5,t6,t7) (aB (aj,ak,an,ao,ah,aq,ai,ar) (t1,t2,t3,t4,t5,t6,t7)) many).2.1.2.2.1,.int (bS (aj,ak,an,ao,ah,aq,ai,ar) (t1,t2,t3,t4,t5,t6,t7) (aB (aj,ak,an,ao,ah,aq,ai,ar) (t1,t2,t3,t4,t5,t6,t7)) many).2.1.2.2.2.1,.int (bS (aj,ak,an,ao,ah,aq,ai,ar) (t1,t2,t3,t4,t5,t6,t7) (aB (aj,ak,an,ao,ah,aq,ai,ar) (t1,t2,t3,t4,t5,t6,t7)) many).2.1.2.2.2.2.1,.int (bS (aj,ak,an,ao,ah,aq,ai,ar) (t1,t2,t3,t4,t5,t6,t7) (aB (aj,ak,an,ao,ah,aq,ai,ar) (t1,t2,t3,t4,t5,t6,t7)) many).2.1.2.2.2.2.2.1,.int (bS (aj,ak,an,ao,ah,aq,ai,ar) (t1,t2,t3,t4,t5,t6,t7) (aB (aj,ak,an,ao,ah,aq,ai,ar) (t1,t2,t3,t4,t5,t6,t7)) many).2.1.2.2.2.2.2.2]),(.b 1006,.a (uM pF.zero)),(.b 1007,.a (uM s3.zero)),(.b 230000,.rs ae (aB (aj,ak,an,ao,ah,aq,ai,ar) (t1,t2,t3,t4,t5,t6,t7)))]) (fun y=>decide (many=bf.many (t1,t2,t3,t4,t5,t6,t7))=false∧(bS (aj,ak,an,ao,ah,aq,ai,ar) (t1,t2,t3,t4,t5,t6,t7) (aB (aj,ak,an,ao,ah,aq,ai,ar) (t1,t2,t3,t4,t5,t6,t7)) many).2.2=true) (xk 4 (KK Tryz.f135)) ?_ (fun tail=>?_)
 ·rintro⟨⟩ ⟨(fB:decide (many=bf.many (t1,t2,t3,t4,t5,t6,t7))=false),(hz:(bS (aj,ak,an,ao,ah,aq,ai,ar) (t1,t2,t3,t4,t5,t6,t7) (aB (aj,ak,an,ao,ah,aq,ai,ar) (t1,t2,t3,t4,t5,t6,t7)) many).2.2=true)⟩
  have e:(cH (aj,ak,an,ao,ah,aq,ai,ar) (t1,t2,t3,t4,t5,t6,t7) many)=(dz ((aB (aj,ak,an,ao,ah,aq,ai,ar) (t1,t2,t3,t4,t5,t6,t7)).drop many.toNat) (bS (aj,ak,an,ao,ah,aq,ai,ar) (t1,t2,t3,t4,t5,t6,t7) (aB (aj,ak,an,ao,ah,aq,ai,ar) (t1,t2,t3,t4,t5,t6,t7)) many).1,(bS (aj,ak,an,ao,ah,aq,ai,ar) (t1,t2,t3,t4,t5,t6,t7) (aB (aj,ak,an,ao,ah,aq,ai,ar) (t1,t2,t3,t4,t5,t6,t7)) many).2.1,true):=afj fB (by rw [hz];rfl)
  refine⟨fun w1=>⟨[.s 3],[],rfl,?_⟩,fun w2=>?_⟩
  all_goals first|refine aw ?_|refine ax ?_|exact ba|(dsimp only [eA,fU];omega)|(dsimp only [j3,lf];omega)|(dsimp only [cL,dJ];omega)|exact a8|skip
  ·exact absurd (show false=true from w1) Bool.noConfusion
  ·refine cO (l:=[(47,eA),(49,j3),(50,cL)]) (ex:=fun _=>true) (wr:=fun _=>false) (pt:=fun _=>false) ⟨ma,wW,gz,trivial⟩ [.s 6,.s 7,.s 9,.s 10,.s 11,.b 1011,.b 1006,.b 1007,.b 230000] (fun y:Int×ay=>[(.s 13,.int y.1),(.b 1010,.a (k9 0 1 2 1000000001 1000000002 y.2)),(.b 0,.rs ab y.2.rows),(.b 1,.rs ag y.2.refs),(.b 2,.rs ag y.2.last),(.b 1000000001,.rs ae y.2.gone),(.b 1000000002,.rs ae y.2.dead)]) (fun y=>y.2.wf∧(0≤y.1∧y.1≤16)∧(y.2.gone.length≤1046005+y.1.toNat∧y.2.dead.length≤1046005+y.1.toNat)∧dz ((aB (aj,ak,an,ao,ah,aq,ai,ar) (t1,t2,t3,t4,t5,t6,t7)).drop y.1.toNat) y.2=dz ((aB (aj,ak,an,ao,ah,aq,ai,ar) (t1,t2,t3,t4,t5,t6,t7)).drop many.toNat) (bS (aj,ak,an,ao,ah,aq,ai,ar) (t1,t2,t3,t4,t5,t6,t7) (aB (aj,ak,an,ao,ah,aq,ai,ar) (t1,t2,t3,t4,t5,t6,t7)) many).1) (fun y=>16-y.1.toNat) (many,(bS (aj,ak,an,ao,ah,aq,ai,ar) (t1,t2,t3,t4,t5,t6,t7) (aB (aj,ak,an,ao,ah,aq,ai,ar) (t1,t2,t3,t4,t5,t6,t7)) many).1) [(1000000001,1000290000),(1000000002,1000290001)] ⟨hly.1,⟨C1,hm1⟩,⟨ZB1 hly.2.1 (by have:ah.length≤1046000:=hg;show ah.length+5≤1046005+many.toNat;omega),ZB1 hly.2.2.1 (by have:ai.length≤1046000:=hd;show ai.length+5≤1046005+many.toNat;omega)⟩,rfl⟩ dN ?_
   rintro⟨i,u⟩ ⟨(hu:u.wf),⟨(hi0:0≤i),(hi:i≤16)⟩,⟨(hug:u.gone.length≤1046005+i.toNat),(hud:u.dead.length≤1046005+i.toNat)⟩,(kg:dz ((aB (aj,ak,an,ao,ah,aq,ai,ar) (t1,t2,t3,t4,t5,t6,t7)).drop i.toNat) u=dz ((aB (aj,ak,an,ao,ah,aq,ai,ar) (t1,t2,t3,t4,t5,t6,t7)).drop many.toNat) (bS (aj,ak,an,ao,ah,aq,ai,ar) (t1,t2,t3,t4,t5,t6,t7) (aB (aj,ak,an,ao,ah,aq,ai,ar) (t1,t2,t3,t4,t5,t6,t7)) many).1)⟩
   have hia:=n0 (oJ hwo i.toNat)
   have cr:decide (i<((aB (aj,ak,an,ao,ah,aq,ai,ar) (t1,t2,t3,t4,t5,t6,t7)).length:Int))=true→i.toNat<(aB (aj,ak,an,ao,ah,aq,ai,ar) (t1,t2,t3,t4,t5,t6,t7)).length:=fun h=>by have:=aE h;omega
   refine⟨fun w1=>⟨[.s 10,.b 1010],[.s 43],rfl,[.s 9],[.s 44],rfl,[.s 13],[.s 45],rfl,[.s 44,.s 45],[.s 46],rfl,⟨?_,?_⟩,[.s 46,.b 230000],[.s 47],rfl,?_,[.s 43,.s 47,.b 0,.b 1,.b 2,.b 1000000001,.b 1000000002,.b 1000490001,.b 1000490000],[.s 48,.b 0,.b 1,.b 2,.b 1000000001,.b 1000000002,.b 1000490000,.b 1000490001],rfl,⟨⟨⟨aa,aa,aa,aa,aa,aa,aa,aa,aa⟩,⟨aa,aa,aa,aa,aa,aa⟩,aa⟩,⟨?_,?_,?_,?_,?_⟩,⟨?_,?_,?_⟩,?_,?_,?_,?_⟩,?_,fun x2 w3=>⟨[.s 10,.s 48,.b 1010],[.b 1010],rfl,⟨?_,?_⟩,?_⟩⟩,fun w4=>⟨[.s 10,.b 1010],[.s 49],rfl,[.s 11,.b 1011],[.s 50],rfl,[.s 6,.s 49,.b 1006],[.b 1006],rfl,[.s 7,.s 50,.b 1007],[.b 1007],rfl,[],[.s 8],rfl,?_⟩⟩
   all_goals first|refine aw ?_|refine ax ?_|exact ba|(dsimp only [eA,fU];omega)|(dsimp only [j3,lf];omega)|(dsimp only [cL,dJ];omega)|exact a8|exact cr w1|exact aE w1|exact hu.n.1|exact hu.n.2.1|exact hu.n.2.2|exact hia.1|exact hia.2|exact ZB1 hug (by omega)|exact ZB1 hud (by omega)|skip
   ·have hil:=cr w1
    have mz:=aE (p:=i<((aB (aj,ak,an,ao,ah,aq,ai,ar) (t1,t2,t3,t4,t5,t6,t7)).length:Int)) w1
    have JD:=pv u (nth ae (aB (aj,ak,an,ao,ah,aq,ai,ar) (t1,t2,t3,t4,t5,t6,t7)) i.toNat)
    have hnx:(i+1).toNat=i.toNat+1:=by omega
    refine⟨(i+1,cN u (nth ae (aB (aj,ak,an,ao,ah,aq,ai,ar) (t1,t2,t3,t4,t5,t6,t7)) i.toNat)),[(1000000001,1000490000),(1000000002,1000490001)],?_,?_,?_⟩
    rotate_right
    ·exact bX
    ·refine⟨qw hu,⟨by show 0≤i+1;omega,by show i+1≤16;omega⟩,⟨by show (cN u (nth ae (aB (aj,ak,an,ao,ah,aq,ai,ar) (t1,t2,t3,t4,t5,t6,t7)) i.toNat)).gone.length≤1046005+(i+1).toNat;omega,by show (cN u (nth ae (aB (aj,ak,an,ao,ah,aq,ai,ar) (t1,t2,t3,t4,t5,t6,t7)) i.toNat)).dead.length≤1046005+(i+1).toNat;omega⟩,?_⟩
     show dz ((aB (aj,ak,an,ao,ah,aq,ai,ar) (t1,t2,t3,t4,t5,t6,t7)).drop (i+1).toNat) _=_
     rw [←kg,bZ (ek:=ae) hil,hnx];rfl
    ·show 16-(i+1).toNat<16-i.toNat;omega
   ·have e2:dz ((aB (aj,ak,an,ao,ah,aq,ai,ar) (t1,t2,t3,t4,t5,t6,t7)).drop many.toNat) (bS (aj,ak,an,ao,ah,aq,ai,ar) (t1,t2,t3,t4,t5,t6,t7) (aB (aj,ak,an,ao,ah,aq,ai,ar) (t1,t2,t3,t4,t5,t6,t7)) many).1=u:=by
     rw [←kg,ZB4 (by have:=aA (p:=i<((aB (aj,ak,an,ao,ah,aq,ai,ar) (t1,t2,t3,t4,t5,t6,t7)).length:Int)) w4;omega)];rfl
    have e3:(cH (aj,ak,an,ao,ah,aq,ai,ar) (t1,t2,t3,t4,t5,t6,t7) many)=(u,(bS (aj,ak,an,ao,ah,aq,ai,ar) (t1,t2,t3,t4,t5,t6,t7) (aB (aj,ak,an,ao,ah,aq,ai,ar) (t1,t2,t3,t4,t5,t6,t7)) many).2.1,true):=by rw [e,e2]
    refine⟨[1000000001,1000000002],[],_,_,_,rfl,az,true,0,(by show true=(cH (aj,ak,an,ao,ah,aq,ai,ar) (t1,t2,t3,t4,t5,t6,t7) many).2.2;rw [e3]),?_,?_,rfl⟩
    ·(show _=mM (aj,ak,an,ao,ah,aq,ai,ar) (t1,t2,t3,t4,t5,t6,t7) many true);unfold mM;first|(rw [e3];rfl)|rfl
    ·(show _=qo (aj,ak,an,ao,ah,aq,ai,ar) (t1,t2,t3,t4,t5,t6,t7) many true);unfold qo;first|(rw [e3];rfl)|rfl
 ·refine⟨fun w1=>⟨[.s 3,.b 1003],[.s 18],rfl,[.s 4,.b 1004],[.s 19],rfl,[.s 6,.s 18,.b 1006],[.b 1006],rfl,[.s 7,.s 19,.b 1007],[.b 1007],rfl,[],[.s 8],rfl,?_⟩,fun w2=>⟨⟨⟨⟨⟨?_,?_⟩,⟨?_,?_⟩,⟨?_,?_⟩,aa,⟨?_,?_⟩,aa,⟨?_,?_⟩,aa,aa⟩,⟨aa,aa,aa,aa,aa,aa,aa,aa⟩,aa⟩,?_,?_⟩,fun x3 w4=>⟨⟨⟨⟨aa,aa,aa,aa,aa,aa,aa,aa,aa⟩,⟨aa,aa,aa,aa,aa,aa,aa,aa⟩,⟨?_,?_⟩,aa,aa⟩,⟨?_,?_,?_,?_,?_⟩,?_,?_,?_,?_,?_,?_,?_⟩,fun |false=>fun w5=>?_ |true=>fun w6=>?_⟩⟩⟩
  all_goals first|refine aw ?_|refine ax ?_|exact ba|(dsimp only [eA,fU];omega)|(dsimp only [j3,lf];omega)|(dsimp only [cL,dJ];omega)|exact a8|exact oS|exact oS.rd|exact sX|exact hwl|exact ZB1 hg (by decide)|exact ZB1 hd (by decide)|skip
  ·have e:(cH (aj,ak,an,ao,ah,aq,ai,ar) (t1,t2,t3,t4,t5,t6,t7) many)=((aj,ak,an,ao,ah,aq,ai,ar),(t1,t2,t3,t4,t5,t6,t7),true):=afl w1
   refine⟨[3,4],[],_,_,_,rfl,az,true,0,(by show true=(cH (aj,ak,an,ao,ah,aq,ai,ar) (t1,t2,t3,t4,t5,t6,t7) many).2.2;rw [e]),?_,?_,rfl⟩
   ·(show _=mM (aj,ak,an,ao,ah,aq,ai,ar) (t1,t2,t3,t4,t5,t6,t7) many true);unfold mM;first|(rw [e];rfl)|rfl
   ·(show _=qo (aj,ak,an,ao,ah,aq,ai,ar) (t1,t2,t3,t4,t5,t6,t7) many true);unfold qo;first|(rw [e];rfl)|rfl
  ·have hz:(bS (aj,ak,an,ao,ah,aq,ai,ar) (t1,t2,t3,t4,t5,t6,t7) (aB (aj,ak,an,ao,ah,aq,ai,ar) (t1,t2,t3,t4,t5,t6,t7)) many).2.2=false:=(show false=(bS (aj,ak,an,ao,ah,aq,ai,ar) (t1,t2,t3,t4,t5,t6,t7) (aB (aj,ak,an,ao,ah,aq,ai,ar) (t1,t2,t3,t4,t5,t6,t7)) many).2.2 from w5).symm
   refine joinTail aiT () [] (⟨w2,hz⟩) ?_
   repeat' (first|exact trivial|rfl|exact rfl|exact fP ZA0.symm|apply And.intro)
  ·have hz:(bS (aj,ak,an,ao,ah,aq,ai,ar) (t1,t2,t3,t4,t5,t6,t7) (aB (aj,ak,an,ao,ah,aq,ai,ar) (t1,t2,t3,t4,t5,t6,t7)) many).2.2=true:=(show true=(bS (aj,ak,an,ao,ah,aq,ai,ar) (t1,t2,t3,t4,t5,t6,t7) (aB (aj,ak,an,ao,ah,aq,ai,ar) (t1,t2,t3,t4,t5,t6,t7)) many).2.2 from w6).symm
   refine joinTail tail ((())) [] ((⟨w2,hz⟩)) ?_
   repeat' (first|exact trivial|rfl|exact rfl|exact fP ZA0.symm|apply And.intro)
end GL
namespace GL
theorem fq {s:ay}{t:bf}(h:t.ok):(bw s t).length=t.many.toNat:=by
 unfold bw s4
 rw [ZG3,ZB8,gj h.rd]
 have:=h.m0;have:=h.m1;omega
theorem xW {s:ay}{t:bf}(h:t.ok) {k:Nat}(hk:k<t.many.toNat):nth ab (bw s t) k=getM s t k:=by
 have h1:=h.m1
 have hl:=gj (s:=s) h.rd
 unfold bw s4 getM nth
 rw [ZG6,List.getElem?_take_of_lt hk,ZB2 (by omega)]
 rfl
theorem wE {s:ay}{t:bf}(h:s.rd):∀x∈bw s t,x.size≤1000000:=by
 intro x hx
 unfold bw s4 at hx
 obtain⟨p,_,rfl⟩:=List.mem_map.1 hx
 exact zD h
theorem W9 {l:List ByteArray}(h:∀x∈l,x.size≤1000000) (k:Nat):(nth ab l k).size≤1000000:=by
 by_cases hk:k<l.length
 ·exact h _ (bT (ek:=ab) hk)
 ·unfold nth;rw [ZD9 (by omega)];exact ZA8 _
def cM (s:ay) (t:bf) (k:Int):fu×Bool:=bif !(iC k 0 (t.many-1)) then (nG,false) else bB (getM s t k.toNat)
theorem aeO {s:ay}{t:bf}{k:Int}(h:(!(iC k 0 (t.many-1)))=true):cM s t k=(nG,false):=by unfold cM;rw [h];rfl
theorem aeN {s:ay}{t:bf}{k:Int}(h:(!(iC k 0 (t.many-1)))=false):cM s t k=bB (getM s t k.toNat):=by unfold cM;rw [h];rfl
def kP (S:ay) (t:bf) (k:Int):Prop:=S.rd∧bf.ok t
def pP (S:ay) (t:bf) (k:Int):AV:=.t [ndA (cM S t k).1,.s (.q (cM S t k).2)]
def abA (S:ay) (t:bf) (k:Int):List AV:=[]
def jG:Con where
 A:=[.a xE,.a [.int,.int,.int,.int,.int,.int,.int],.s .int]
 B:=[]
 pre:=fun x b=>kP (x.1) (x.2.1) (x.2.2)
 α:=fun _ _=>Unit
 φ:=fun _ _ _=>True
 r:=fun x b _=>pP (x.1) (x.2.1) (x.2.2)
 o:=fun x b _=>abA (x.1) (x.2.1) (x.2.2)
 nf:=0
set_option maxRecDepth 100000 in
theorem vG:Has Tryz.prog 132 jG:=by
 refine Has.ofE (fun _=>true) (fun _=>false) (fun _=>false) (l:=[(24,dE),(154,QB),(46,ns)]) ⟨iA,agh,CZ,trivial⟩ (fn:=Tryz.f132) Tryz.func132 rfl (by decide) (aZ rfl) ?_
 rintro⟨⟨(aj:List ByteArray),(ak:List Int),(an:List Int),(ao:Int),(ah:List Pt),(aq:Int),(ai:List Pt),(ar:Bool)⟩,⟨(t1:Int),(t2:Int),(t3:Int),(t4:Int),(t5:Int),(t6:Int),(t7:Int)⟩,(k:Int)⟩ _ (hp:kP (aj,ak,an,ao,ah,aq,ai,ar) (t1,t2,t3,t4,t5,t6,t7) k)
 show vc _ _ _ _ (entry [.a [.vz ab aj,.vz ag ak,.vz ag an,.int ao,.vz ae ah,.int aq,.vz ae ai,.q ar],.a [.int t1,.int t2,.int t3,.int t4,.int t5,.int t6,.int t7],.int k] []) _
 obtain⟨dG,cA⟩:=hp
 have dG:ay.rd (aj,ak,an,ao,ah,aq,ai,ar):=dG
 have cA:bf.ok (t1,t2,t3,t4,t5,t6,t7):=cA
 have h0:0≤t7:=cA.m0
 have h1:t7≤16:=cA.m1
 have cr:(!(iC k 0 (t7-1)))=false→0≤k∧k<16:=fun h=>by have:=cz.1 (oN h);omega
 have dk:(getM (aj,ak,an,ao,ah,aq,ai,ar) (t1,t2,t3,t4,t5,t6,t7) k.toNat).size≤1000000:=zD dG
 refine⟨⟨?_,?_⟩,⟨⟨aa,aa,aa,aa⟩,aa⟩,fun x1 w2=>⟨fun w3=>?_,fun w4=>⟨⟨⟨⟨aa,aa,aa,aa,aa,aa,aa,aa,aa⟩,⟨aa,aa,aa,aa,aa,aa,aa,aa⟩,aa,aa⟩,?_,?_,?_,?_⟩,fun x5 w6=>⟨⟨⟨aa,aa⟩,?_⟩,fun x7 w8=>?_⟩⟩⟩⟩
 all_goals first|refine aw ?_|refine ax ?_|exact ba|(dsimp only [dE,gX];omega)|(dsimp only [QB,B8];omega)|(dsimp only [ns,lr];omega)|exact a8|exact dG|exact cA.rd|exact dk|exact (cr w4).1|exact (cr w4).2|skip
 ·refine⟨[],[],_,_,_,rfl,az,(),aa,?_,?_,rfl⟩
  ·(show _=pP (aj,ak,an,ao,ah,aq,ai,ar) (t1,t2,t3,t4,t5,t6,t7) k);unfold pP;first|(rw [aeO (s:=(aj,ak,an,ao,ah,aq,ai,ar)) (t:=(t1,t2,t3,t4,t5,t6,t7)) w3];rfl)|rfl
  ·rfl
 ·refine⟨[],[],_,_,_,rfl,az,(),aa,?_,?_,rfl⟩
  ·(show _=pP (aj,ak,an,ao,ah,aq,ai,ar) (t1,t2,t3,t4,t5,t6,t7) k);unfold pP;first|(rw [aeN (s:=(aj,ak,an,ao,ah,aq,ai,ar)) (t:=(t1,t2,t3,t4,t5,t6,t7)) w4];rfl)|rfl
  ·rfl
def iZ (mu:Int):List ByteArray→Nat→Int→Int
 |[],_,n=>n
 |x::l,k,n=>iZ mu l (k+1) (bif decide ((k:Int)≠mu)&&decide (x≠⟨#[]⟩) then (k:Int)+1 else n)
theorem agc {mu:Int}{x:ByteArray}{l:List ByteArray}{k:Nat}{n:Int}(h:decide ((k:Int)≠mu)=true) (h2:decide (x≠⟨#[]⟩)=true):iZ mu (x::l) k n=iZ mu l (k+1) ((k:Int)+1):=by rw [iZ,h,h2];rfl
theorem ad4 {mu:Int}{x:ByteArray}{l:List ByteArray}{k:Nat}{n:Int}(h:decide ((k:Int)≠mu)=true) (h2:decide (x≠⟨#[]⟩)=false):iZ mu (x::l) k n=iZ mu l (k+1) n:=by rw [iZ,h,h2];rfl
theorem ad3 {mu:Int}{x:ByteArray}{l:List ByteArray}{k:Nat}{n:Int}(h:decide ((k:Int)≠mu)=false):iZ mu (x::l) k n=iZ mu l (k+1) n:=by rw [iZ,h];rfl
def mD (s:ay) (t:bf) (mu:Int):Int:=iZ mu (bw s t) 0 0
def ri (S:ay) (t:bf) (mu:Int):Prop:=S.rd∧bf.ok t
def vb (S:ay) (t:bf) (mu:Int):AV:=.s (.int (mD S t mu))
def WQ (S:ay) (t:bf) (mu:Int):List AV:=[]
def sQ:Con where
 A:=[.a xE,.a [.int,.int,.int,.int,.int,.int,.int],.s .int]
 B:=[]
 pre:=fun x b=>ri (x.1) (x.2.1) (x.2.2)
 α:=fun _ _=>Unit
 φ:=fun _ _ _=>True
 r:=fun x b _=>vb (x.1) (x.2.1) (x.2.2)
 o:=fun x b _=>WQ (x.1) (x.2.1) (x.2.2)
 nf:=0
set_option maxRecDepth 100000 in
theorem MP:Has Tryz.prog 133 sQ:=by
 refine Has.ofE (fun _=>true) (fun _=>false) (fun _=>false) (l:=[(45,df)]) ⟨iT,trivial⟩ (fn:=Tryz.f133) Tryz.func133 rfl (by decide) (aZ rfl) ?_
 rintro⟨⟨(aj:List ByteArray),(ak:List Int),(an:List Int),(ao:Int),(ah:List Pt),(aq:Int),(ai:List Pt),(ar:Bool)⟩,⟨(t1:Int),(t2:Int),(t3:Int),(t4:Int),(t5:Int),(t6:Int),(t7:Int)⟩,(mu:Int)⟩ _ (hp:ri (aj,ak,an,ao,ah,aq,ai,ar) (t1,t2,t3,t4,t5,t6,t7) mu)
 show vc _ _ _ _ (entry [.a [.vz ab aj,.vz ag ak,.vz ag an,.int ao,.vz ae ah,.int aq,.vz ae ai,.q ar],.a [.int t1,.int t2,.int t3,.int t4,.int t5,.int t6,.int t7],.int mu] []) _
 obtain⟨dG,cA⟩:=hp
 have dG:ay.rd (aj,ak,an,ao,ah,aq,ai,ar):=dG
 have cA:bf.ok (t1,t2,t3,t4,t5,t6,t7):=cA
 have h0:0≤t7:=cA.m0
 have h1:t7≤16:=cA.m1
 have hl:(bw (aj,ak,an,ao,ah,aq,ai,ar) (t1,t2,t3,t4,t5,t6,t7)).length=t7.toNat:=fq cA
 refine⟨⟨⟨⟨aa,aa,aa,aa,aa,aa,aa,aa,aa⟩,⟨aa,aa,aa,aa,aa,aa,aa,aa⟩,aa⟩,?_,?_,?_,?_⟩,fun x1 w2=>?_⟩
 all_goals first|refine aw ?_|refine ax ?_|exact ba|(dsimp only [df,eH];omega)|exact a8|exact dG|exact cA.rd|skip
 refine cO (l:=[(45,df)]) (ex:=fun _=>true) (wr:=fun _=>false) (pt:=fun _=>false) ⟨iT,aa⟩ [.s 2,.s 3,.s 4,.b 1003,.b 1004,.s 8,.b 130000] (fun y:Nat×Int=>[(.s 7,.int y.2),(.s 9,.int y.1)]) (fun y=>(y.1:Int)≤t7∧iZ mu ((bw (aj,ak,an,ao,ah,aq,ai,ar) (t1,t2,t3,t4,t5,t6,t7)).drop y.1) y.1 y.2=mD (aj,ak,an,ao,ah,aq,ai,ar) (t1,t2,t3,t4,t5,t6,t7) mu) (fun y=>t7.toNat-y.1) (0,0) [] ⟨h0,rfl⟩ dN ?_
 rintro⟨i,n⟩ ⟨(hi:(i:Int)≤t7),(hr:iZ mu ((bw (aj,ak,an,ao,ah,aq,ai,ar) (t1,t2,t3,t4,t5,t6,t7)).drop i) i n=mD (aj,ak,an,ao,ah,aq,ai,ar) (t1,t2,t3,t4,t5,t6,t7) mu)⟩
 have bU:decide ((i:Int)<t7)=true→i<(bw (aj,ak,an,ao,ah,aq,ai,ar) (t1,t2,t3,t4,t5,t6,t7)).length:=fun h=>by have:=aE h;omega
 refine⟨fun w1=>⟨aa,fun w2=>⟨⟨?_,?_⟩,?_,fun w3=>⟨⟨?_,?_⟩,⟨?_,?_⟩,?_⟩,fun w4=>⟨⟨?_,?_⟩,?_⟩⟩,fun w5=>⟨⟨?_,?_⟩,?_⟩⟩,fun w6=>?_⟩
 all_goals first|refine aw ?_|refine ax ?_|exact ba|(dsimp only [df,eH];omega)|exact a8|exact bU w1|skip
 ·have mz:=bU w1
  have aev:=aE (p:=(i:Int)<t7) w1
  refine⟨(i+1,(i:Int)+1),[],?_,?_,?_⟩
  rotate_right
  ·exact bX
  ·exact⟨by show ((i+1:Nat):Int)≤t7;omega,by rw [←hr,bZ (ek:=ab) mz,agc w2 (show decide (nth ab (bw (aj,ak,an,ao,ah,aq,ai,ar) (t1,t2,t3,t4,t5,t6,t7)) i≠⟨#[]⟩)=true from w3)]⟩
  ·show t7.toNat-(i+1)<t7.toNat-i;omega
 ·have mz:=bU w1
  have aev:=aE (p:=(i:Int)<t7) w1
  refine⟨(i+1,n),[],?_,?_,?_⟩
  rotate_right
  ·exact bX
  ·exact⟨by show ((i+1:Nat):Int)≤t7;omega,by rw [←hr,bZ (ek:=ab) mz,ad4 w2 (show decide (nth ab (bw (aj,ak,an,ao,ah,aq,ai,ar) (t1,t2,t3,t4,t5,t6,t7)) i≠⟨#[]⟩)=false from w4)]⟩
  ·show t7.toNat-(i+1)<t7.toNat-i;omega
 ·have mz:=bU w1
  have aev:=aE (p:=(i:Int)<t7) w1
  refine⟨(i+1,n),[],?_,?_,?_⟩
  rotate_right
  ·exact bX
  ·exact⟨by show ((i+1:Nat):Int)≤t7;omega,by rw [←hr,bZ (ek:=ab) mz,ad3 w5]⟩
  ·show t7.toNat-(i+1)<t7.toNat-i;omega
 ·have e:mD (aj,ak,an,ao,ah,aq,ai,ar) (t1,t2,t3,t4,t5,t6,t7) mu=n:=by rw [←hr,ZB4 (by have:=aA (p:=(i:Int)<t7) w6;omega)];rfl
  refine⟨[],[],_,_,_,rfl,az,(),aa,?_,?_,rfl⟩
  ·(show _=vb (aj,ak,an,ao,ah,aq,ai,ar) (t1,t2,t3,t4,t5,t6,t7) mu);unfold vb;first|(rw [e];rfl)|rfl
  ·rfl
def frF:Nat→List ByteArray→Nat→Int
 |0,_,_=> -1
 |f+1,l,k=>bif decide ((k:Int)≥(l.length:Int))||decide (nth ab l k=⟨#[]⟩) then (k:Int) else frF f l (k+1)
theorem ahj {f:Nat}{l:List ByteArray}{k:Nat}(h:decide ((k:Int)≥(l.length:Int))=true):frF (f+1) l k=(k:Int):=by rw [frF,h];rfl
theorem ahi {f:Nat}{l:List ByteArray}{k:Nat}(h:decide (nth ab l k=⟨#[]⟩)=true):frF (f+1) l k=(k:Int):=by rw [frF,h,ZC4];rfl
theorem ahh {f:Nat}{l:List ByteArray}{k:Nat}(h:decide ((k:Int)≥(l.length:Int))=false) (h2:decide (nth ab l k=⟨#[]⟩)=false):frF (f+1) l k=frF f l (k+1):=by rw [frF,h,h2];rfl
def xx (s:ay) (t:bf):Int:=frF 16 (bw s t) 0
def vk (S:ay) (t:bf):Prop:=S.rd∧bf.ok t
def jh (S:ay) (t:bf):AV:=.s (.int (xx S t))
def WR (S:ay) (t:bf):List AV:=[]
def DK:Con where
 A:=[.a xE,.a [.int,.int,.int,.int,.int,.int,.int]]
 B:=[]
 pre:=fun x b=>vk (x.1) (x.2)
 α:=fun _ _=>Unit
 φ:=fun _ _ _=>True
 r:=fun x b _=>jh (x.1) (x.2)
 o:=fun x b _=>WR (x.1) (x.2)
 nf:=0
set_option maxRecDepth 100000 in
theorem ab3:Has Tryz.prog 96 DK:=by
 refine Has.ofE (fun _=>true) (fun _=>false) (fun _=>false) (l:=[(45,df)]) ⟨iT,trivial⟩ (fn:=Tryz.f96) Tryz.func96 rfl (by decide) (aZ rfl) ?_
 rintro⟨⟨(aj:List ByteArray),(ak:List Int),(an:List Int),(ao:Int),(ah:List Pt),(aq:Int),(ai:List Pt),(ar:Bool)⟩,⟨(t1:Int),(t2:Int),(t3:Int),(t4:Int),(t5:Int),(t6:Int),(t7:Int)⟩⟩ _ (hp:vk (aj,ak,an,ao,ah,aq,ai,ar) (t1,t2,t3,t4,t5,t6,t7))
 show vc _ _ _ _ (entry [.a [.vz ab aj,.vz ag ak,.vz ag an,.int ao,.vz ae ah,.int aq,.vz ae ai,.q ar],.a [.int t1,.int t2,.int t3,.int t4,.int t5,.int t6,.int t7]] []) _
 obtain⟨dG,cA⟩:=hp
 have dG:ay.rd (aj,ak,an,ao,ah,aq,ai,ar):=dG
 have cA:bf.ok (t1,t2,t3,t4,t5,t6,t7):=cA
 have h0:0≤t7:=cA.m0
 have h1:t7≤16:=cA.m1
 have hl:(bw (aj,ak,an,ao,ah,aq,ai,ar) (t1,t2,t3,t4,t5,t6,t7)).length=t7.toNat:=fq cA
 refine⟨⟨⟨⟨aa,aa,aa,aa,aa,aa,aa,aa,aa⟩,⟨aa,aa,aa,aa,aa,aa,aa,aa⟩,aa⟩,?_,?_,?_,?_⟩,fun x1 w2=>?_⟩
 all_goals first|refine aw ?_|refine ax ?_|exact ba|(dsimp only [df,eH];omega)|exact a8|exact dG|exact cA.rd|skip
 refine cO (l:=[(45,df)]) (ex:=fun _=>true) (wr:=fun _=>false) (pt:=fun _=>false) ⟨iT,aa⟩ [.s 2,.s 3,.b 1002,.b 1003,.s 5,.b 100000] (fun y:Nat×Nat=>[(.s 6,.int y.1)]) (fun y=>y.1+y.2=16∧frF y.2 (bw (aj,ak,an,ao,ah,aq,ai,ar) (t1,t2,t3,t4,t5,t6,t7)) y.1=xx (aj,ak,an,ao,ah,aq,ai,ar) (t1,t2,t3,t4,t5,t6,t7)) (fun y=>y.2) (0,16) [] ⟨rfl,rfl⟩ dN ?_
 rintro⟨i,f⟩ ⟨(hi:i+f=16),(hr:frF f (bw (aj,ak,an,ao,ah,aq,ai,ar) (t1,t2,t3,t4,t5,t6,t7)) i=xx (aj,ak,an,ao,ah,aq,ai,ar) (t1,t2,t3,t4,t5,t6,t7))⟩
 have bU:decide ((i:Int)≥((bw (aj,ak,an,ao,ah,aq,ai,ar) (t1,t2,t3,t4,t5,t6,t7)).length:Int))=false→i<(bw (aj,ak,an,ao,ah,aq,ai,ar) (t1,t2,t3,t4,t5,t6,t7)).length:=fun h=>by have:=aA h;omega
 refine⟨fun w1=>⟨aa,fun w2=>?_,fun w3=>⟨⟨?_,?_⟩,?_,fun w4=>?_,fun w5=>⟨⟨?_,?_⟩,?_⟩⟩⟩,fun w6=>?_⟩
 all_goals first|refine aw ?_|refine ax ?_|exact ba|(dsimp only [df,eH];omega)|exact a8|exact bU w3|(show (i:Int)<((bw (aj,ak,an,ao,ah,aq,ai,ar) (t1,t2,t3,t4,t5,t6,t7)).length:Int);have:=bU w3;omega)|skip
 ·obtain⟨g,rfl⟩:∃g,f=g+1:=⟨f-1,by have:=aE (p:=(i:Int)<16) w1;omega⟩
  have e:xx (aj,ak,an,ao,ah,aq,ai,ar) (t1,t2,t3,t4,t5,t6,t7)=(i:Int):=by rw [←hr,ahj (show decide ((i:Int)≥((bw (aj,ak,an,ao,ah,aq,ai,ar) (t1,t2,t3,t4,t5,t6,t7)).length:Int))=true from w2)]
  refine⟨[],[],_,_,_,rfl,az,(),aa,?_,?_,rfl⟩
  ·(show _=jh (aj,ak,an,ao,ah,aq,ai,ar) (t1,t2,t3,t4,t5,t6,t7));unfold jh;first|(rw [e];rfl)|rfl
  ·rfl
 ·obtain⟨g,rfl⟩:∃g,f=g+1:=⟨f-1,by have:=aE (p:=(i:Int)<16) w1;omega⟩
  have e:xx (aj,ak,an,ao,ah,aq,ai,ar) (t1,t2,t3,t4,t5,t6,t7)=(i:Int):=by rw [←hr,ahi (show decide (nth ab (bw (aj,ak,an,ao,ah,aq,ai,ar) (t1,t2,t3,t4,t5,t6,t7)) i=⟨#[]⟩)=true from w4)]
  refine⟨[],[],_,_,_,rfl,az,(),aa,?_,?_,rfl⟩
  ·(show _=jh (aj,ak,an,ao,ah,aq,ai,ar) (t1,t2,t3,t4,t5,t6,t7));unfold jh;first|(rw [e];rfl)|rfl
  ·rfl
 ·obtain⟨g,rfl⟩:∃g,f=g+1:=⟨f-1,by have:=aE (p:=(i:Int)<16) w1;omega⟩
  refine⟨(i+1,g),[],?_,?_,?_⟩
  rotate_right
  ·exact bX
  ·exact⟨by show i+1+g=16;omega,by rw [←hr];exact (ahh (show decide ((i:Int)≥((bw (aj,ak,an,ao,ah,aq,ai,ar) (t1,t2,t3,t4,t5,t6,t7)).length:Int))=false from w3) (show decide (nth ab (bw (aj,ak,an,ao,ah,aq,ai,ar) (t1,t2,t3,t4,t5,t6,t7)) i=⟨#[]⟩)=false from w5)).symm⟩
  ·exact ZE0 g
 ·have hf:f=0:=by have:=aA (p:=(i:Int)<16) w6;omega
  subst hf
  have e:xx (aj,ak,an,ao,ah,aq,ai,ar) (t1,t2,t3,t4,t5,t6,t7)= -1:=by rw [←hr];rfl
  refine⟨[],[],_,_,_,rfl,az,(),aa,?_,?_,rfl⟩
  ·(show _=jh (aj,ak,an,ao,ah,aq,ai,ar) (t1,t2,t3,t4,t5,t6,t7));unfold jh;first|(rw [e];rfl)|rfl
  ·rfl
def bgB (many:Int) (x:ByteArray) (k:Nat):Bool:=decide (x=⟨#[]⟩)||(decide ((k:Int)+1<many)&&decide ((x.size:Int)≠128))
def bgF (many:Int):List ByteArray→Nat→ByteArray→ByteArray×Bool
 |[],_,out=>(out,true)
 |x::l,k,out=>bif bgB many x k then (⟨#[]⟩,false) else bgF many l (k+1) (out++x)
theorem akc {many:Int}{x:ByteArray}{l:List ByteArray}{k:Nat}{out:ByteArray}(h:decide (x=⟨#[]⟩)=true):bgF many (x::l) k out=(⟨#[]⟩,false):=by rw [bgF,bgB,h];rfl
theorem akb {many:Int}{x:ByteArray}{l:List ByteArray}{k:Nat}{out:ByteArray}(h:decide ((k:Int)+1<many)=true) (h2:decide ((x.size:Int)≠128)=true):bgF many (x::l) k out=(⟨#[]⟩,false):=by rw [bgF,bgB,h,h2,Bool.and_true,ZC4];rfl
theorem aka {many:Int}{x:ByteArray}{l:List ByteArray}{k:Nat}{out:ByteArray}(h0:decide (x=⟨#[]⟩)=false) (h:decide ((k:Int)+1<many)=true) (h2:decide ((x.size:Int)≠128)=false):bgF many (x::l) k out=bgF many l (k+1) (out++x):=by rw [bgF,bgB,h0,h,h2];rfl
theorem aj9 {many:Int}{x:ByteArray}{l:List ByteArray}{k:Nat}{out:ByteArray}(h0:decide (x=⟨#[]⟩)=false) (h:decide ((k:Int)+1<many)=false):bgF many (x::l) k out=bgF many l (k+1) (out++x):=by rw [bgF,bgB,h0,h];rfl
def c8 (s:ay) (t:bf):ByteArray×Bool:=bgF t.many (bw s t) 0 ⟨#[]⟩
def B7 (S:ay) (t:bf):Prop:=S.rd∧bf.ok t
def mK (S:ay) (t:bf):AV:=.t [.s (.str (c8 S t).1),.s (.q (c8 S t).2)]
def adl (S:ay) (t:bf):List AV:=[]
def QA:Con where
 A:=[.a xE,.a [.int,.int,.int,.int,.int,.int,.int]]
 B:=[]
 pre:=fun x b=>B7 (x.1) (x.2)
 α:=fun _ _=>Unit
 φ:=fun _ _ _=>True
 r:=fun x b _=>mK (x.1) (x.2)
 o:=fun x b _=>adl (x.1) (x.2)
 nf:=0
set_option maxRecDepth 100000 in
theorem agf:Has Tryz.prog 151 QA:=by
 refine Has.ofE (fun _=>true) (fun _=>false) (fun _=>false) (l:=[(45,df)]) ⟨iT,trivial⟩ (fn:=Tryz.f151) Tryz.func151 rfl (by decide) (aZ rfl) ?_
 rintro⟨⟨(aj:List ByteArray),(ak:List Int),(an:List Int),(ao:Int),(ah:List Pt),(aq:Int),(ai:List Pt),(ar:Bool)⟩,⟨(t1:Int),(t2:Int),(t3:Int),(t4:Int),(t5:Int),(t6:Int),(t7:Int)⟩⟩ _ (hp:B7 (aj,ak,an,ao,ah,aq,ai,ar) (t1,t2,t3,t4,t5,t6,t7))
 show vc _ _ _ _ (entry [.a [.vz ab aj,.vz ag ak,.vz ag an,.int ao,.vz ae ah,.int aq,.vz ae ai,.q ar],.a [.int t1,.int t2,.int t3,.int t4,.int t5,.int t6,.int t7]] []) _
 obtain⟨dG,cA⟩:=hp
 have dG:ay.rd (aj,ak,an,ao,ah,aq,ai,ar):=dG
 have cA:bf.ok (t1,t2,t3,t4,t5,t6,t7):=cA
 have h0:0≤t7:=cA.m0
 have h1:t7≤16:=cA.m1
 have hl:(bw (aj,ak,an,ao,ah,aq,ai,ar) (t1,t2,t3,t4,t5,t6,t7)).length=t7.toNat:=fq cA
 refine⟨⟨⟨⟨aa,aa,aa,aa,aa,aa,aa,aa,aa⟩,⟨aa,aa,aa,aa,aa,aa,aa,aa⟩,aa⟩,?_,?_,?_,?_⟩,fun x1 w2=>?_⟩
 all_goals first|refine aw ?_|refine ax ?_|exact ba|(dsimp only [df,eH];omega)|exact a8|exact dG|exact cA.rd|skip
 refine cO (l:=[(45,df)]) (ex:=fun _=>true) (wr:=fun _=>false) (pt:=fun _=>false) ⟨iT,aa⟩ [.s 2,.s 3,.b 1002,.b 1003,.s 7,.b 130000] (fun y:Nat×ByteArray=>[(.s 6,.str y.2),(.s 8,.int y.1)]) (fun y=>(y.1:Int)≤t7∧y.2.size≤1000000*y.1∧bgF t7 ((bw (aj,ak,an,ao,ah,aq,ai,ar) (t1,t2,t3,t4,t5,t6,t7)).drop y.1) y.1 y.2=c8 (aj,ak,an,ao,ah,aq,ai,ar) (t1,t2,t3,t4,t5,t6,t7)) (fun y=>t7.toNat-y.1) (0,⟨#[]⟩) [] ⟨h0,ZA8 _,rfl⟩ dN ?_
 rintro⟨i,out⟩ ⟨(hi:(i:Int)≤t7),(ho:out.size≤1000000*i),(hr:bgF t7 ((bw (aj,ak,an,ao,ah,aq,ai,ar) (t1,t2,t3,t4,t5,t6,t7)).drop i) i out=c8 (aj,ak,an,ao,ah,aq,ai,ar) (t1,t2,t3,t4,t5,t6,t7))⟩
 have bU:decide ((i:Int)<t7)=true→i<(bw (aj,ak,an,ao,ah,aq,ai,ar) (t1,t2,t3,t4,t5,t6,t7)).length:=fun h=>by have:=aE h;omega
 have dk:=W9 (wE (s:=(aj,ak,an,ao,ah,aq,ai,ar)) (t:=(t1,t2,t3,t4,t5,t6,t7)) dG) i
 refine⟨fun w1=>⟨⟨?_,?_⟩,?_,aa,fun w2=>?_,fun w3=>⟨⟨?_,?_⟩,aa,fun w4=>⟨fun w5=>?_,fun w6=>⟨?_,⟨?_,?_⟩,?_⟩⟩,fun w7=>⟨?_,⟨?_,?_⟩,?_⟩⟩⟩,fun w8=>?_⟩
 all_goals first|refine aw ?_|refine ax ?_|exact ba|(dsimp only [df,eH];omega)|exact a8|exact bU w1|(unfold imax;dsimp only;omega)|skip
 ·have mz:=bU w1
  have e:c8 (aj,ak,an,ao,ah,aq,ai,ar) (t1,t2,t3,t4,t5,t6,t7)=(⟨#[]⟩,false):=by rw [←hr,bZ (ek:=ab) mz,akc (show decide ((nth ab (bw (aj,ak,an,ao,ah,aq,ai,ar) (t1,t2,t3,t4,t5,t6,t7)) i)=⟨#[]⟩)=true from w2)]
  refine⟨[],[],_,_,_,rfl,az,(),aa,?_,?_,rfl⟩
  ·(show _=mK (aj,ak,an,ao,ah,aq,ai,ar) (t1,t2,t3,t4,t5,t6,t7));unfold mK;first|(rw [e];rfl)|rfl
  ·rfl
 ·have mz:=bU w1
  have e:c8 (aj,ak,an,ao,ah,aq,ai,ar) (t1,t2,t3,t4,t5,t6,t7)=(⟨#[]⟩,false):=by rw [←hr,bZ (ek:=ab) mz,akb w4 (show decide (((nth ab (bw (aj,ak,an,ao,ah,aq,ai,ar) (t1,t2,t3,t4,t5,t6,t7)) i).size:Int)≠128)=true from w5)]
  refine⟨[],[],_,_,_,rfl,az,(),aa,?_,?_,rfl⟩
  ·(show _=mK (aj,ak,an,ao,ah,aq,ai,ar) (t1,t2,t3,t4,t5,t6,t7));unfold mK;first|(rw [e];rfl)|rfl
  ·rfl
 ·have mz:=bU w1
  have aev:=aE (p:=(i:Int)<t7) w1
  refine⟨(i+1,out++(nth ab (bw (aj,ak,an,ao,ah,aq,ai,ar) (t1,t2,t3,t4,t5,t6,t7)) i)),[],?_,?_,?_⟩
  rotate_right
  ·exact bX
  ·refine⟨by show ((i+1:Nat):Int)≤t7;omega,by show (out++(nth ab (bw (aj,ak,an,ao,ah,aq,ai,ar) (t1,t2,t3,t4,t5,t6,t7)) i)).size≤1000000*(i+1);rw [ZB3];omega,?_⟩
   rw [←hr,bZ (ek:=ab) mz,aka (show decide ((nth ab (bw (aj,ak,an,ao,ah,aq,ai,ar) (t1,t2,t3,t4,t5,t6,t7)) i)=⟨#[]⟩)=false from w3) w4 (show decide (((nth ab (bw (aj,ak,an,ao,ah,aq,ai,ar) (t1,t2,t3,t4,t5,t6,t7)) i).size:Int)≠128)=false from w6)]
  ·show t7.toNat-(i+1)<t7.toNat-i;omega
 ·have mz:=bU w1
  have aev:=aE (p:=(i:Int)<t7) w1
  refine⟨(i+1,out++(nth ab (bw (aj,ak,an,ao,ah,aq,ai,ar) (t1,t2,t3,t4,t5,t6,t7)) i)),[],?_,?_,?_⟩
  rotate_right
  ·exact bX
  ·refine⟨by show ((i+1:Nat):Int)≤t7;omega,by show (out++(nth ab (bw (aj,ak,an,ao,ah,aq,ai,ar) (t1,t2,t3,t4,t5,t6,t7)) i)).size≤1000000*(i+1);rw [ZB3];omega,?_⟩
   rw [←hr,bZ (ek:=ab) mz,aj9 (show decide ((nth ab (bw (aj,ak,an,ao,ah,aq,ai,ar) (t1,t2,t3,t4,t5,t6,t7)) i)=⟨#[]⟩)=false from w3) w7]
  ·show t7.toNat-(i+1)<t7.toNat-i;omega
 ·have e:c8 (aj,ak,an,ao,ah,aq,ai,ar) (t1,t2,t3,t4,t5,t6,t7)=(out,true):=by rw [←hr,ZB4 (by have:=aA (p:=(i:Int)<t7) w8;omega)];rfl
  refine⟨[],[],_,_,_,rfl,az,(),aa,?_,?_,rfl⟩
  ·(show _=mK (aj,ak,an,ao,ah,aq,ai,ar) (t1,t2,t3,t4,t5,t6,t7));unfold mK;first|(rw [e];rfl)|rfl
  ·rfl
end GL
end Go.Proofs.YtbfgjadbfjkcdaaGreatDoor
