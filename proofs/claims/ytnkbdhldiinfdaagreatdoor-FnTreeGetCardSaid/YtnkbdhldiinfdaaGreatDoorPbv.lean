/- A drawn law returns true for every code (its row lists package variables, tied by the card): part 48. -/
import Derived.Test.YtnkbdhldiinfdaaGreatDoorPbg
import Derived.Test.YtnkbdhldiinfdaaGreatDoorPbu
set_option maxHeartbeats 20000000
set_option maxRecDepth 100000
set_option linter.all false
namespace Go.Proofs.YtnkbdhldiinfdaaGreatDoor
namespace GL
noncomputable section
structure apj (l:List Int):Prop where
 jK:∀b∈l,0≤b∧b≤255
theorem ao4 (s:ay) (a b:bf) (h:(amB s a b).2=true):(amB s b a).2=true∧(amB s a a).2=true∧(amB s b a).1=(amB s a b).1∧(amB s a a).1+(amW (py s a).1:Int)=a.many∧(amB s a b).1≤a.many∧(amB s a b).1≤b.many∧((py s a).1.length:Int)=a.many∧0≤(amB s a a).1∧(amB s a a).1≤a.many:=by
 have h1:(py s a).2=true:=by
  cases h1:(py s a).2 with
  |true=>rfl
  |false=>rw [anB (.inl h1)] at h;cases h
 have h2:(py s b).2=true:=by
  cases h2:(py s b).2 with
  |true=>rfl
  |false=>rw [anB (.inr h2)] at h;cases h
 rw [amX h1 h2,amX h2 h1,amX h1 h1]
 have ha:=(amH h1).1
 have hb:=(amH h2).1
 have h3:=anv (py s a).1
 have h4:=amM (py s a).1 (py s b).1
 have h5:=amM (py s a).1 (py s a).1
 refine⟨rfl,rfl,by rw [anu],?_,?_,?_,ha,Int.natCast_nonneg _,?_⟩
 ·show ((amy (py s a).1 (py s a).1:Nat):Int)+(amW (py s a).1:Int)=_;omega
 ·show ((amy (py s a).1 (py s b).1:Nat):Int)≤_;omega
 ·show ((amy (py s a).1 (py s b).1:Nat):Int)≤_;omega
 ·show ((amy (py s a).1 (py s a).1:Nat):Int)≤_;omega
theorem apg (s:ay) (t:bf):(py s t).1.length≤16:=by
 cases h:(py s t).2 with
 |true=>exact amL h
 |false=>
  rw [YI] at h
  rw [aoH h];exact ZA7 _
structure amp (X:List Pt) (m0:Int) (i:Nat) (m:Int):Prop where
 x:i≤X.length
 m:m=m0+(amW (X.take i):Int)
theorem amp.z (X:List Pt) (m0:Int):amp X m0 0 m0:=⟨ZA7 _,(Int.add_zero _).symm⟩
theorem amp.hit {X:List Pt}{m0 m:Int}{i:Nat}(h:amp X m0 i m) (h1:i<X.length) (hp:au (nth ae X i)=true):amp X m0 (i+1) (m+1):=
 ⟨h1,by rw [h.m];unfold amW;rw [GB h1,List.countP_append];simp [hp];omega⟩
theorem amp.mi {X:List Pt}{m0 m:Int}{i:Nat}(h:amp X m0 i m) (h1:i<X.length) (hp:au (nth ae X i)=false):amp X m0 (i+1) m:=
 ⟨h1,by rw [h.m];unfold amW;rw [GB h1,List.countP_append];simp [hp]⟩
theorem amp.ams {X:List Pt}{m0 m:Int}{i:Nat}(h:amp X m0 i m) (hx:X.length≤16):m0≤m∧m≤m0+16:=by
 have h1:amW (X.take i)≤(X.take i).length:=List.countP_le_length ..
 rw [ZB9] at h1
 have:=h.m;omega
theorem amp.fin {X:List Pt}{m0 m:Int}{i:Nat}(h:amp X m0 i m) (hi:¬i<X.length):m=m0+(amW X:Int):=by
 have:=h.m
 rwa [ZD1 (by omega)] at this
end
end GL
namespace GL
noncomputable section
def amR (r:List Int×Int) (t:bf):Prop:=Rdr r 950000∧-1≤t.many∧t.many≤18
def anV (r:List Int×Int) (t:bf) (z:Int×Int):Prop:=(-1≤z.1∧z.1≤18)∧r.2≤z.2∧z.2≤r.2+2
def anT (r:List Int×Int) (t:bf) (z:Int×Int):AV:=.s (.int z.1)
def an0 (r:List Int×Int) (t:bf) (z:Int×Int):List AV:=[.a [.vw mf r.1,.int z.2]]
def anb:cn where
 A:=[.b 0,.a [.int,.int,.int,.int,.int,.int,.int]]
 B:=[.a [.vw mf,.int]]
 pre:=fun x b=>amR b (x.2)
 α:=fun _ _=>Int×Int
 φ:=fun x b z=>anV b (x.2) z
 r:=fun x b z=>anT b (x.2) z
 o:=fun x b z=>an0 b (x.2) z
theorem aoh:Has Tryz.prog 30 anb:=by
 refine Has.fm zT zF zF (l:=[(58,ba)]) ⟨dh,aa⟩ Tryz.func30 ?_
 rintro⟨_,⟨(t1:Int),(t2:Int),(t3:Int),(t4:Int),(t5:Int),(t6:Int),(t7:Int)⟩⟩ ⟨(rb:List Int),(rp:Int)⟩ (hp:amR (rb,rp) (t1,t2,t3,t4,t5,t6,t7))
 show vc _ _ _ _ (entry [.s (.bp 0 0),.a [.int t1,.int t2,.int t3,.int t4,.int t5,.int t6,.int t7]] [.a [.vw mf rb,.int rp]]) _
 obtain⟨hr,xB,EW⟩:=hp
 have hr:Rdr (rb,rp) 950000:=hr
 have xB:(-1:Int)≤t7:=xB
 have EW:t7≤(18:Int):=EW
 have hp0:0≤rp:=hr.p0
 have hp1:rp≤950000:=hr.p1
 refine⟨⟨tv3,?_,?_⟩,fun x1 w2=>⟨fun w3=>⟨Sq3,Sq8,rfl,[.s 8,.b 1003],Sq9,rfl,[.s 9,.b 1010],[.s 10,.b 1010],rfl,aa,Sq0,Sq11,rfl,[.s 11,.b 0],[.s 12,.b 0],rfl,⟨tv3,?_,?_⟩,?_,fun x4 w5=>⟨[.s 10,.s 12],Sq13,rfl,⟨?_,?_⟩,[.s 13,.b 1010],Sq14,rfl,?_,Sq14,Sq4,rfl,?_⟩⟩,fun w6=>⟨⟨?_,?_⟩,⟨tv3,?_,?_⟩,fun x7 w8=>?_⟩⟩⟩
 all_goals first|refine aw ?_|refine ax ?_|exact a8|(dsimp only [ba,ck];omega)|exact a7|(have e:x1.2=rp+1:=w2.2;exact hr.at (by omega) (by omega))|exact hr.at hp0 (by omega)|(show (8:Int)≤1000000;decide)|(show (4:Int)≤1000000;decide)|exact⟨(0,_),.inl rfl,rfl⟩|exact (pk (n:=4) (by decide) w5).1|exact (pk (n:=4) (by decide) w5).2|(show x4.1.toNat<4;have h:=pk (n:=4) (by decide) w5;omega)|(show -9223372036854775808≤t7+1;omega)|(show t7+1≤9223372036854775807;omega)|(show max 1 (t7+1)≤1000000;omega)|skip
 ·have e1:x1.2=rp+1:=w2.2
  have e2:x4.2=x1.2+1:=w5.2
  refine⟨[],[],_,_,_,rfl,cf,(nth ag [-1,t7,16,15] x4.1.toNat,x4.2),⟨FC (ek:=ag) (P:=fun x:Int=> -1≤x∧x≤18) (by decide) (fun x hx=>by simp only [ZB8,ZF6,or_false] at hx;rcases hx with rfl |rfl |rfl |rfl<;>omega) _,by show rp≤x4.2;omega,by show x4.2≤rp+2;omega⟩,rfl,rfl,rfl⟩
 ·have e1:x1.2=rp+1:=w2.2
  have e2:x7.2=x1.2+1:=w8.2
  have h:=pk (n:=max 1 (t7+1)) (by omega) w8
  refine⟨[],[],_,_,_,rfl,cf,(x7.1,x7.2),⟨⟨by show -1≤x7.1;omega,by show x7.1≤18;omega⟩,by show rp≤x7.2;omega,by show x7.2≤rp+2;omega⟩,rfl,rfl,rfl⟩
def amG (c:List Int):Prop:=akb c
def anz (c:List Int) (z:ay×bf×Int):Prop:=(z.1.gone.length≤20001∧z.1.dead.length≤20001)∧-1≤z.2.2∧z.2.2≤18
def anx (c:List Int) (z:ay×bf×Int):AV:=.t [.a [.vw ab z.1.rows,.vw ag z.1.refs,.vw ag z.1.last,.int z.1.cg,.vw ae z.1.gone,.int z.1.bZ,.vw ae z.1.dead,.q z.1.same],trA z.2.1,.s (.int z.2.2)]
def anF (c:List Int) (z:ay×bf×Int):List AV:=[]
def amK:cn where
 A:=[.s (.vw mf)]
 B:=[]
 pre:=fun x b=>amG x
 α:=fun _ _=>ay×bf×Int
 φ:=fun x b z=>anz x z
 r:=fun x b z=>anx x z
 o:=fun x b z=>anF x z
theorem anM:Has Tryz.prog 8 amK:=by
 refine Has.fm zT zF zF (l:=[(28,afg),(29,ab8),(30,anb)]) ⟨ai5,aiy,aoh,aa⟩ Tryz.func8 ?_
 rintro (c:List Int) _ (hp:amG c)
 show vc _ _ _ _ (entry [.s (.vw mf c)] []) _
 have hb:akb c:=hp
 refine⟨⟨tv2,?_⟩,fun x1 w2=>⟨⟨tv2,?_⟩,fun x3 w4=>⟨[.s 6,.b 1006],Sq15,rfl,[.s 7,.b 1007],Sq16,rfl,Sq5,Sq17,rfl,[.s 7,.b 1007],Sq18,rfl,[.s 17,.s 18,.b 100000],[.s 19,.b 100000],rfl,⟨⟨aa,tv8,aa⟩,?_,?_,?_⟩,?_,fun x5 w6=>⟨[.s 2,.s 15,.b 1002],[.b 1002],rfl,[.s 3,.s 16,.b 1003],[.b 1003],rfl,Sq19,Sq4,rfl,?_⟩⟩⟩⟩
 all_goals first|refine aw ?_|refine ax ?_|exact a8|(dsimp only [afg,G7,ab8,DT,anb,amR];omega)|exact a7|exact hb|exact Rdr.at (show Rdr (x1,0) 0 from w2) (ZC1 _) (by decide)|(have a1:(0:Int)≤x3.2.2.2:=w4.2.1.1;have a2:x3.2.2.2≤0+40000:=w4.2.1.2;exact (show Rdr (x1,x3.2.2.2) 950000 from Rdr.at (show Rdr (x1,0) 0 from w2) a1 (ZE0 a2 (by decide))))|exact w4.2.2.2.1|exact w4.2.2.2.2|exact⟨((0,x3.2.2.2):Int×Int),⟨by show (-1:Int)≤0;omega,by show (0:Int)≤18;omega⟩,ZC1 _,by show x3.2.2.2≤x3.2.2.2+2;omega⟩|(show x3.2.2.1+(x3.1.rows.length-x3.2.2.1)≤x3.1.rows.length;have h:x3.2.2.1≤x3.1.rows.length:=w4.2.2.1;omega)|skip
 ·have hg:x3.1.gone.length≤20001:=w4.1.1
  have hd:x3.1.dead.length≤20001:=w4.1.2
  have ho:x3.2.2.1+(x3.1.rows.length-x3.2.2.1)≤x3.1.rows.length:=by have h:x3.2.2.1≤x3.1.rows.length:=w4.2.2.1;omega
  refine⟨[],[],_,_,_,rfl,(by repeat' (first|exact trivial|apply And.intro|exact ZA8 (ZA6 _)|assumption|(simp only [ZA2,ZA3,dC,lx,ZA0,ZA1,ZA4];omega))),(((List.drop x3.2.2.1 x3.1.rows).take (x3.1.rows.length-x3.2.2.1),(List.drop 0 x3.1.refs).take (List.length x3.1.refs),(List.drop 0 x3.1.last).take (List.length x3.1.last),x3.1.cg,(List.drop 0 x3.1.gone).take (List.length x3.1.gone),x3.1.bZ,(List.drop 0 x3.1.dead).take (List.length x3.1.dead),x3.1.same),x3.2.1,x5.1),⟨⟨by show (((List.drop 0 x3.1.gone).take (List.length x3.1.gone)).length)≤20001;rw [ZB9];exact ZB0 (Nat.min_le_left _ _) hg,by show (((List.drop 0 x3.1.dead).take (List.length x3.1.dead)).length)≤20001;rw [ZB9];exact ZB0 (Nat.min_le_left _ _) hd⟩,w6.1⟩,rfl,rfl,rfl⟩
theorem aox {s:ay}{t:bf}{k:Int}(h:(iI s&&qJ s t)=true) (hk:ik k 0 (t.many-1)=true):amF s t k=(getM s t k.toNat,true):=by
 have h1:(py s t).2=true:=YI.trans h
 have hm:=amH h1
 have hk':=cC.1 hk
 have bU:k.toNat<(py s t).1.length:=by omega
 rw [anl h1 (cC.2 ⟨hk'.1,by omega⟩)]
 have e:nth ae (aB s t) k.toNat=nth ae (py s t).1 k.toNat:=by
  rw [←aoa h1]
  unfold nth
  rw [List.getElem?_take_of_lt (by omega)]
 have h2:=((amI h1).2 _ (bR (ek:=ae) bU)).2
 unfold getM
 rw [e]
 exact Prod.ext rfl h2
theorem aob {s:ay}{t:bf}{k:Int}(h:(iI s&&qJ s t)=true) (hk:ik k 0 (t.many-1)=false):amF s t k=(⟨#[]⟩,false):=by
 have h1:(py s t).2=true:=YI.trans h
 have hm:=amH h1
 refine anm ?_
 rw [hm.1];exact hk
def am5 (S:ay) (t:bf) (k:Int):Prop:=S.gone.length≤1000000∧S.dead.length≤1000000
def amC (S:ay) (t:bf) (k:Int):AV:=.t [.s (.str (amF S t k).1),.s (.q (amF S t k).2)]
def aog (S:ay) (t:bf) (k:Int):List AV:=[]
def ant:cn where
 A:=[.a xv,.a [.int,.int,.int,.int,.int,.int,.int],.s .int]
 B:=[]
 pre:=fun x b=>am5 (x.1) (x.2.1) (x.2.2)
 r:=fun x b _=>amC (x.1) (x.2.1) (x.2.2)
 o:=fun x b _=>aog (x.1) (x.2.1) (x.2.2)
theorem aoG:Has Tryz.prog 10 ant:=by
 refine Has.fm zT zF zF (l:=[(34,afh),(35,hZ),(36,PX)]) ⟨ai6,iA,afY,aa⟩ Tryz.func10 ?_
 rintro⟨⟨(aj:List ByteArray),(ak:List Int),(an:List Int),(ao:Int),(ah:List Pt),(aq:Int),(ai:List Pt),(ar:Bool)⟩,⟨(t1:Int),(t2:Int),(t3:Int),(t4:Int),(t5:Int),(t6:Int),(t7:Int)⟩,(k:Int)⟩ _ (hp:am5 (aj,ak,an,ao,ah,aq,ai,ar) (t1,t2,t3,t4,t5,t6,t7) k)
 show vc _ _ _ _ (entry [.a [.vz ab aj,.vz ag ak,.vz ag an,.int ao,.vz ae ah,.int aq,.vz ae ai,.q ar],.a [.int t1,.int t2,.int t3,.int t4,.int t5,.int t6,.int t7],.int k] []) _
 let g':=(aj,ak,an,ao,ah,aq,ai,ar)
 let A':=(t1,t2,t3,t4,t5,t6,t7)
 obtain⟨hg,hd⟩:=hp
 have hk:(!(iI g'&&qJ g' A'))=false→KK g'∧qJ g' A'=true:=fun h=>⟨QM.1 (Bool.and_eq_true_iff.1 (cL h)).1,(Bool.and_eq_true_iff.1 (cL h)).2⟩
 have hi:(!(iI g'&&qJ g' A'))=false→(!(ik k 0 (t7-1)))=false→0≤k∧k<16:=fun h h2=>by have h3:=cC.1 (cL h2);have h4:t7≤16:=(an5 (hk h).2).1.2;omega
 refine⟨⟨⟨tv9,tv8,aa⟩,?_,?_⟩,fun x1 w2=>⟨aa,fun w3=>?_,fun w4=>⟨⟨?_,?_⟩,⟨tv4,aa⟩,fun x5 w6=>⟨fun w7=>?_,fun w8=>⟨⟨⟨tv9,tv8,tv2⟩,?_,?_,?_,?_⟩,fun x9 dy=>?_⟩⟩⟩⟩⟩
 all_goals first|refine aw ?_|refine ax ?_|exact a8|(dsimp only [afh,G8,PX,B3];omega)|exact a7|exact hg|exact hd|(show -9223372036854775808≤t7-1;have h:0≤t7:=(an5 (hk w4).2).1.1;omega)|(show t7-1≤9223372036854775807;have h:t7≤16:=(an5 (hk w4).2).1.2;omega)|exact (hk w4).1.rd|exact (ahx (hk w4).2)|exact (hi w4 w8).1|exact (hi w4 w8).2|skip
 ·have e:=ann (s:=g') (t:=A') (k:=k) (YI.trans (uv w3))
  refine⟨[],[],_,_,_,rfl,az,(),aa,?_,?_,rfl⟩
  ·(show _=amC g' A' k);unfold amC;first|(rw [e];rfl)|rfl
  ·rfl
 ·have e:=aob (s:=g') (t:=A') (k:=k) (cL w4) (uv w7)
  refine⟨[],[],_,_,_,rfl,az,(),aa,?_,?_,rfl⟩
  ·(show _=amC g' A' k);unfold amC;first|(rw [e];rfl)|rfl
  ·rfl
 ·have e:=aox (s:=g') (t:=A') (k:=k) (cL w4) (cL w8)
  refine⟨[],[],_,_,_,rfl,az,(),aa,?_,?_,rfl⟩
  ·(show _=amC g' A' k);unfold amC;first|(rw [e];rfl)|rfl
  ·rfl
def am1 (a:List ByteArray) (b:List ByteArray):Prop:=a=b∧a.length≤1000000
def amY (a:List ByteArray) (b:List ByteArray):AV:=.s (.q true)
def aod (a:List ByteArray) (b:List ByteArray):List AV:=[]
def anq:cn where
 A:=[.s (.vz ab),.s (.vz ab)]
 B:=[]
 pre:=fun x b=>am1 (x.1) (x.2)
 r:=fun x b _=>amY (x.1) (x.2)
 o:=fun x b _=>aod (x.1) (x.2)
theorem aoD:Has Tryz.prog 40 anq:=by
 refine Has.fm zT zF zF (l:=[]) trivial Tryz.func40 ?_
 rintro⟨(a:List ByteArray),(b:List ByteArray)⟩ _ (hp:am1 a b)
 show vc _ _ _ _ (entry [.s (.vz ab a),.s (.vz ab b)] []) _
 obtain⟨(he:a=b),(hl:a.length≤1000000)⟩:=hp
 have hll:a.length=b.length:=congrArg List.length he
 refine⟨fun w1=>?_,fun w2=>?_⟩
 all_goals first|refine aw ?_|refine ax ?_|exact a8|exact a7|skip
 ·exact absurd (congrArg (Nat.cast:Nat→Int) hll) (aJ w1)
 ·refine cN (l:=[]) (ex:=zT) (wr:=zF) (pt:=zF) trivial [.s 0,.s 1] (fun i:Nat=>[(.s 5,.int i)]) (fun i=>i≤a.length) (fun i=>a.length-i) 0 [] (ZA7 _) dM ?_
  rintro i (hi:i≤a.length)
  have cm:decide ((i:Int)<(a.length:Int))=true→i<a.length:=fun h=>by have:=aJ h;omega
  refine⟨fun w1=>⟨Sq0,Sq17,rfl,Sq5,Sq18,rfl,[.s 17,.s 18],Sq19,rfl,⟨?_,?_⟩,Sq19,Sq20,rfl,Sq1,Sq21,rfl,Sq5,Sq22,rfl,[.s 21,.s 22],Sq23,rfl,⟨?_,?_⟩,Sq23,Sq24,rfl,[.s 20,.s 24],Sq25,rfl,fun w2=>?_,fun w3=>⟨⟨?_,?_⟩,?_⟩⟩,fun w4=>?_⟩
  all_goals first|refine aw ?_|refine ax ?_|exact a8|exact a7|exact cm w1|(have h:=cm w1;show ((i:Int))<(b.length:Int);omega)|skip
  ·subst he;simp at w2
  ·refine⟨(i+1),[],?_,?_,?_⟩
   rotate_right
   ·exact bV
   ·show i+1≤a.length;have:=cm w1;omega
   ·show a.length-(i+1)<a.length-i;have:=cm w1;omega
  ·refine⟨[],[],_,_,_,rfl,az,(),aa,?_,?_,rfl⟩
   ·(show _=amY a b);unfold amY;first|rfl
   ·rfl
def am3 (a:List Int×List Int) (b:List Int×List Int):Prop:=a=b∧a.1.length≤1000000∧a.2.length≤1000000
def am0 (a:List Int×List Int) (b:List Int×List Int):AV:=.s (.q true)
def aof (a:List Int×List Int) (b:List Int×List Int):List AV:=[]
def ans:cn where
 A:=[.a [.vz ag,.vz ag],.a [.vz ag,.vz ag]]
 B:=[]
 pre:=fun x b=>am3 (x.1) (x.2)
 r:=fun x b _=>am0 (x.1) (x.2)
 o:=fun x b _=>aof (x.1) (x.2)
theorem aoF:Has Tryz.prog 41 ans:=by
 refine Has.fm zT zF zF (l:=[(23,anL)]) ⟨aoP,aa⟩ Tryz.func41 ?_
 rintro⟨⟨(arf:List Int),(amr:List Int)⟩,⟨(brf:List Int),(bla:List Int)⟩⟩ _ (hp:am3 (arf,amr) (brf,bla))
 show vc _ _ _ _ (entry [.a [.vz ag arf,.vz ag amr],.a [.vz ag brf,.vz ag bla]] []) _
 obtain⟨he,h1,h2⟩:=hp
 have he:(arf,amr)=(brf,bla):=he
 have e1:arf=brf:=congrArg Prod.fst he
 have e2:amr=bla:=congrArg Prod.snd he
 refine⟨⟨tv3,?_,?_⟩,fun x1 w2=>⟨aa,fun w3=>⟨⟨tv3,?_,?_⟩,fun x4 w5=>?_⟩,fun w6=>?_⟩⟩
 all_goals first|refine aw ?_|refine ax ?_|exact a8|(dsimp only [anL,ana];omega)|exact a7|exact e1|exact e2|exact h1|exact h2|skip
 ·refine⟨[],[],_,_,_,rfl,az,(),aa,?_,?_,rfl⟩
  ·(show _=am0 (arf,amr) (brf,bla));unfold am0;first|rfl
  ·rfl
 ·exact absurd w6 Bool.noConfusion
def am2 (A:ay) (B:ay):Prop:=A=B∧A.rows.length≤1000000∧A.refs.length≤1000000∧A.last.length≤1000000∧A.gone.length≤1000000∧A.dead.length≤1000000
def amZ (A:ay) (B:ay):AV:=.s (.q true)
def aoe (A:ay) (B:ay):List AV:=[]
def anr:cn where
 A:=[.a xv,.a xv]
 B:=[]
 pre:=fun x b=>am2 (x.1) (x.2)
 r:=fun x b _=>amZ (x.1) (x.2)
 o:=fun x b _=>aoe (x.1) (x.2)
theorem aoE:Has Tryz.prog 12 anr:=by
 refine Has.fm zT zF zF (l:=[(40,anq),(41,ans),(42,anK)]) ⟨aoD,aoF,aoO,aa⟩ Tryz.func12 ?_
 rintro⟨⟨(Aro:List ByteArray),(Arf:List Int),(Ala:List Int),(Atx:Int),(Ago:List Pt),(Akp:Int),(Ade:List Pt),(Asm:Bool)⟩,⟨(Bro:List ByteArray),(Brf:List Int),(Bla:List Int),(Btx:Int),(Bgo:List Pt),(Bkp:Int),(Bde:List Pt),(Bsm:Bool)⟩⟩ _ (hp:am2 (Aro,Arf,Ala,Atx,Ago,Akp,Ade,Asm) (Bro,Brf,Bla,Btx,Bgo,Bkp,Bde,Bsm))
 show vc _ _ _ _ (entry [.a [.vz ab Aro,.vz ag Arf,.vz ag Ala,.int Atx,.vz ae Ago,.int Akp,.vz ae Ade,.q Asm],.a [.vz ab Bro,.vz ag Brf,.vz ag Bla,.int Btx,.vz ae Bgo,.int Bkp,.vz ae Bde,.q Bsm]] []) _
 obtain⟨he,h1,h2,h3,h4,h5⟩:=hp
 have he:(Aro,Arf,Ala,Atx,Ago,Akp,Ade,Asm)=(Bro,Brf,Bla,Btx,Bgo,Bkp,Bde,Bsm):=he
 simp only [Prod.mk.injEq] at he
 obtain⟨e1,e2,e3,e4,e5,e6,e7,e8⟩:=he
 refine⟨⟨tv3,?_,?_⟩,fun x1 w2=>⟨aa,fun w3=>⟨⟨⟨tv3,tv3,aa⟩,?_,?_,?_⟩,fun x4 w5=>⟨aa,fun w6=>⟨aa,fun w7=>⟨⟨tv3,?_,?_⟩,fun x8 w9=>⟨aa,fun dy=>⟨aa,fun kA=>⟨⟨tv3,?_,?_⟩,fun x12 iU=>⟨aa,fun gO=>?_,fun qK=>?_⟩⟩,fun kg=>?_⟩,fun xh=>?_⟩⟩,fun rS=>?_⟩,fun oL=>?_⟩⟩,fun uI=>?_⟩⟩
 all_goals first|refine aw ?_|refine ax ?_|exact a8|(dsimp only [anq,am1,ans,am3,anK,am9];omega)|exact a7|exact e1|exact h1|exact⟨by show (Arf,Ala)=(Brf,Bla);rw [e2,e3],h2,h3⟩|(show (Arf,Ala)=(Brf,Bla);rw [e2,e3])|exact e5|exact h4|exact e7|exact h5|exact⟨h2,h3⟩|exact h2|exact h3|skip
 ·refine⟨[],[],_,_,_,rfl,az,(),aa,?_,?_,rfl⟩
  ·show AV.q _=amZ (Aro,Arf,Ala,Atx,Ago,Akp,Ade,Asm) (Bro,Brf,Bla,Btx,Bgo,Bkp,Bde,Bsm);unfold amZ;refine congrArg AV.q ?_;(subst e8;simp)
  ·rfl
 ·exact absurd qK Bool.noConfusion
 ·exact absurd e6 (aA kg)
 ·exact absurd xh Bool.noConfusion
 ·exact absurd e4 (aA rS)
 ·exact absurd oL Bool.noConfusion
 ·exact absurd uI Bool.noConfusion
def amE (S:ay) (t:bf) (k:Int) (text:ByteArray):Prop:=(S.gone.length≤1000000∧S.dead.length≤1000000)∧(py S t).2=true∧0≤k∧k<((py S t).1.length:Int)∧text=(bF S (nth ae (py S t).1 k.toNat)).1
def amD (S:ay) (t:bf) (k:Int) (text:ByteArray):AV:=.t [.a [.vw ab S.rows,.vw ag S.refs,.vw ag S.last,.int S.cg,.vw ae S.gone,.int S.bZ,.vw ae S.dead,.q S.same],trA t,.s (.q true)]
def anA (S:ay) (t:bf) (k:Int) (text:ByteArray):List AV:=[]
def amJ:cn where
 A:=[.a xv,.a [.int,.int,.int,.int,.int,.int,.int],.s .int,.s .str]
 B:=[]
 pre:=fun x b=>amE (x.1) (x.2.1) (x.2.2.1) (x.2.2.2)
 r:=fun x b _=>amD (x.1) (x.2.1) (x.2.2.1) (x.2.2.2)
 o:=fun x b _=>anA (x.1) (x.2.1) (x.2.2.1) (x.2.2.2)
theorem anI:Has Tryz.prog 11 amJ:=by
 refine Has.zB zT zF zF (l:=[(37,ab9),(32,cr),(38,anf),(39,anh)]) ⟨aiz,fM,aoj,aol,aa⟩ Tryz.func11 ?_
 rintro⟨⟨(aj:List ByteArray),(ak:List Int),(an:List Int),(ao:Int),(ah:List Pt),(aq:Int),(ai:List Pt),(ar:Bool)⟩,⟨(t1:Int),(t2:Int),(t3:Int),(t4:Int),(t5:Int),(t6:Int),(t7:Int)⟩,(k:Int),(text:ByteArray)⟩ _ (hp:amE (aj,ak,an,ao,ah,aq,ai,ar) (t1,t2,t3,t4,t5,t6,t7) k text)
 show vc _ _ _ _ (entry [.a [.vz ab aj,.vz ag ak,.vz ag an,.int ao,.vz ae ah,.int aq,.vz ae ai,.q ar],.a [.int t1,.int t2,.int t3,.int t4,.int t5,.int t6,.int t7],.int k,.str text] []) _
 obtain⟨⟨hg,hd⟩,h1,(h2:0≤k),h3,h4⟩:=hp
 have hb:(iI (aj,ak,an,ao,ah,aq,ai,ar)&&qJ (aj,ak,an,ao,ah,aq,ai,ar) (t1,t2,t3,t4,t5,t6,t7))=true:=YI.symm.trans h1
 have hst:=QM.1 (amI h1).1.1
 have hsp:=QQ hst.sp
 have hlen:=amL h1
 have h64:aj.length=64:=hst.len
 have hrf:ak.length=64:=hsp.1
 have hla:an.length=64:=hsp.2
 have dj:text.size≤128:=by
  rw [h4]
  unfold bF
  cases au (nth ae (py (aj,ak,an,ao,ah,aq,ai,ar) (t1,t2,t3,t4,t5,t6,t7)).1 k.toNat) with
  |true=>exact ZA7 _
  |false=>
   cases iX (nth ae (py (aj,ak,an,ao,ah,aq,ai,ar) (t1,t2,t3,t4,t5,t6,t7)).1 k.toNat) (nth ab (ay.rows (aj,ak,an,ao,ah,aq,ai,ar)) (nth ae (py (aj,ak,an,ao,ah,aq,ai,ar) (t1,t2,t3,t4,t5,t6,t7)).1 k.toNat).1.toNat) with
   |false=>exact ZA7 _
   |true=>
    have hb:=pT ((amI h1).2 _ (bR (ek:=ae) (show k.toNat<(py (aj,ak,an,ao,ah,aq,ai,ar) (t1,t2,t3,t4,t5,t6,t7)).1.length by omega))).1.1
    by_cases hk:(nth ae (py (aj,ak,an,ao,ah,aq,ai,ar) (t1,t2,t3,t4,t5,t6,t7)).1 k.toNat).1.toNat<64
    ·exact (hst.row _ hk).1
    ·show (nth ab aj _).size≤128
     unfold nth;rw [ZD8 (by rw [h64];omega)];exact ZA7 _
 have cm:ik k 0 15=true:=cC.2 ⟨h2,by omega⟩
 have d1:(!(iI (aj,ak,an,ao,ah,aq,ai,ar)&&qJ (aj,ak,an,ao,ah,aq,ai,ar) (t1,t2,t3,t4,t5,t6,t7)))=true→False:=fun h=>by rw [hb] at h;cases h
 have d2:(!(ik k 0 15))=true→False:=fun h=>by rw [cm] at h;cases h
 have d3:decide ((text.size:Int)>128)=true→False:=fun h=>by have:=aJ h;omega
 refine⟨⟨⟨tv9,tv8,aa⟩,?_,?_⟩,fun x1 w2=>⟨aa,fun w3=>?_,fun w4=>⟨⟨tv4,aa⟩,fun x5 w6=>⟨aa,fun w7=>?_,fun w8=>⟨fun w9=>?_,fun dy=>⟨⟨⟨tv9,aa⟩,?_,?_,?_,?_,?_⟩,fun kz dJ=>⟨⟨⟨aa,tv8,tv3⟩,?_,?_,?_,?_⟩,fun rW gO=>⟨fun qK=>?_,fun kg=>⟨[.s 11,.b 1011],Sq43,rfl,[.s 12,.b 1012],Sq44,rfl,[.s 8,.s 43,.b 1008],[.b 1008],rfl,[.s 9,.s 44,.b 1009],[.b 1009],rfl,[],Sq10,rfl,?_⟩⟩⟩⟩⟩⟩⟩⟩⟩
 all_goals first|refine aw ?_|refine ax ?_|exact a8|(dsimp only [ab9,DU,cr,df,anf,amT,anh,amV];omega)|exact a7|exact hg|exact hd|(show aj.length≤1000000;omega)|(show ak.length≤1000000;omega)|(show an.length≤1000000;omega)|exact h1|exact h2|exact h3|exact⟨h3,h4⟩|exact h4|skip
 ·exact (d1 w3).elim
 ·exact (d2 w7).elim
 ·exact (d3 w9).elim
 ·exact absurd qK (by decide)
 ·refine⟨[],[],_,_,_,rfl,az,(),aa,?_,?_,rfl⟩
  ·(show _=amD (aj,ak,an,ao,ah,aq,ai,ar) (t1,t2,t3,t4,t5,t6,t7) k text);unfold amD;first|rfl
  ·rfl
def am6 (c:List Int):Prop:=apj c
def amz (c:List Int):AV:=.s (.q true)
def anW (c:List Int):List AV:=[]
def an7:cn where
 A:=[.s (.vw mf)]
 B:=[]
 pre:=fun x b=>am6 x
 r:=fun x b _=>amz x
 o:=fun x b _=>anW x
theorem an6:Has Tryz.prog 3 an7:=by
 refine Has.zB zT zF (fun d=>true) (l:=[(8,amK),(9,ane),(10,ant),(11,amJ),(12,anr)]) ⟨anM,aoi,aoG,anI,aoE,aa⟩ Tryz.func3 ?_
 rintro (c:List Int) _ (hp:am6 c)
 show vc _ _ _ _ (entry [.s (.vw mf c)] []) _
 have hb:apj c:=hp
 have hy:∀{S:ay} {t:bf} {k:Int},(!(amF S t k).2)=false→(py S t).2=true∧0≤k∧k<((py S t).1.length:Int)∧(amF S t k).1=(bF S (nth ae (py S t).1 k.toNat)).1:=fun {S t k} h=>by
  cases h1:(py S t).2 with
  |false=>rw [ann h1] at h;cases h
  |true=>
   cases h2:ik k 0 ((py S t).1.length-1) with
   |false=>rw [anm h2] at h;cases h
   |true=>
    have h3:=cC.1 h2
    exact⟨rfl,h3.1,by omega,by rw [anl h1 h2]⟩
 have hz:∀{S:ay} {t:bf} {k:Int},(!(amF S t k).2)=false→S.rows.length≤1000000∧S.refs.length≤1000000∧S.last.length≤1000000:=fun {S t k} h=>by
  have hst:=QM.1 (amI (hy h).1).1.1
  have hsp:=QQ hst.sp
  exact⟨by rw [hst.len];decide,by rw [hsp.1];decide,by rw [hsp.2];decide⟩
 refine⟨fun w1=>?_,fun w2=>⟨⟨tv2,?_⟩,fun x3 w4=>⟨⟨⟨tv9,tv8,tv2⟩,?_,?_⟩,fun x5 w6=>⟨⟨⟨tv9,tv8,tv2⟩,?_,?_⟩,fun x7 w8=>⟨aa,fun w9=>⟨aa,fun dy=>?_,fun kA=>⟨fun dJ=>?_,fun iU=>⟨⟨⟨tv9,tv8,tv3⟩,⟨?_,?_⟩,?_,?_,?_,?_⟩,fun x14 qK=>⟨aa,fun kg=>⟨aa,fun xh=>⟨⟨⟨tv9,tv9,aa⟩,?_,?_,?_,?_,?_,?_⟩,fun qH oL=>?_⟩,fun uI=>?_⟩,fun A4=>?_⟩⟩⟩⟩,fun A3=>⟨aa,fun xK=>?_,fun rR=>⟨fun w25=>?_,fun w26=>⟨⟨⟨tv9,tv8,tv3⟩,⟨?_,?_⟩,?_,?_,?_,?_⟩,fun x27 w28=>⟨aa,fun w29=>⟨aa,fun w30=>⟨⟨⟨tv9,tv9,aa⟩,?_,?_,?_,?_,?_,?_⟩,fun x31 w32=>?_⟩,fun w33=>?_⟩,fun w34=>?_⟩⟩⟩⟩⟩⟩⟩⟩⟩
 all_goals first|refine aw ?_|refine ax ?_|exact a8|(dsimp only [amK,amG,ane,amS,ant,am5,amJ,amE,anr,am2];omega)|exact a7|exact absurd rfl (aA A3)|exact absurd A4 Bool.noConfusion|exact absurd uI (by simp)|exact (hz (S:=x3.1) (t:=x3.2.1) (k:=x3.2.2) iU).1|exact (hz (S:=x3.1) (t:=x3.2.1) (k:=x3.2.2) iU).2.1|exact (hz (S:=x3.1) (t:=x3.2.1) (k:=x3.2.2) iU).2.2|exact ZB0 w4.1.1 (by decide)|exact ZB0 w4.1.2 (by decide)|exact (hy (S:=x3.1) (t:=x3.2.1) (k:=x3.2.2) iU).1|exact (hy (S:=x3.1) (t:=x3.2.1) (k:=x3.2.2) iU).2.1|exact (hy (S:=x3.1) (t:=x3.2.1) (k:=x3.2.2) iU).2.2.1|exact (hy (S:=x3.1) (t:=x3.2.1) (k:=x3.2.2) iU).2.2.2|exact (hy (S:=x3.1) (t:=x3.2.1) (k:=x3.2.2) iU).2.2|skip
 ·refine⟨[],[],_,_,_,rfl,az,(),aa,?_,?_,rfl⟩
  ·(show _=amz c);unfold amz;first|rfl
  ·rfl
 ·have h:=aA (p:=(c.length:Int)>1048576) w2
  exact (akb.mk (l:=c) (by omega) hb.jK)
 ·exact absurd (show (!((amF x3.1 x3.2.1 x3.2.2).2==(amF x3.1 x3.2.1 x3.2.2).2))=true from dy) (by simp)
 ·refine⟨[],[],_,_,_,rfl,az,(),aa,?_,?_,rfl⟩
  ·show AV.q _=amz c;unfold amz;refine congrArg AV.q ?_;simp
  ·rfl
 all_goals first|exact absurd rfl (aA A3)|exact absurd A4 Bool.noConfusion|exact absurd uI (by simp)|skip
 ·refine⟨[],[],_,_,_,rfl,az,(),aa,?_,?_,rfl⟩
  ·show AV.q _=amz c;unfold amz;refine congrArg AV.q ?_;simp
  ·rfl
end
end GL
end Go.Proofs.YtnkbdhldiinfdaaGreatDoor
