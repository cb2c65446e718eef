/- FnTreeOk returns true for every code (its row lists package variables, tied by the card): part 18. -/
import Derived.Test.YtbfgjadbfjkcdaaGreatDoorPaq
set_option maxHeartbeats 20000000
set_option linter.all false
namespace Go.Proofs.YtbfgjadbfjkcdaaGreatDoor
namespace GL
theorem agw {f:Nat}{s:ay}{lv:Int}{kc l next stays:List Pt}{i:Nat}(h:decide ((i:Int)*4<l.length)=true) (h2:(!(ef s (qS l i) lv (nth ae kc i)).2.2)=true):fJ (f+1) s lv kc l i next stays=((ef s (qS l i) lv (nth ae kc i)).1,none):=by rw [fJ,h,h2];rfl
theorem aav {f:Nat}{s:ay}{lv:Int}{kc l next stays:List Pt}{i:Nat}(h:decide ((i:Int)*4<l.length)=true) (h2:(!(ef s (qS l i) lv (nth ae kc i)).2.2)=false):fJ (f+1) s lv kc l i next stays=fJ f (ef s (qS l i) lv (nth ae kc i)).1 lv kc l (i+1) (next++[(ef s (qS l i) lv (nth ae kc i)).2.1]) (bif ptrEq (ef s (qS l i) lv (nth ae kc i)).2.1 (nth ae kc i) then stays++[(ef s (qS l i) lv (nth ae kc i)).2.1] else stays):=by rw [fJ,h,h2];rfl
theorem agx {f:Nat}{s:ay}{lv:Int}{kc l next stays:List Pt}{i:Nat}(h:decide ((i:Int)*4<l.length)=false):fJ f s lv kc l i next stays=(s,some (next,stays)):=by
 cases f with
 |zero=>rfl
 |succ f=>rw [fJ,h];rfl
theorem PI {f:Nat}{s s':ay}{t:bf}{d lv:Int}{l stays:List Pt}(h:decide (lv≤d)=true) (h2:fJ 5 s lv (dM s t d lv) (eM l) 0 [] stays=(s',none)):my (f+1) s t d lv l stays=(s',none):=by rw [my,h,h2];rfl
theorem PH {f:Nat}{s s':ay}{t:bf}{d lv:Int}{l stays n st:List Pt}(h:decide (lv≤d)=true) (h2:fJ 5 s lv (dM s t d lv) (eM l) 0 [] stays=(s',some (n,st))):my (f+1) s t d lv l stays=my f s' t d (lv+1) n st:=by rw [my,h,h2];rfl
theorem PJ {f:Nat}{s:ay}{t:bf}{d lv:Int}{l stays:List Pt}(h:decide (lv≤d)=false):my f s t d lv l stays=(s,some (l,stays)):=by
 cases f with
 |zero=>rfl
 |succ f=>rw [my,h];rfl
theorem T9 {o:Pt}{l stays:List Pt}{s:ay}(h:gZ stays o=true):dY (o::l) stays s=dY l stays s:=by rw [dY,h];rfl
theorem UA {o:Pt}{l stays:List Pt}{s:ay}(h:gZ stays o=false):dY (o::l) stays s=dY l stays (cN s o):=by rw [dY,h];rfl
theorem afg {n:Int}(h:bl n=1):n≤4:=by
 unfold bl at h
 by_cases h1:n≤1
 ·omega
 ·rw [decide_eq_false h1] at h
  by_cases h2:n≤4
  ·exact h2
  ·rw [decide_eq_false h2] at h;cases h
def lf (S:ay) (t:bf) (l:List Pt) (many:Int):Prop:=S.wf∧t.rd∧l.length=16∧0≤many∧many≤16∧S.gone.length≤1047000∧S.dead.length≤1047000
def abd (S:ay) (t:bf) (l:List Pt) (many:Int) (z:Bool):Prop:=z=(bS S t l many).2.2
def mL (S:ay) (t:bf) (l:List Pt) (many:Int) (z:Bool):AV:=match z with |true=>.t [.a (k9 0 1 2 5 6 (bS S t l many).1),trA (bS S t l many).2.1,.s (.q true)] |false=>.t [.a (k9 0 1 2 3 4 (bS S t l many).1),trA (bS S t l many).2.1,.s (.q false)]
def qn (S:ay) (t:bf) (l:List Pt) (many:Int) (z:Bool):List AV:=match z with |true=>[.rs ab (bS S t l many).1.rows,.rs ag (bS S t l many).1.refs,.rs ag (bS S t l many).1.last,.zz,.zz,.rs ae (bS S t l many).1.gone,.rs ae (bS S t l many).1.dead] |false=>GR (bS S t l many).1++[.zz,.zz]
def j3:Con where
 A:=[.a (stB 0 1 2 3 4),.a [.int,.int,.int,.int,.int,.int,.int],.s (.vz ae),.s .int]
 B:=[.r ab,.r ag,.r ag,.r ae,.r ae]
 pre:=fun x b=>whole x.1.1 x.1.2.1 x.1.2.2.1 x.1.2.2.2.2.1 x.1.2.2.2.2.2.2.1 (b.1) (b.2.1) (b.2.2.1) (b.2.2.2.1) (b.2.2.2.2)∧lf ((b.1,b.2.1,b.2.2.1,x.1.2.2.2.1,b.2.2.2.1,x.1.2.2.2.2.2.1,b.2.2.2.2,x.1.2.2.2.2.2.2.2)) (x.2.1) (x.2.2.1) (x.2.2.2)
 α:=fun _ _=>Bool
 φ:=fun x b z=>abd ((b.1,b.2.1,b.2.2.1,x.1.2.2.2.1,b.2.2.2.1,x.1.2.2.2.2.2.1,b.2.2.2.2,x.1.2.2.2.2.2.2.2)) (x.2.1) (x.2.2.1) (x.2.2.2) z
 r:=fun x b z=>mL ((b.1,b.2.1,b.2.2.1,x.1.2.2.2.1,b.2.2.2.1,x.1.2.2.2.2.2.1,b.2.2.2.2,x.1.2.2.2.2.2.2.2)) (x.2.1) (x.2.2.1) (x.2.2.2) z
 o:=fun x b z=>qn ((b.1,b.2.1,b.2.2.1,x.1.2.2.2.1,b.2.2.2.1,x.1.2.2.2.2.2.1,b.2.2.2.2,x.1.2.2.2.2.2.2.2)) (x.2.1) (x.2.2.1) (x.2.2.2) z
 nf:=2
 mv:=true
set_option maxRecDepth 100000 in
theorem wW:Has Tryz.prog 49 j3:=by
 refine Has.ofZ (fun _=>true) (fun _=>false) (fun d=>Nat.beq d 77) (l:=[(27,dD),(81,fO),(82,j1),(83,j5),(50,cL)]) ⟨jV,po,wV,wY,gz,trivial⟩ (fn:=Tryz.f49) Tryz.func49 rfl (by decide) (aZ rfl) ?_
 rintro⟨⟨(A3:Nat),(A2:Nat),(A1:Nat),(ao:Int),(AZ:Nat),(aq:Int),(AY:Nat),(ar:Bool)⟩,⟨(t1:Int),(t2:Int),(t3:Int),(t4:Int),(t5:Int),(t6:Int),(t7:Int)⟩,(l:List Pt),(many:Int)⟩ ⟨(aj:List ByteArray),(ak:List Int),(an:List Int),(ah:List Pt),(ai:List Pt)⟩ ⟨⟨(gE:A3=List.length aj),(gD:A2=List.length ak),(gC:A1=List.length an),(gB:AZ=List.length ah),(gA:AY=List.length ai)⟩,(hp:lf (aj,ak,an,ao,ah,aq,ai,ar) (t1,t2,t3,t4,t5,t6,t7) l many)⟩
 subst gE gD gC gB gA
 show vc _ _ _ _ (entry [.a [.xs 0 1 0 aj.length,.xs 1 1 0 ak.length,.xs 2 1 0 an.length,.int ao,.xs 3 5 0 ah.length,.int aq,.xs 4 5 0 ai.length,.q ar],.a [.int t1,.int t2,.int t3,.int t4,.int t5,.int t6,.int t7],.s (.vz ae l),.int many] [.rs ab aj,.rs ag ak,.rs ag an,.rs ae ah,.rs ae ai]) _
 obtain⟨oS,sX,(alq:l.length=16),C1,hm1,(hg:ah.length≤1047000),(hd:ai.length≤1047000)⟩:=hp
 have oS:ay.wf (aj,ak,an,ao,ah,aq,ai,ar):=oS
 have sX:bf.rd (t1,t2,t3,t4,t5,t6,t7):=sX
 have amA:=I3 (aj,ak,an,ao,ah,aq,ai,ar) (t1,t2,t3,t4,t5,t6,t7)
 have alu:=MW (s:=(aj,ak,an,ao,ah,aq,ai,ar)) sX
 have hdb:=py many
 refine⟨⟨⟨aa,aa⟩,aa⟩,fun x1 w2=>⟨⟨⟨⟨⟨?_,?_⟩,⟨?_,?_⟩,⟨?_,?_⟩,aa,⟨?_,?_⟩,aa,⟨?_,?_⟩,aa,aa⟩,⟨aa,aa,aa,aa,aa,aa,aa,aa⟩,aa⟩,?_⟩,fun x3 w4=>⟨aa,⟨?_,?_,?_⟩,⟨⟨?_,?_⟩,aa⟩,aa,?_⟩⟩⟩
 all_goals first|refine aw ?_|refine ax ?_|exact ba|(dsimp only [dD,fg];omega)|(dsimp only [fO,ij];omega)|(dsimp only [j1,ld];omega)|(dsimp only [j5,lh];omega)|(dsimp only [cL,dJ];omega)|exact a8|exact oS.rd|(show 0+((l.drop _).take _).length≤1048576;rw [ZB8,ZD0];omega)|skip
 refine cO (l:=[(27,dD),(81,fO),(82,j1),(83,j5),(50,cL)]) (ex:=fun _=>true) (wr:=fun _=>false) (pt:=fun d=>Nat.beq d 77) ⟨jV,po,wV,wY,gz,trivial⟩ [.s 3,.s 4,.s 5,.b 1005,.s 8,.b 1008,.s 9,.b 1009,.s 11,.s 12,.b 310000] (fun y:Int×ay×List Pt×List Pt×Nat=>[(.s 13,.s (.xs 1035 5 0 y.2.2.1.length)),(.s 14,.s (.xs 1036 5 0 y.2.2.2.1.length)),(.s 15,.int y.1),(.b 1004,.a (k9 0 1 2 3 4 y.2.1)),(.b 0,.rs ab y.2.1.rows),(.b 1,.rs ag y.2.1.refs),(.b 2,.rs ag y.2.1.last),(.b 3,.rs ae y.2.1.gone),(.b 4,.rs ae y.2.1.dead),(.b 1035,.rs ae y.2.2.1),(.b 1036,.rs ae y.2.2.2.1)]) (fun y=>(y.2.1.wf∧y.2.1.gone.length≤1047000∧y.2.1.dead.length≤1047000)∧(1≤y.1∧y.1≤3∧y.1+y.2.2.2.2=4)∧(y.1=bl many→y.2.2.1.length≤4)∧y.2.2.1.length≤16∧y.2.2.2.1.length≤100*y.1.toNat∧my y.2.2.2.2 y.2.1 (t1,t2,t3,t4,t5,t6,t7) (bl many) y.1 y.2.2.1 y.2.2.2.1=my 3 (aj,ak,an,ao,ah,aq,ai,ar) (t1,t2,t3,t4,t5,t6,t7) (bl many) 1 (l.take many.toNat) []) (fun y=>(3-y.1).toNat) (1,(aj,ak,an,ao,ah,aq,ai,ar),l.take many.toNat,[],3) [] ⟨⟨oS,hg,hd⟩,⟨ZC1 _,by show (1:Int)≤3;omega,rfl⟩,fun h=>by have h:1=bl many:=h;have:=afg h.symm;show (l.take many.toNat).length≤4;rw [ZB8];omega,by show (l.take many.toNat).length≤16;rw [ZB8];omega,ZA8 _,rfl⟩ dN ?_
 rintro⟨lv,s,li,st,f⟩ ⟨⟨(hw:s.wf),(hsg:s.gone.length≤1047000),(xw:s.dead.length≤1047000)⟩,⟨(amy:1≤lv),(amx:lv≤3),(hf:lv+(f:Int)=4)⟩,(hd4:lv=bl many→li.length≤4),(hli:li.length≤16),(hst:st.length≤100*lv.toNat),(hr:my f s (t1,t2,t3,t4,t5,t6,t7) (bl many) lv li st=my 3 (aj,ak,an,ao,ah,aq,ai,ar) (t1,t2,t3,t4,t5,t6,t7) (bl many) 1 (l.take many.toNat) [])⟩
 refine⟨fun w1=>⟨⟨⟨⟨⟨?_,?_⟩,⟨?_,?_⟩,⟨?_,?_⟩,aa,⟨?_,?_⟩,aa,⟨?_,?_⟩,aa,aa⟩,⟨aa,aa,aa,aa,aa,aa,aa,aa⟩,aa,aa,aa⟩,?_⟩,fun x2 w3=>⟨aa,?_⟩⟩,fun w4=>?_⟩
 all_goals first|refine aw ?_|refine ax ?_|exact ba|(dsimp only [dD,fg];omega)|(dsimp only [fO,ij];omega)|(dsimp only [j1,ld];omega)|(dsimp only [j5,lh];omega)|(dsimp only [cL,dJ];omega)|exact a8|exact hw.rd|skip
 ·have amw:lv≤bl many:=aE w1
  have hcd:decide (lv≤bl many)=true:=w1
  obtain⟨g,rfl⟩:∃g,f=g+1:=⟨f-1,by omega⟩
  have hwl:=adA s (t1,t2,t3,t4,t5,t6,t7) (bl many) lv
  have hwo:=ZP (s:=s) (d:=bl many) (lv:=lv) sX
  refine cO (l:=[(27,dD),(81,fO),(82,j1),(83,j5),(50,cL)]) (ex:=fun _=>true) (wr:=fun _=>false) (pt:=fun d=>Nat.beq d 77) ⟨jV,po,wV,wY,gz,trivial⟩ [.s 3,.s 4,.s 5,.b 1005,.s 8,.b 1008,.s 9,.b 1009,.s 11,.s 12,.b 310000,.s 14,.b 1036,.s 15,.b 1004,.b 0,.b 1,.b 2,.b 3,.b 4,.s 16,.b 470000,.s 17,.b 1047] (fun y:List Pt×Nat=>[(.s 13,.s (.xs 1035 5 0 y.1.length)),(.b 1035,.rs ae y.1)]) (fun y=>CB y.2 y.1=eM li∧y.1.length≤16∧(4≤y.2+y.1.length % 4∨y.1.length % 4=0)) (fun y=>y.2) (li,4) [] ⟨rfl,hli,by show 4≤4+li.length % 4∨_;omega⟩ dN ?_
  rintro⟨lp,pf⟩ ⟨(hp1:CB pf lp=eM li),(hp2:lp.length≤16),(hp3:4≤pf+lp.length % 4∨lp.length % 4=0)⟩
  refine⟨⟨?_,?_⟩,fun w1=>⟨aa,⟨⟨?_,?_⟩,?_,?_⟩,?_⟩,fun w2=>?_⟩
  all_goals first|refine aw ?_|refine ax ?_|exact ba|(dsimp only [dD,fg];omega)|(dsimp only [fO,ij];omega)|(dsimp only [j1,ld];omega)|(dsimp only [j5,lh];omega)|(dsimp only [cL,dJ];omega)|exact a8|skip
  ·have h4:¬lp.length % 4=0:=fun h=>by have:=aE (p:=(lp.length:Int) % 4≠0) w1;omega
   obtain⟨k,rfl⟩:∃k,pf=k+1:=⟨pf-1,by omega⟩
   refine⟨(lp++[bO],k),[(1035,1055)],?_,?_,?_⟩
   rotate_right
   ·exact bX
   ·refine⟨by rw [←hp1,adh w1],by show (lp++[bO]).length≤16;rw [ZA0];show lp.length+1≤16;omega,?_⟩
    show 4≤k+(lp++[bO]).length % 4∨(lp++[bO]).length % 4=0
    rw [ZA0];show 4≤k+(lp.length+1) % 4∨(lp.length+1) % 4=0;omega
   ·exact ZE0 k
  ·have e:lp=eM li:=by rw [←hp1,adi w2]
   clear hp1 hp3
   subst e
   have rY:=HQ li
   refine cO (l:=[(27,dD),(81,fO),(82,j1),(83,j5),(50,cL)]) (ex:=fun _=>true) (wr:=fun _=>false) (pt:=fun d=>Nat.beq d 77) ⟨jV,po,wV,wY,gz,aa⟩ [.s 3,.s 4,.s 5,.b 1005,.s 8,.b 1008,.s 9,.b 1009,.s 11,.s 12,.b 310000,.s 13,.b 1035,.s 15,.s 16,.b 470000] (fun y:Nat×ay×List Pt×List Pt×Nat=>[(.s 14,.s (.xs 1036 5 0 y.2.2.2.1.length)),(.s 17,.s (.xs 1047 5 0 y.2.2.1.length)),(.s 18,.int y.1),(.b 1004,.a (k9 0 1 2 3 4 y.2.1)),(.b 0,.rs ab y.2.1.rows),(.b 1,.rs ag y.2.1.refs),(.b 2,.rs ag y.2.1.last),(.b 3,.rs ae y.2.1.gone),(.b 4,.rs ae y.2.1.dead),(.b 1036,.rs ae y.2.2.2.1),(.b 1047,.rs ae y.2.2.1)]) (fun y=>(y.2.1.wf∧y.2.1.gone.length≤1047000∧y.2.1.dead.length≤1047000)∧y.1*4≤(eM li).length∧y.2.2.1.length=y.1∧y.2.2.2.1.length≤st.length+y.1∧y.1+y.2.2.2.2=5∧fJ y.2.2.2.2 y.2.1 lv (dM s (t1,t2,t3,t4,t5,t6,t7) (bl many) lv) (eM li) y.1 y.2.2.1 y.2.2.2.1=fJ 5 s lv (dM s (t1,t2,t3,t4,t5,t6,t7) (bl many) lv) (eM li) 0 [] st) (fun y=>5-y.1) (0,s,[],st,5) [] ⟨⟨hw,hsg,xw⟩,ZA8 _,rfl,ZB6 _,rfl,rfl⟩ dN ?_
   rintro⟨i,u,nx,sy,f2⟩ ⟨⟨(hu:u.wf),(hug:u.gone.length≤1047000),(hud:u.dead.length≤1047000)⟩,(hi4:i*4≤(eM li).length),(hnx:nx.length=i),(hsy:sy.length≤st.length+i),(hf2:i+f2=5),(kg:fJ f2 u lv (dM s (t1,t2,t3,t4,t5,t6,t7) (bl many) lv) (eM li) i nx sy=fJ 5 s lv (dM s (t1,t2,t3,t4,t5,t6,t7) (bl many) lv) (eM li) 0 [] st)⟩
   have hic:decide ((i:Int)*4<((eM li).length:Int))=true→i*4<(eM li).length∧i<(dM s (t1,t2,t3,t4,t5,t6,t7) (bl many) lv).length∧i≤3:=fun h=>by
    have h1:=aE h
    refine⟨by omega,?_,by omega⟩
    by_cases hh:lv=bl many
    ·have:=hd4 hh;omega
    ·have:=hwl.2.1 hh;omega
   have hoa:=n0 (oJ hwo i)
   refine⟨⟨?_,?_⟩,fun w1=>⟨[.s 4,.b 1004],[.s 64],rfl,[.s 13],[.s 65],rfl,[.s 18],[.s 66],rfl,[.s 66],[.s 67],rfl,⟨?_,?_⟩,[.s 18],[.s 68],rfl,[.s 68],[.s 69],rfl,⟨?_,?_⟩,[.s 69],[.s 70],rfl,⟨?_,?_⟩,[.s 65,.s 67,.s 70],[.s 71],rfl,⟨?_,?_,?_⟩,[.s 15],[.s 72],rfl,[.s 16],[.s 73],rfl,[.s 18],[.s 74],rfl,[.s 73,.s 74],[.s 75],rfl,⟨?_,?_⟩,[.s 75,.b 470000],[.s 76],rfl,?_,[.s 64,.s 71,.s 72,.s 76,.b 0,.b 1,.b 2,.b 3,.b 4,.b 1035],[.s 77,.b 0,.b 1,.b 2,.b 3,.b 4],rfl,⟨⟨⟨aa,aa,aa,aa,aa,aa,aa,aa,aa⟩,?_,aa,⟨aa,aa,aa,aa,aa,aa⟩,aa⟩,⟨?_,?_,?_,?_,?_⟩,?_,?_,?_,?_⟩,?_,fun x2 w3=>⟨[.s 77],[.s 63],rfl,[.s 63],[.s 78],rfl,[.s 63],[.s 79],rfl,[.s 63],[.s 80],rfl,[.b 1019],[.s 19,.b 1019],rfl,[.b 1020],[.s 20,.b 1020],rfl,[.s 19,.s 78,.b 1019],[.b 1019],rfl,[.s 20,.s 79,.b 1020],[.b 1020],rfl,[.s 80],[.s 21],rfl,fun w4=>?_,fun w5=>⟨[.s 20,.b 1020],[.s 86],rfl,[.s 16],[.s 87],rfl,[.s 18],[.s 88],rfl,[.s 87,.s 88],[.s 89],rfl,⟨?_,?_⟩,[.s 89,.b 470000],[.s 90],rfl,?_,[.s 86,.s 90],[.s 91],rfl,fun w6=>⟨aa,⟨⟨?_,?_⟩,?_,?_⟩,aa,⟨⟨?_,?_⟩,?_,?_⟩,⟨?_,?_⟩,?_⟩,fun w7=>⟨aa,⟨⟨?_,?_⟩,?_,?_⟩,⟨?_,?_⟩,?_⟩⟩⟩⟩,fun w8=>⟨⟨?_,?_⟩,?_⟩⟩
   all_goals first|refine aw ?_|refine ax ?_|exact ba|(dsimp only [dD,fg];omega)|(dsimp only [fO,ij];omega)|(dsimp only [j1,ld];omega)|(dsimp only [j5,lh];omega)|(dsimp only [cL,dJ];omega)|exact a8|exact hu.n.1|exact hu.n.2.1|exact hu.n.2.2|exact⟨hu.n⟩|exact (hic w1).2.1|(show (i:Int)<((dM s (t1,t2,t3,t4,t5,t6,t7) (bl many) lv).length:Int);have:=hic w1;omega)|(show ((List.drop _ (eM li)).take _).length≤1000000;rw [ZB8,ZD0];omega)|exact hoa.1|exact hoa.2|(have:=hic w1;show _≤_;omega)|skip
   ·obtain⟨k,rfl⟩:∃k,f2=k+1:=⟨f2-1,by have:=hic w1;omega⟩
    have aeE:(ef u (qS (eM li) i) lv (nth ae (dM s (t1,t2,t3,t4,t5,t6,t7) (bl many) lv) i)).1=u:=acq (xv w4)
    have e0:fJ 5 s lv (dM s (t1,t2,t3,t4,t5,t6,t7) (bl many) lv) (eM li) 0 [] st=(u,none):=by rw [←kg,agw w1 (show (!(ef u (qS (eM li) i) lv (nth ae (dM s (t1,t2,t3,t4,t5,t6,t7) (bl many) lv) i)).2.2)=true from w4),aeE]
    have e1:my 3 (aj,ak,an,ao,ah,aq,ai,ar) (t1,t2,t3,t4,t5,t6,t7) (bl many) 1 (l.take many.toNat) []=(u,none):=by rw [←hr,PI hcd e0]
    have e:bS (aj,ak,an,ao,ah,aq,ai,ar) (t1,t2,t3,t4,t5,t6,t7) l many=(u,nF,false):=by unfold bS;rw [e1];rfl
    refine⟨[],[],_,_,_,rfl,az,false,2,(by show false=(bS (aj,ak,an,ao,ah,aq,ai,ar) (t1,t2,t3,t4,t5,t6,t7) l many).2.2;rw [e]),?_,?_,rfl⟩
    ·(show _=mL (aj,ak,an,ao,ah,aq,ai,ar) (t1,t2,t3,t4,t5,t6,t7) l many false);unfold mL;first|(rw [e];exact congrArg (fun x:ay=>GR x++[AV.zz,AV.zz]) aeE)|(rw [e];rfl)|rfl
    ·(show _=qn (aj,ak,an,ao,ah,aq,ai,ar) (t1,t2,t3,t4,t5,t6,t7) l many false);unfold qn;first|(rw [e];exact congrArg (fun x:ay=>GR x++[AV.zz,AV.zz]) aeE)|(rw [e];rfl)|rfl
   ·obtain⟨k,rfl⟩:∃k,f2=k+1:=⟨f2-1,by have:=hic w1;omega⟩
    have aep:=DC u (qS (eM li) i) lv (nth ae (dM s (t1,t2,t3,t4,t5,t6,t7) (bl many) lv) i)
    refine⟨(i+1,(ef u (qS (eM li) i) lv (nth ae (dM s (t1,t2,t3,t4,t5,t6,t7) (bl many) lv) i)).1,nx++[(ef u (qS (eM li) i) lv (nth ae (dM s (t1,t2,t3,t4,t5,t6,t7) (bl many) lv) i)).2.1],sy++[(ef u (qS (eM li) i) lv (nth ae (dM s (t1,t2,t3,t4,t5,t6,t7) (bl many) lv) i)).2.1],k),[(1047,1099),(1036,1095)],?_,?_,?_⟩
    rotate_right
    ·exact bX
    ·refine⟨⟨P4 hu,by show (ef u (qS (eM li) i) lv (nth ae (dM s (t1,t2,t3,t4,t5,t6,t7) (bl many) lv) i)).1.gone.length≤_;rw [aep.1];exact hug,by show (ef u (qS (eM li) i) lv (nth ae (dM s (t1,t2,t3,t4,t5,t6,t7) (bl many) lv) i)).1.dead.length≤_;rw [aep.2.1];exact hud⟩,by show (i+1)*4≤(eM li).length;have:=hic w1;omega,by show List.length (_++_)=_;rw [ZA0,hnx];rfl,?_,by show i+1+k=5;omega,?_⟩
     ·show (sy++[(ef u (qS (eM li) i) lv (nth ae (dM s (t1,t2,t3,t4,t5,t6,t7) (bl many) lv) i)).2.1]).length≤st.length+(i+1);rw [ZA0];show sy.length+1≤_;omega
     ·rw [←kg,aav w1 (show (!(ef u (qS (eM li) i) lv (nth ae (dM s (t1,t2,t3,t4,t5,t6,t7) (bl many) lv) i)).2.2)=false from w5),show ptrEq (ef u (qS (eM li) i) lv (nth ae (dM s (t1,t2,t3,t4,t5,t6,t7) (bl many) lv) i)).2.1 (nth ae (dM s (t1,t2,t3,t4,t5,t6,t7) (bl many) lv) i)=true from w6];rfl
    ·show 5-(i+1)<5-i;have:=hic w1;omega
   ·obtain⟨k,rfl⟩:∃k,f2=k+1:=⟨f2-1,by have:=hic w1;omega⟩
    have aep:=DC u (qS (eM li) i) lv (nth ae (dM s (t1,t2,t3,t4,t5,t6,t7) (bl many) lv) i)
    refine⟨(i+1,(ef u (qS (eM li) i) lv (nth ae (dM s (t1,t2,t3,t4,t5,t6,t7) (bl many) lv) i)).1,nx++[(ef u (qS (eM li) i) lv (nth ae (dM s (t1,t2,t3,t4,t5,t6,t7) (bl many) lv) i)).2.1],sy,k),[(1047,1099)],?_,?_,?_⟩
    rotate_right
    ·exact bX
    ·refine⟨⟨P4 hu,by show (ef u (qS (eM li) i) lv (nth ae (dM s (t1,t2,t3,t4,t5,t6,t7) (bl many) lv) i)).1.gone.length≤_;rw [aep.1];exact hug,by show (ef u (qS (eM li) i) lv (nth ae (dM s (t1,t2,t3,t4,t5,t6,t7) (bl many) lv) i)).1.dead.length≤_;rw [aep.2.1];exact hud⟩,by show (i+1)*4≤(eM li).length;have:=hic w1;omega,by show List.length (_++_)=_;rw [ZA0,hnx];rfl,?_,by show i+1+k=5;omega,?_⟩
     ·show sy.length≤st.length+(i+1);omega
     ·rw [←kg,aav w1 (show (!(ef u (qS (eM li) i) lv (nth ae (dM s (t1,t2,t3,t4,t5,t6,t7) (bl many) lv) i)).2.2)=false from w5),show ptrEq (ef u (qS (eM li) i) lv (nth ae (dM s (t1,t2,t3,t4,t5,t6,t7) (bl many) lv) i)).2.1 (nth ae (dM s (t1,t2,t3,t4,t5,t6,t7) (bl many) lv) i)=false from w7];rfl
    ·show 5-(i+1)<5-i;have:=hic w1;omega
   ·have e0:fJ 5 s lv (dM s (t1,t2,t3,t4,t5,t6,t7) (bl many) lv) (eM li) 0 [] st=(u,some (nx,sy)):=by rw [←kg,agx w8]
    have FX:¬i*4<(eM li).length:=by have:=aA (p:=(i:Int)*4<((eM li).length:Int)) w8;omega
    refine⟨(lv+1,u,nx,sy,g),[(1035,1047)],?_,?_,?_⟩
    rotate_right
    ·exact bX
    ·refine⟨⟨hu,hug,hud⟩,⟨by show 1≤lv+1;omega,by show lv+1≤3;omega,by show lv+1+(g:Int)=4;omega⟩,fun _=>by show nx.length≤4;omega,by show nx.length≤16;omega,by show sy.length≤100*(lv+1).toNat;omega,?_⟩
     rw [←hr,PH hcd e0]
    ·show (3-(lv+1)).toNat<(3-lv).toNat;omega
 ·have e1:my 3 (aj,ak,an,ao,ah,aq,ai,ar) (t1,t2,t3,t4,t5,t6,t7) (bl many) 1 (l.take many.toNat) []=(s,some (li,st)):=by rw [←hr,PJ w4]
  refine cO (l:=[(27,dD),(81,fO),(82,j1),(83,j5),(50,cL)]) (ex:=fun _=>true) (wr:=fun _=>false) (pt:=fun d=>Nat.beq d 77) ⟨jV,po,wV,wY,gz,aa⟩ [.s 3,.s 4,.s 8,.b 1008,.s 9,.b 1009,.s 11,.s 12,.b 310000,.s 13,.b 1035,.s 14,.b 1036] (fun y:Nat×ay=>[(.s 22,.int y.1),(.b 1004,.a (k9 0 1 2 1000000001 1000000002 y.2)),(.b 0,.rs ab y.2.rows),(.b 1,.rs ag y.2.refs),(.b 2,.rs ag y.2.last),(.b 1000000001,.rs ae y.2.gone),(.b 1000000002,.rs ae y.2.dead)]) (fun y=>y.2.wf∧y.1≤(bA (aj,ak,an,ao,ah,aq,ai,ar) (t1,t2,t3,t4,t5,t6,t7)).length∧(y.2.gone.length≤1047000+y.1∧y.2.dead.length≤1047000+y.1)∧dY ((bA (aj,ak,an,ao,ah,aq,ai,ar) (t1,t2,t3,t4,t5,t6,t7)).drop y.1) st y.2=dY (bA (aj,ak,an,ao,ah,aq,ai,ar) (t1,t2,t3,t4,t5,t6,t7)) st s) (fun y=>(bA (aj,ak,an,ao,ah,aq,ai,ar) (t1,t2,t3,t4,t5,t6,t7)).length-y.1) (0,s) [(1000000001,3),(1000000002,4)] ⟨hw,ZA8 _,⟨hsg,xw⟩,rfl⟩ dN ?_
  rintro⟨i,u⟩ ⟨(hu:u.wf),(hi:i≤(bA (aj,ak,an,ao,ah,aq,ai,ar) (t1,t2,t3,t4,t5,t6,t7)).length),⟨(hug:u.gone.length≤1047000+i),(hud:u.dead.length≤1047000+i)⟩,(kg:dY ((bA (aj,ak,an,ao,ah,aq,ai,ar) (t1,t2,t3,t4,t5,t6,t7)).drop i) st u=dY (bA (aj,ak,an,ao,ah,aq,ai,ar) (t1,t2,t3,t4,t5,t6,t7)) st s)⟩
  have cP:i<(bA (aj,ak,an,ao,ah,aq,ai,ar) (t1,t2,t3,t4,t5,t6,t7)).length→(bA (aj,ak,an,ao,ah,aq,ai,ar) (t1,t2,t3,t4,t5,t6,t7)).drop i=nth ae (bA (aj,ak,an,ao,ah,aq,ai,ar) (t1,t2,t3,t4,t5,t6,t7)) i::(bA (aj,ak,an,ao,ah,aq,ai,ar) (t1,t2,t3,t4,t5,t6,t7)).drop (i+1):=fun h=>bZ (ek:=ae) h
  have hia:=n0 (oJ alu i)
  have cr:decide ((i:Int)<((bA (aj,ak,an,ao,ah,aq,ai,ar) (t1,t2,t3,t4,t5,t6,t7)).length:Int))=true→i<(bA (aj,ak,an,ao,ah,aq,ai,ar) (t1,t2,t3,t4,t5,t6,t7)).length:=fun h=>by have:=aE h;omega
  refine⟨fun w1=>?_,fun w2=>⟨fun w3=>⟨⟨?_,?_⟩,?_,[.s 4,.b 1004],[.s 140],rfl,[.s 25,.b 1025],[.s 141],rfl,[.s 11],[.s 142],rfl,[.s 3],[.s 143],rfl,[.s 141,.s 142,.s 143],[.s 144],rfl,[.s 8,.s 140,.b 1008],[.b 1008],rfl,[.s 9,.s 144,.b 1009],[.b 1009],rfl,[],[.s 10],rfl,?_⟩,fun w4=>⟨[.s 4,.b 1004],[.s 140],rfl,[.s 25,.b 1025],[.s 141],rfl,[.s 11],[.s 142],rfl,[.s 3],[.s 143],rfl,[.s 141,.s 142,.s 143],[.s 144],rfl,[.s 8,.s 140,.b 1008],[.b 1008],rfl,[.s 9,.s 144,.b 1009],[.b 1009],rfl,[],[.s 10],rfl,?_⟩⟩⟩
  all_goals first|refine aw ?_|refine ax ?_|exact ba|(dsimp only [dD,fg];omega)|(dsimp only [fO,ij];omega)|(dsimp only [j1,ld];omega)|(dsimp only [j5,lh];omega)|(dsimp only [cL,dJ];omega)|exact a8|skip
  ·have hci:decide ((i:Int)<((bA (aj,ak,an,ao,ah,aq,ai,ar) (t1,t2,t3,t4,t5,t6,t7)).length:Int))=true:=w1
   have aeC:=cr hci
   refine cO (l:=[(27,dD),(81,fO),(82,j1),(83,j5),(50,cL)]) (ex:=fun _=>true) (wr:=fun _=>false) (pt:=fun d=>Nat.beq d 77) ⟨jV,po,wV,wY,gz,aa⟩ [.s 3,.s 4,.s 8,.b 1008,.s 9,.b 1009,.s 11,.s 12,.b 310000,.s 13,.b 1035,.s 14,.b 1036,.s 22,.b 1004,.b 0,.b 1,.b 2,.b 1000000001,.b 1000000002] (fun y:Nat×Bool=>[(.s 23,.s (.q y.2)),(.s 24,.int y.1)]) (fun y=>y.1≤st.length∧(y.2||gZ (st.drop y.1) (nth ae (bA (aj,ak,an,ao,ah,aq,ai,ar) (t1,t2,t3,t4,t5,t6,t7)) i))=gZ st (nth ae (bA (aj,ak,an,ao,ah,aq,ai,ar) (t1,t2,t3,t4,t5,t6,t7)) i)) (fun y=>st.length-y.1) (0,false) [] ⟨ZA8 _,rfl⟩ dN ?_
   rintro⟨k,kp⟩ ⟨(hk:k≤st.length),(hkr:(kp||gZ (st.drop k) (nth ae (bA (aj,ak,an,ao,ah,aq,ai,ar) (t1,t2,t3,t4,t5,t6,t7)) i))=gZ st (nth ae (bA (aj,ak,an,ao,ah,aq,ai,ar) (t1,t2,t3,t4,t5,t6,t7)) i))⟩
   have acf:decide ((k:Int)<(st.length:Int))=true→k<st.length:=fun h=>by have:=aE h;omega
   have hks:k<st.length→gZ (st.drop k) (nth ae (bA (aj,ak,an,ao,ah,aq,ai,ar) (t1,t2,t3,t4,t5,t6,t7)) i)=(ptrEq (nth ae st k) (nth ae (bA (aj,ak,an,ao,ah,aq,ai,ar) (t1,t2,t3,t4,t5,t6,t7)) i)||gZ (st.drop (k+1)) (nth ae (bA (aj,ak,an,ao,ah,aq,ai,ar) (t1,t2,t3,t4,t5,t6,t7)) i)):=fun h=>by rw [bZ (ek:=ae) h];rfl
   refine⟨fun w1=>⟨[.s 23],[.s 113],rfl,[.s 113],[.s 114],rfl,aa,fun w2=>⟨[.s 114],[.s 115],rfl,[.s 114],[.s 116],rfl,[.s 114],[.s 117],rfl,[.s 114],[.s 118],rfl,[.s 114],[.s 119],rfl,[.s 114],[.s 120],rfl,[.s 114],[.s 121],rfl,[.s 114],[.s 122],rfl,[.s 114],[.s 123],rfl,[.s 114,.s 123],[.s 124],rfl,[.s 124],[.s 23],rfl,⟨?_,?_⟩,?_⟩,fun w3=>⟨[.s 114,.s 14],[.s 115],rfl,[.s 114,.s 24],[.s 116],rfl,[.s 114,.s 115,.s 116],[.s 117],rfl,⟨?_,?_⟩,[.s 114,.s 117,.b 1036],[.s 118],rfl,?_,[.s 114,.s 12],[.s 119],rfl,[.s 114,.s 22],[.s 120],rfl,[.s 114,.s 119,.s 120],[.s 121],rfl,⟨?_,?_⟩,[.s 114,.s 121,.b 310000],[.s 122],rfl,?_,[.s 114,.s 118,.s 122],[.s 123],rfl,[.s 114,.s 123],[.s 124],rfl,[.s 124],[.s 23],rfl,⟨?_,?_⟩,?_⟩⟩,fun w4=>⟨fun w5=>⟨[.s 4,.b 1004],[.s 127],rfl,[.s 12],[.s 128],rfl,[.s 22],[.s 129],rfl,[.s 128,.s 129],[.s 130],rfl,⟨?_,?_⟩,[.s 130,.b 310000],[.s 131],rfl,?_,[.s 127,.s 131,.b 0,.b 1,.b 2,.b 1000000001,.b 1000000002,.b 1001330001,.b 1001330000],[.s 132,.b 0,.b 1,.b 2,.b 1000000001,.b 1000000002,.b 1001330000,.b 1001330001],rfl,⟨⟨⟨aa,aa,aa,aa,aa,aa,aa,aa,aa⟩,⟨aa,aa,aa,aa,aa,aa⟩,aa⟩,⟨?_,?_,?_,?_,?_⟩,⟨?_,?_,?_⟩,?_,?_,?_,?_⟩,?_,fun x6 w7=>⟨[.s 4,.s 132,.b 1004],[.b 1004],rfl,⟨?_,?_⟩,?_⟩⟩,fun w8=>⟨⟨?_,?_⟩,?_⟩⟩⟩
   all_goals first|refine aw ?_|refine ax ?_|exact ba|(dsimp only [dD,fg];omega)|(dsimp only [fO,ij];omega)|(dsimp only [j1,ld];omega)|(dsimp only [j5,lh];omega)|(dsimp only [cL,dJ];omega)|exact a8|exact acf w1|exact aeC|exact aE hci|exact hu.n.1|exact hu.n.2.1|exact hu.n.2.2|exact hia.1|exact hia.2|(show u.gone.length≤1048000;omega)|(show u.dead.length≤1048000;omega)|skip
   ·refine⟨(k+1,true),[],?_,?_,?_⟩
    rotate_right
    ·exact bX
    ·exact⟨acf w1,by show (true||_)=_;rw [←hkr,show kp=true from w2];rfl⟩
    ·show st.length-(k+1)<st.length-k;have:=acf w1;omega
   ·refine⟨(k+1,ptrEq (nth ae st k) (nth ae (bA (aj,ak,an,ao,ah,aq,ai,ar) (t1,t2,t3,t4,t5,t6,t7)) i)),[],?_,?_,?_⟩
    rotate_right
    ·exact bX
    ·exact⟨acf w1,by show (ptrEq (nth ae st k) (nth ae (bA (aj,ak,an,ao,ah,aq,ai,ar) (t1,t2,t3,t4,t5,t6,t7)) i)||gZ (st.drop (k+1)) (nth ae (bA (aj,ak,an,ao,ah,aq,ai,ar) (t1,t2,t3,t4,t5,t6,t7)) i))=_;rw [←hkr,show kp=false from w3,hks (acf w1)];rfl⟩
    ·show st.length-(k+1)<st.length-k;have:=acf w1;omega
   ·have alr:¬k<st.length:=by have:=aA (p:=(k:Int)<(st.length:Int)) w4;omega
    have e:gZ st (nth ae (bA (aj,ak,an,ao,ah,aq,ai,ar) (t1,t2,t3,t4,t5,t6,t7)) i)=false:=by rw [←hkr,show kp=false from xv w5,ZB4 (by omega)];rfl
    have JD:=pv u (nth ae (bA (aj,ak,an,ao,ah,aq,ai,ar) (t1,t2,t3,t4,t5,t6,t7)) i)
    refine⟨(i+1,cN u (nth ae (bA (aj,ak,an,ao,ah,aq,ai,ar) (t1,t2,t3,t4,t5,t6,t7)) i)),[(1000000001,1001330000),(1000000002,1001330001)],?_,?_,?_⟩
    rotate_right
    ·exact bX
    ·exact⟨qw hu,aeC,⟨by show (cN u (nth ae (bA (aj,ak,an,ao,ah,aq,ai,ar) (t1,t2,t3,t4,t5,t6,t7)) i)).gone.length≤1047000+(i+1);omega,by show (cN u (nth ae (bA (aj,ak,an,ao,ah,aq,ai,ar) (t1,t2,t3,t4,t5,t6,t7)) i)).dead.length≤1047000+(i+1);omega⟩,by rw [←kg,cP aeC,UA e]⟩
    ·show (bA (aj,ak,an,ao,ah,aq,ai,ar) (t1,t2,t3,t4,t5,t6,t7)).length-(i+1)<(bA (aj,ak,an,ao,ah,aq,ai,ar) (t1,t2,t3,t4,t5,t6,t7)).length-i;omega
   ·have alr:¬k<st.length:=by have:=aA (p:=(k:Int)<(st.length:Int)) w4;omega
    have e:gZ st (nth ae (bA (aj,ak,an,ao,ah,aq,ai,ar) (t1,t2,t3,t4,t5,t6,t7)) i)=true:=by rw [←hkr,show kp=true from cI w8];rfl
    refine⟨(i+1,u),[],?_,?_,?_⟩
    rotate_right
    ·exact bX
    ·exact⟨hu,aeC,⟨by show u.gone.length≤1047000+(i+1);omega,by show u.dead.length≤1047000+(i+1);omega⟩,by rw [←kg,cP aeC,T9 e]⟩
    ·show (bA (aj,ak,an,ao,ah,aq,ai,ar) (t1,t2,t3,t4,t5,t6,t7)).length-(i+1)<(bA (aj,ak,an,ao,ah,aq,ai,ar) (t1,t2,t3,t4,t5,t6,t7)).length-i;omega
  ·have alw:¬i<(bA (aj,ak,an,ao,ah,aq,ai,ar) (t1,t2,t3,t4,t5,t6,t7)).length:=by have:=aA (p:=(i:Int)<((bA (aj,ak,an,ao,ah,aq,ai,ar) (t1,t2,t3,t4,t5,t6,t7)).length:Int)) w2;omega
   have e2:dY (bA (aj,ak,an,ao,ah,aq,ai,ar) (t1,t2,t3,t4,t5,t6,t7)) st s=u:=by rw [←kg,ZB4 (by omega)];rfl
   have e:bS (aj,ak,an,ao,ah,aq,ai,ar) (t1,t2,t3,t4,t5,t6,t7) l many=(u,L9 (nth ae li 0) (bl many) many,true):=by
    unfold bS;rw [e1];show (dY (bA (aj,ak,an,ao,ah,aq,ai,ar) (t1,t2,t3,t4,t5,t6,t7)) st s,L9 (rootOf li) (bl many) many,true)=_
    rw [e2,rootOf,show decide ((li.length:Int)>0)=true from w3];rfl
   refine⟨[1000000001,1000000002],[],_,_,_,rfl,az,true,0,(by show true=(bS (aj,ak,an,ao,ah,aq,ai,ar) (t1,t2,t3,t4,t5,t6,t7) l many).2.2;rw [e]),?_,?_,rfl⟩
   ·(show _=mL (aj,ak,an,ao,ah,aq,ai,ar) (t1,t2,t3,t4,t5,t6,t7) l many true);unfold mL;first|(rw [e];rfl)|rfl
   ·(show _=qn (aj,ak,an,ao,ah,aq,ai,ar) (t1,t2,t3,t4,t5,t6,t7) l many true);unfold qn;first|(rw [e];rfl)|rfl
  ·have alw:¬i<(bA (aj,ak,an,ao,ah,aq,ai,ar) (t1,t2,t3,t4,t5,t6,t7)).length:=by have:=aA (p:=(i:Int)<((bA (aj,ak,an,ao,ah,aq,ai,ar) (t1,t2,t3,t4,t5,t6,t7)).length:Int)) w2;omega
   have e2:dY (bA (aj,ak,an,ao,ah,aq,ai,ar) (t1,t2,t3,t4,t5,t6,t7)) st s=u:=by rw [←kg,ZB4 (by omega)];rfl
   have e:bS (aj,ak,an,ao,ah,aq,ai,ar) (t1,t2,t3,t4,t5,t6,t7) l many=(u,L9 bO (bl many) many,true):=by
    unfold bS;rw [e1];show (dY (bA (aj,ak,an,ao,ah,aq,ai,ar) (t1,t2,t3,t4,t5,t6,t7)) st s,L9 (rootOf li) (bl many) many,true)=_
    rw [e2,rootOf,show decide ((li.length:Int)>0)=false from w4];rfl
   refine⟨[1000000001,1000000002],[],_,_,_,rfl,az,true,0,(by show true=(bS (aj,ak,an,ao,ah,aq,ai,ar) (t1,t2,t3,t4,t5,t6,t7) l many).2.2;rw [e]),?_,?_,rfl⟩
   ·(show _=mL (aj,ak,an,ao,ah,aq,ai,ar) (t1,t2,t3,t4,t5,t6,t7) l many true);unfold mL;first|(rw [e];rfl)|rfl
   ·(show _=qn (aj,ak,an,ao,ah,aq,ai,ar) (t1,t2,t3,t4,t5,t6,t7) l many true);unfold qn;first|(rw [e];rfl)|rfl
end GL
end Go.Proofs.YtbfgjadbfjkcdaaGreatDoor
