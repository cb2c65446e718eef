/- A drawn law returns true for every code (its row lists package variables, tied by the card): part 21. -/
import Derived.Test.YtkgpljpmdkflmaaGreatDoorPat
set_option maxHeartbeats 20000000
set_option maxRecDepth 100000
set_option linter.all false
namespace Go.Proofs.YtkgpljpmdkflmaaGreatDoor
namespace GL
theorem af7 {f:Nat}{s:ay}{lv:Int}{kc l next stays:List Pt}{i:Nat}(h:decide ((i:Int)*4<l.length)=true) (h2:(!(ef s (qR l i) lv (nth ae kc i)).2.2)=true):fJ (f+1) s lv kc l i next stays=((ef s (qR l i) lv (nth ae kc i)).1,none):=by rw [fJ,h,h2];rfl
theorem aab {f:Nat}{s:ay}{lv:Int}{kc l next stays:List Pt}{i:Nat}(h:decide ((i:Int)*4<l.length)=true) (h2:(!(ef s (qR l i) lv (nth ae kc i)).2.2)=false):fJ (f+1) s lv kc l i next stays=fJ f (ef s (qR l i) lv (nth ae kc i)).1 lv kc l (i+1) (next++[(ef s (qR l i) lv (nth ae kc i)).2.1]) (bif ptrEq (ef s (qR l i) lv (nth ae kc i)).2.1 (nth ae kc i) then stays++[(ef s (qR l i) lv (nth ae kc i)).2.1] else stays):=by rw [fJ,h,h2];rfl
theorem af8 {f:Nat}{s:ay}{lv:Int}{kc l next stays:List Pt}{i:Nat}(h:decide ((i:Int)*4<l.length)=false):fJ f s lv kc l i next stays=(s,some (next,stays)):=by
 cases f with
 |zero=>rfl
 |succ f=>rw [fJ,h];rfl
theorem O4 {f:Nat}{s s':ay}{t:bf}{d lv:Int}{l stays:List Pt}(h:decide (lv≤d)=true) (h2:fJ 5 s lv (dM s t d lv) (eL l) 0 [] stays=(s',none)):mr (f+1) s t d lv l stays=(s',none):=by rw [mr,h,h2];rfl
theorem O3 {f:Nat}{s s':ay}{t:bf}{d lv:Int}{l stays n st:List Pt}(h:decide (lv≤d)=true) (h2:fJ 5 s lv (dM s t d lv) (eL l) 0 [] stays=(s',some (n,st))):mr (f+1) s t d lv l stays=mr f s' t d (lv+1) n st:=by rw [mr,h,h2];rfl
theorem O5 {f:Nat}{s:ay}{t:bf}{d lv:Int}{l stays:List Pt}(h:decide (lv≤d)=false):mr f s t d lv l stays=(s,some (l,stays)):=by
 cases f with
 |zero=>rfl
 |succ f=>rw [mr,h];rfl
theorem TO {o:Pt}{l stays:List Pt}{s:ay}(h:gY stays o=true):dY (o::l) stays s=dY l stays s:=by rw [dY,h];rfl
theorem TP {o:Pt}{l stays:List Pt}{s:ay}(h:gY stays o=false):dY (o::l) stays s=dY l stays (cN s o):=by rw [dY,h];rfl
theorem aeR {n:Int}(h:bj n=1):n≤4:=by
 unfold bj at h
 by_cases h1:n≤1
 ·omega
 ·rw [decide_eq_false h1] at h
  by_cases h2:n≤4
  ·exact h2
  ·rw [decide_eq_false h2] at h;cases h
def k7 (S:ay) (t:bf) (l:List Pt) (many:Int):Prop:=S.wf∧t.rd∧l.length=16∧0≤many∧many≤16∧S.gone.length≤1047000∧S.dead.length≤1047000
def aaT (S:ay) (t:bf) (l:List Pt) (many:Int) (z:Bool):Prop:=z=(bR S t l many).2.2
def mI (S:ay) (t:bf) (l:List Pt) (many:Int) (z:Bool):AV:=match z with |true=>.t [.a (kZ 0 1 2 5 6 (bR S t l many).1),trA (bR S t l many).2.1,.s (.q true)] |false=>.t [.a (kZ 0 1 2 3 4 (bR S t l many).1),trA (bR S t l many).2.1,.s (.q false)]
def qk (S:ay) (t:bf) (l:List Pt) (many:Int) (z:Bool):List AV:=match z with |true=>[.rs ab (bR S t l many).1.rows,.rs ag (bR S t l many).1.refs,.rs ag (bR S t l many).1.last,.zz,.zz,.rs ae (bR S t l many).1.gone,.rs ae (bR S t l many).1.dead] |false=>GD (bR S t l many).1++[.zz,.zz]
def j4:ct where
 A:=[.a (stB 0 1 2 3 4),.a [.int,.int,.int,.int,.int,.int,.int],.s (.vz ae),.s .int]
 B:=[.r ab,.r ag,.r ag,.r ae,.r ae]
 pre:=fun x b=>stW x.1 b∧k7 (gQ x.1 b) (x.2.1) (x.2.2.1) (x.2.2.2)
 α:=fun _ _=>Bool
 φ:=fun x b z=>aaT (gQ x.1 b) (x.2.1) (x.2.2.1) (x.2.2.2) z
 r:=fun x b z=>mI (gQ x.1 b) (x.2.1) (x.2.2.1) (x.2.2.2) z
 o:=fun x b z=>qk (gQ x.1 b) (x.2.1) (x.2.2.1) (x.2.2.2) z
 nf:=2
 mv:=true
theorem wR:Has Tryz.prog 121 j4:=by
 refine Has.ofZ zT zF (fun d=>Nat.beq d 77) (l:=[(116,dD),(164,fO),(165,j3),(166,j6),(122,cK)]) ⟨jW,pg,wQ,wT,gy,aa⟩ Tryz.func121 ?_
 rintro⟨⟨(AU:Nat),(AT:Nat),(AS:Nat),(ao:Int),(AR:Nat),(aq:Int),(AQ:Nat),(ar:Bool)⟩,⟨(t1:Int),(t2:Int),(t3:Int),(t4:Int),(t5:Int),(t6:Int),(t7:Int)⟩,(l:List Pt),(many:Int)⟩ ⟨(aj:List ByteArray),(ak:List Int),(an:List Int),(ah:List Pt),(ai:List Pt)⟩ ⟨⟨(gD:AU=List.length aj),(gC:AT=List.length ak),(gB:AS=List.length an),(gA:AR=List.length ah),(gz:AQ=List.length ai)⟩,(hp:k7 (aj,ak,an,ao,ah,aq,ai,ar) (t1,t2,t3,t4,t5,t6,t7) l many)⟩
 subst gD gC gB gA gz
 show vc _ _ _ _ (entry [.a [.xs 0 1 0 aj.length,.xs 1 1 0 ak.length,.xs 2 1 0 an.length,.int ao,.xs 3 5 0 ah.length,.int aq,.xs 4 5 0 ai.length,.q ar],.a [.int t1,.int t2,.int t3,.int t4,.int t5,.int t6,.int t7],.s (.vz ae l),.int many] [.rs ab aj,.rs ag ak,.rs ag an,.rs ae ah,.rs ae ai]) _
 obtain⟨oP,sV,(ak1:l.length=16),CW,hm1,(hg:ah.length≤1047000),(hd:ai.length≤1047000)⟩:=hp
 have oP:ay.wf (aj,ak,an,ao,ah,aq,ai,ar):=oP
 have sV:bf.rd (t1,t2,t3,t4,t5,t6,t7):=sV
 have amd:=IS (aj,ak,an,ao,ah,aq,ai,ar) (t1,t2,t3,t4,t5,t6,t7)
 have ak4:=MJ (s:=(aj,ak,an,ao,ah,aq,ai,ar)) sV
 have hdb:=pq many
 refine⟨⟨⟨aa,aa⟩,aa⟩,fun x1 w2=>⟨⟨⟨⟨⟨?_,?_⟩,⟨?_,?_⟩,⟨?_,?_⟩,aa,⟨?_,?_⟩,aa,⟨?_,?_⟩,aa,aa⟩,⟨aa,aa,aa,aa,aa,aa,aa,aa⟩,aa⟩,?_⟩,fun x3 w4=>⟨aa,⟨?_,?_,?_⟩,⟨⟨?_,?_⟩,aa⟩,aa,?_⟩⟩⟩
 all_goals first|refine aw ?_|refine ax ?_|exact a8|(dsimp only [dD,ff,fO,ig,j3,k6,j6,k9,cK,dI,gQ];omega)|exact a7|exact oP.rd|(show 0+((l.drop _).take _).length≤1048576;rw [ZC0,ZD0];omega)|skip
 refine cO (l:=[(116,dD),(164,fO),(165,j3),(166,j6),(122,cK)]) (ex:=zT) (wr:=zF) (pt:=fun d=>Nat.beq d 77) ⟨jW,pg,wQ,wT,gy,trivial⟩ [.s 3,.s 4,.s 5,.b 1005,.s 8,.b 1008,.s 9,.b 1009,.s 11,.s 12,.b 310000] (fun y:Int×ay×List Pt×List Pt×Nat=>[(.s 13,.s (.xs 1035 5 0 y.2.2.1.length)),(.s 14,.s (.xs 1036 5 0 y.2.2.2.1.length)),(.s 15,.int y.1),(.b 1004,.a (kZ 0 1 2 3 4 y.2.1)),(.b 0,.rs ab y.2.1.rows),(.b 1,.rs ag y.2.1.refs),(.b 2,.rs ag y.2.1.last),(.b 3,.rs ae y.2.1.gone),(.b 4,.rs ae y.2.1.dead),(.b 1035,.rs ae y.2.2.1),(.b 1036,.rs ae y.2.2.2.1)]) (fun y=>(y.2.1.wf∧y.2.1.gone.length≤1047000∧y.2.1.dead.length≤1047000)∧(1≤y.1∧y.1≤3∧y.1+y.2.2.2.2=4)∧(y.1=bj many→y.2.2.1.length≤4)∧y.2.2.1.length≤16∧y.2.2.2.1.length≤100*y.1.toNat∧mr y.2.2.2.2 y.2.1 (t1,t2,t3,t4,t5,t6,t7) (bj many) y.1 y.2.2.1 y.2.2.2.1=mr 3 (aj,ak,an,ao,ah,aq,ai,ar) (t1,t2,t3,t4,t5,t6,t7) (bj many) 1 (l.take many.toNat) []) (fun y=>(3-y.1).toNat) (1,(aj,ak,an,ao,ah,aq,ai,ar),l.take many.toNat,[],3) [] ⟨⟨oP,hg,hd⟩,⟨ZC1 _,by show (1:Int)≤3;omega,rfl⟩,fun h=>by have h:1=bj many:=h;have:=aeR h.symm;show (l.take many.toNat).length≤4;rw [ZC0];omega,by show (l.take many.toNat).length≤16;rw [ZC0];omega,ZA7 _,rfl⟩ dN ?_
 rintro⟨lv,s,li,st,f⟩ ⟨⟨(hw:s.wf),(hsg:s.gone.length≤1047000),(xr:s.dead.length≤1047000)⟩,⟨(amb:1≤lv),(ama:lv≤3),(hf:lv+(f:Int)=4)⟩,(hd4:lv=bj many→li.length≤4),(hli:li.length≤16),(hst:st.length≤100*lv.toNat),(hr:mr f s (t1,t2,t3,t4,t5,t6,t7) (bj many) lv li st=mr 3 (aj,ak,an,ao,ah,aq,ai,ar) (t1,t2,t3,t4,t5,t6,t7) (bj many) 1 (l.take many.toNat) [])⟩
 refine⟨fun w1=>⟨⟨⟨⟨⟨?_,?_⟩,⟨?_,?_⟩,⟨?_,?_⟩,aa,⟨?_,?_⟩,aa,⟨?_,?_⟩,aa,aa⟩,⟨aa,aa,aa,aa,aa,aa,aa,aa⟩,aa,aa,aa⟩,?_⟩,fun x2 w3=>⟨aa,?_⟩⟩,fun w4=>?_⟩
 all_goals first|refine aw ?_|refine ax ?_|exact a8|(dsimp only [dD,ff,fO,ig,j3,k6,j6,k9,cK,dI,gQ];omega)|exact a7|exact hw.rd|skip
 ·have al9:lv≤bj many:=aJ w1
  have hcd:decide (lv≤bj many)=true:=w1
  obtain⟨g,rfl⟩:∃g,f=g+1:=⟨f-1,by omega⟩
  have hwl:=ade s (t1,t2,t3,t4,t5,t6,t7) (bj many) lv
  have hwo:=Y4 (s:=s) (d:=bj many) (lv:=lv) sV
  refine cO (l:=[(116,dD),(164,fO),(165,j3),(166,j6),(122,cK)]) (ex:=zT) (wr:=zF) (pt:=fun d=>Nat.beq d 77) ⟨jW,pg,wQ,wT,gy,trivial⟩ [.s 3,.s 4,.s 5,.b 1005,.s 8,.b 1008,.s 9,.b 1009,.s 11,.s 12,.b 310000,.s 14,.b 1036,.s 15,.b 1004,.b 0,.b 1,.b 2,.b 3,.b 4,.s 16,.b 470000,.s 17,.b 1047] (fun y:List Pt×Nat=>[(.s 13,.s (.xs 1035 5 0 y.1.length)),(.b 1035,.rs ae y.1)]) (fun y=>B6 y.2 y.1=eL li∧y.1.length≤16∧(4≤y.2+y.1.length % 4∨y.1.length % 4=0)) (fun y=>y.2) (li,4) [] ⟨rfl,hli,by show 4≤4+li.length % 4∨_;omega⟩ dN ?_
  rintro⟨lp,pf⟩ ⟨(hp1:B6 pf lp=eL li),(hp2:lp.length≤16),(hp3:4≤pf+lp.length % 4∨lp.length % 4=0)⟩
  refine⟨⟨?_,?_⟩,fun w1=>⟨aa,⟨⟨?_,?_⟩,?_,?_⟩,?_⟩,fun w2=>?_⟩
  all_goals first|refine aw ?_|refine ax ?_|exact a8|(dsimp only [dD,ff,fO,ig,j3,k6,j6,k9,cK,dI,gQ];omega)|exact a7|skip
  ·have h4:¬lp.length % 4=0:=fun h=>by have:=aJ (p:=(lp.length:Int) % 4≠0) w1;omega
   obtain⟨k,rfl⟩:∃k,pf=k+1:=⟨pf-1,by omega⟩
   refine⟨(lp++[bN],k),[(1035,1055)],?_,?_,?_⟩
   rotate_right
   ·exact bW
   ·refine⟨by rw [←hp1,acT w1],by show (lp++[bN]).length≤16;rw [ZA0];show lp.length+1≤16;omega,?_⟩
    show 4≤k+(lp++[bN]).length % 4∨(lp++[bN]).length % 4=0
    rw [ZA0];show 4≤k+(lp.length+1) % 4∨(lp.length+1) % 4=0;omega
   ·exact ZD9 k
  ·have e:lp=eL li:=by rw [←hp1,acU w2]
   clear hp1 hp3
   subst e
   have rW:=HE li
   refine cO (l:=[(116,dD),(164,fO),(165,j3),(166,j6),(122,cK)]) (ex:=zT) (wr:=zF) (pt:=fun d=>Nat.beq d 77) ⟨jW,pg,wQ,wT,gy,aa⟩ [.s 3,.s 4,.s 5,.b 1005,.s 8,.b 1008,.s 9,.b 1009,.s 11,.s 12,.b 310000,.s 13,.b 1035,.s 15,.s 16,.b 470000] (fun y:Nat×ay×List Pt×List Pt×Nat=>[(.s 14,.s (.xs 1036 5 0 y.2.2.2.1.length)),(.s 17,.s (.xs 1047 5 0 y.2.2.1.length)),(.s 18,.int y.1),(.b 1004,.a (kZ 0 1 2 3 4 y.2.1)),(.b 0,.rs ab y.2.1.rows),(.b 1,.rs ag y.2.1.refs),(.b 2,.rs ag y.2.1.last),(.b 3,.rs ae y.2.1.gone),(.b 4,.rs ae y.2.1.dead),(.b 1036,.rs ae y.2.2.2.1),(.b 1047,.rs ae y.2.2.1)]) (fun y=>(y.2.1.wf∧y.2.1.gone.length≤1047000∧y.2.1.dead.length≤1047000)∧y.1*4≤(eL li).length∧y.2.2.1.length=y.1∧y.2.2.2.1.length≤st.length+y.1∧y.1+y.2.2.2.2=5∧fJ y.2.2.2.2 y.2.1 lv (dM s (t1,t2,t3,t4,t5,t6,t7) (bj many) lv) (eL li) y.1 y.2.2.1 y.2.2.2.1=fJ 5 s lv (dM s (t1,t2,t3,t4,t5,t6,t7) (bj many) lv) (eL li) 0 [] st) (fun y=>5-y.1) (0,s,[],st,5) [] ⟨⟨hw,hsg,xr⟩,ZA7 _,rfl,ZB5 _,rfl,rfl⟩ dN ?_
   rintro⟨i,u,nx,sy,f2⟩ ⟨⟨(hu:u.wf),(hug:u.gone.length≤1047000),(hud:u.dead.length≤1047000)⟩,(hi4:i*4≤(eL li).length),(hnx:nx.length=i),(hsy:sy.length≤st.length+i),(hf2:i+f2=5),(kg:fJ f2 u lv (dM s (t1,t2,t3,t4,t5,t6,t7) (bj many) lv) (eL li) i nx sy=fJ 5 s lv (dM s (t1,t2,t3,t4,t5,t6,t7) (bj many) lv) (eL li) 0 [] st)⟩
   have hic:decide ((i:Int)*4<((eL li).length:Int))=true→i*4<(eL li).length∧i<(dM s (t1,t2,t3,t4,t5,t6,t7) (bj many) lv).length∧i≤3:=fun h=>by
    have h1:=aJ h
    refine⟨by omega,?_,by omega⟩
    by_cases hh:lv=bj many
    ·have:=hd4 hh;omega
    ·have:=hwl.2.1 hh;omega
   have hoa:=nW (oE hwo i)
   refine⟨⟨?_,?_⟩,fun w1=>⟨[.s 4,.b 1004],Sq64,rfl,Sq13,Sq65,rfl,Sq18,Sq66,rfl,Sq66,Sq67,rfl,⟨?_,?_⟩,Sq18,Sq68,rfl,Sq68,Sq69,rfl,⟨?_,?_⟩,Sq69,Sq70,rfl,⟨?_,?_⟩,[.s 65,.s 67,.s 70],Sq71,rfl,⟨?_,?_,?_⟩,Sq15,Sq72,rfl,Sq16,Sq73,rfl,Sq18,Sq74,rfl,[.s 73,.s 74],Sq75,rfl,⟨?_,?_⟩,[.s 75,.b 470000],Sq76,rfl,?_,[.s 64,.s 71,.s 72,.s 76,.b 0,.b 1,.b 2,.b 3,.b 4,.b 1035],[.s 77,.b 0,.b 1,.b 2,.b 3,.b 4],rfl,⟨⟨⟨aa,aa,aa,aa,aa,aa,aa,aa,aa⟩,?_,aa,⟨aa,aa,aa,aa,aa,aa⟩,aa⟩,⟨?_,?_,?_,?_,?_⟩,?_,?_,?_,?_⟩,?_,fun x2 w3=>⟨Sq77,Sq63,rfl,Sq63,Sq78,rfl,Sq63,Sq79,rfl,Sq63,Sq80,rfl,[.b 1019],[.s 19,.b 1019],rfl,[.b 1020],[.s 20,.b 1020],rfl,[.s 19,.s 78,.b 1019],[.b 1019],rfl,[.s 20,.s 79,.b 1020],[.b 1020],rfl,Sq80,Sq21,rfl,fun w4=>?_,fun w5=>⟨[.s 20,.b 1020],Sq86,rfl,Sq16,Sq87,rfl,Sq18,Sq88,rfl,[.s 87,.s 88],Sq89,rfl,⟨?_,?_⟩,[.s 89,.b 470000],Sq90,rfl,?_,[.s 86,.s 90],Sq91,rfl,fun w6=>⟨aa,⟨⟨?_,?_⟩,?_,?_⟩,aa,⟨⟨?_,?_⟩,?_,?_⟩,⟨?_,?_⟩,?_⟩,fun w7=>⟨aa,⟨⟨?_,?_⟩,?_,?_⟩,⟨?_,?_⟩,?_⟩⟩⟩⟩,fun w8=>⟨⟨?_,?_⟩,?_⟩⟩
   all_goals first|refine aw ?_|refine ax ?_|exact a8|(dsimp only [dD,ff,fO,ig,j3,k6,j6,k9,cK,dI,gQ];omega)|exact a7|exact hu.n.1|exact hu.n.2.1|exact hu.n.2.2|exact⟨hu.n⟩|exact (hic w1).2.1|(show (i:Int)<((dM s (t1,t2,t3,t4,t5,t6,t7) (bj many) lv).length:Int);have:=hic w1;omega)|(show ((List.drop _ (eL li)).take _).length≤1000000;rw [ZC0,ZD0];omega)|exact hoa.1|exact hoa.2|(have:=hic w1;show _≤_;omega)|skip
   ·obtain⟨k,rfl⟩:∃k,f2=k+1:=⟨f2-1,by have:=hic w1;omega⟩
    have aeg:(ef u (qR (eL li) i) lv (nth ae (dM s (t1,t2,t3,t4,t5,t6,t7) (bj many) lv) i)).1=u:=ab0 (xq w4)
    have e0:fJ 5 s lv (dM s (t1,t2,t3,t4,t5,t6,t7) (bj many) lv) (eL li) 0 [] st=(u,none):=by rw [←kg,af7 w1 (show (!(ef u (qR (eL li) i) lv (nth ae (dM s (t1,t2,t3,t4,t5,t6,t7) (bj many) lv) i)).2.2)=true from w4),aeg]
    have e1:mr 3 (aj,ak,an,ao,ah,aq,ai,ar) (t1,t2,t3,t4,t5,t6,t7) (bj many) 1 (l.take many.toNat) []=(u,none):=by rw [←hr,O4 hcd e0]
    have e:bR (aj,ak,an,ao,ah,aq,ai,ar) (t1,t2,t3,t4,t5,t6,t7) l many=(u,nB,false):=by unfold bR;rw [e1];rfl
    refine⟨[],[],_,_,_,rfl,az,false,2,(by show false=(bR (aj,ak,an,ao,ah,aq,ai,ar) (t1,t2,t3,t4,t5,t6,t7) l many).2.2;rw [e]),?_,?_,rfl⟩
    ·(show _=mI (aj,ak,an,ao,ah,aq,ai,ar) (t1,t2,t3,t4,t5,t6,t7) l many false);unfold mI;first|(rw [e];exact congrArg (fun x:ay=>GD x++[AV.zz,AV.zz]) aeg)|(rw [e];rfl)|rfl
    ·(show _=qk (aj,ak,an,ao,ah,aq,ai,ar) (t1,t2,t3,t4,t5,t6,t7) l many false);unfold qk;first|(rw [e];exact congrArg (fun x:ay=>GD x++[AV.zz,AV.zz]) aeg)|(rw [e];rfl)|rfl
   ·obtain⟨k,rfl⟩:∃k,f2=k+1:=⟨f2-1,by have:=hic w1;omega⟩
    have ad2:=C7 u (qR (eL li) i) lv (nth ae (dM s (t1,t2,t3,t4,t5,t6,t7) (bj many) lv) i)
    refine⟨(i+1,(ef u (qR (eL li) i) lv (nth ae (dM s (t1,t2,t3,t4,t5,t6,t7) (bj many) lv) i)).1,nx++[(ef u (qR (eL li) i) lv (nth ae (dM s (t1,t2,t3,t4,t5,t6,t7) (bj many) lv) i)).2.1],sy++[(ef u (qR (eL li) i) lv (nth ae (dM s (t1,t2,t3,t4,t5,t6,t7) (bj many) lv) i)).2.1],k),[(1047,1099),(1036,1095)],?_,?_,?_⟩
    rotate_right
    ·exact bW
    ·refine⟨⟨PN hu,by show (ef u (qR (eL li) i) lv (nth ae (dM s (t1,t2,t3,t4,t5,t6,t7) (bj many) lv) i)).1.gone.length≤_;rw [ad2.1];exact hug,by show (ef u (qR (eL li) i) lv (nth ae (dM s (t1,t2,t3,t4,t5,t6,t7) (bj many) lv) i)).1.dead.length≤_;rw [ad2.2.1];exact hud⟩,by show (i+1)*4≤(eL li).length;have:=hic w1;omega,by show List.length (_++_)=_;rw [ZA0,hnx];rfl,?_,by show i+1+k=5;omega,?_⟩
     ·show (sy++[(ef u (qR (eL li) i) lv (nth ae (dM s (t1,t2,t3,t4,t5,t6,t7) (bj many) lv) i)).2.1]).length≤st.length+(i+1);rw [ZA0];show sy.length+1≤_;omega
     ·rw [←kg,aab w1 (show (!(ef u (qR (eL li) i) lv (nth ae (dM s (t1,t2,t3,t4,t5,t6,t7) (bj many) lv) i)).2.2)=false from w5),show ptrEq (ef u (qR (eL li) i) lv (nth ae (dM s (t1,t2,t3,t4,t5,t6,t7) (bj many) lv) i)).2.1 (nth ae (dM s (t1,t2,t3,t4,t5,t6,t7) (bj many) lv) i)=true from w6];rfl
    ·show 5-(i+1)<5-i;have:=hic w1;omega
   ·obtain⟨k,rfl⟩:∃k,f2=k+1:=⟨f2-1,by have:=hic w1;omega⟩
    have ad2:=C7 u (qR (eL li) i) lv (nth ae (dM s (t1,t2,t3,t4,t5,t6,t7) (bj many) lv) i)
    refine⟨(i+1,(ef u (qR (eL li) i) lv (nth ae (dM s (t1,t2,t3,t4,t5,t6,t7) (bj many) lv) i)).1,nx++[(ef u (qR (eL li) i) lv (nth ae (dM s (t1,t2,t3,t4,t5,t6,t7) (bj many) lv) i)).2.1],sy,k),[(1047,1099)],?_,?_,?_⟩
    rotate_right
    ·exact bW
    ·refine⟨⟨PN hu,by show (ef u (qR (eL li) i) lv (nth ae (dM s (t1,t2,t3,t4,t5,t6,t7) (bj many) lv) i)).1.gone.length≤_;rw [ad2.1];exact hug,by show (ef u (qR (eL li) i) lv (nth ae (dM s (t1,t2,t3,t4,t5,t6,t7) (bj many) lv) i)).1.dead.length≤_;rw [ad2.2.1];exact hud⟩,by show (i+1)*4≤(eL li).length;have:=hic w1;omega,by show List.length (_++_)=_;rw [ZA0,hnx];rfl,?_,by show i+1+k=5;omega,?_⟩
     ·show sy.length≤st.length+(i+1);omega
     ·rw [←kg,aab w1 (show (!(ef u (qR (eL li) i) lv (nth ae (dM s (t1,t2,t3,t4,t5,t6,t7) (bj many) lv) i)).2.2)=false from w5),show ptrEq (ef u (qR (eL li) i) lv (nth ae (dM s (t1,t2,t3,t4,t5,t6,t7) (bj many) lv) i)).2.1 (nth ae (dM s (t1,t2,t3,t4,t5,t6,t7) (bj many) lv) i)=false from w7];rfl
    ·show 5-(i+1)<5-i;have:=hic w1;omega
   ·have e0:fJ 5 s lv (dM s (t1,t2,t3,t4,t5,t6,t7) (bj many) lv) (eL li) 0 [] st=(u,some (nx,sy)):=by rw [←kg,af8 w8]
    have FK:¬i*4<(eL li).length:=by have:=aA (p:=(i:Int)*4<((eL li).length:Int)) w8;omega
    refine⟨(lv+1,u,nx,sy,g),[(1035,1047)],?_,?_,?_⟩
    rotate_right
    ·exact bW
    ·refine⟨⟨hu,hug,hud⟩,⟨by show 1≤lv+1;omega,by show lv+1≤3;omega,by show lv+1+(g:Int)=4;omega⟩,fun _=>by show nx.length≤4;omega,by show nx.length≤16;omega,by show sy.length≤100*(lv+1).toNat;omega,?_⟩
     rw [←hr,O3 hcd e0]
    ·show (3-(lv+1)).toNat<(3-lv).toNat;omega
 ·have e1:mr 3 (aj,ak,an,ao,ah,aq,ai,ar) (t1,t2,t3,t4,t5,t6,t7) (bj many) 1 (l.take many.toNat) []=(s,some (li,st)):=by rw [←hr,O5 w4]
  refine cO (l:=[(116,dD),(164,fO),(165,j3),(166,j6),(122,cK)]) (ex:=zT) (wr:=zF) (pt:=fun d=>Nat.beq d 77) ⟨jW,pg,wQ,wT,gy,aa⟩ [.s 3,.s 4,.s 8,.b 1008,.s 9,.b 1009,.s 11,.s 12,.b 310000,.s 13,.b 1035,.s 14,.b 1036] (fun y:Nat×ay=>[(.s 22,.int y.1),(.b 1004,.a (kZ 0 1 2 1000000001 1000000002 y.2)),(.b 0,.rs ab y.2.rows),(.b 1,.rs ag y.2.refs),(.b 2,.rs ag y.2.last),(.b 1000000001,.rs ae y.2.gone),(.b 1000000002,.rs ae y.2.dead)]) (fun y=>y.2.wf∧y.1≤(bz (aj,ak,an,ao,ah,aq,ai,ar) (t1,t2,t3,t4,t5,t6,t7)).length∧(y.2.gone.length≤1047000+y.1∧y.2.dead.length≤1047000+y.1)∧dY ((bz (aj,ak,an,ao,ah,aq,ai,ar) (t1,t2,t3,t4,t5,t6,t7)).drop y.1) st y.2=dY (bz (aj,ak,an,ao,ah,aq,ai,ar) (t1,t2,t3,t4,t5,t6,t7)) st s) (fun y=>(bz (aj,ak,an,ao,ah,aq,ai,ar) (t1,t2,t3,t4,t5,t6,t7)).length-y.1) (0,s) [(1000000001,3),(1000000002,4)] ⟨hw,ZA7 _,⟨hsg,xr⟩,rfl⟩ dN ?_
  rintro⟨i,u⟩ ⟨(hu:u.wf),(hi:i≤(bz (aj,ak,an,ao,ah,aq,ai,ar) (t1,t2,t3,t4,t5,t6,t7)).length),⟨(hug:u.gone.length≤1047000+i),(hud:u.dead.length≤1047000+i)⟩,(kg:dY ((bz (aj,ak,an,ao,ah,aq,ai,ar) (t1,t2,t3,t4,t5,t6,t7)).drop i) st u=dY (bz (aj,ak,an,ao,ah,aq,ai,ar) (t1,t2,t3,t4,t5,t6,t7)) st s)⟩
  have cP:i<(bz (aj,ak,an,ao,ah,aq,ai,ar) (t1,t2,t3,t4,t5,t6,t7)).length→(bz (aj,ak,an,ao,ah,aq,ai,ar) (t1,t2,t3,t4,t5,t6,t7)).drop i=nth ae (bz (aj,ak,an,ao,ah,aq,ai,ar) (t1,t2,t3,t4,t5,t6,t7)) i::(bz (aj,ak,an,ao,ah,aq,ai,ar) (t1,t2,t3,t4,t5,t6,t7)).drop (i+1):=fun h=>bX (ek:=ae) h
  have hia:=nW (oE ak4 i)
  have cq:decide ((i:Int)<((bz (aj,ak,an,ao,ah,aq,ai,ar) (t1,t2,t3,t4,t5,t6,t7)).length:Int))=true→i<(bz (aj,ak,an,ao,ah,aq,ai,ar) (t1,t2,t3,t4,t5,t6,t7)).length:=fun h=>by have:=aJ h;omega
  refine⟨fun w1=>?_,fun w2=>⟨fun w3=>⟨⟨?_,?_⟩,?_,[.s 4,.b 1004],Sq140,rfl,[.s 25,.b 1025],Sq141,rfl,Sq11,Sq142,rfl,Sq3,Sq143,rfl,[.s 141,.s 142,.s 143],Sq144,rfl,[.s 8,.s 140,.b 1008],[.b 1008],rfl,[.s 9,.s 144,.b 1009],[.b 1009],rfl,[],Sq10,rfl,?_⟩,fun w4=>⟨[.s 4,.b 1004],Sq140,rfl,[.s 25,.b 1025],Sq141,rfl,Sq11,Sq142,rfl,Sq3,Sq143,rfl,[.s 141,.s 142,.s 143],Sq144,rfl,[.s 8,.s 140,.b 1008],[.b 1008],rfl,[.s 9,.s 144,.b 1009],[.b 1009],rfl,[],Sq10,rfl,?_⟩⟩⟩
  all_goals first|refine aw ?_|refine ax ?_|exact a8|(dsimp only [dD,ff,fO,ig,j3,k6,j6,k9,cK,dI,gQ];omega)|exact a7|skip
  ·have hci:decide ((i:Int)<((bz (aj,ak,an,ao,ah,aq,ai,ar) (t1,t2,t3,t4,t5,t6,t7)).length:Int))=true:=w1
   have aee:=cq hci
   refine cO (l:=[(116,dD),(164,fO),(165,j3),(166,j6),(122,cK)]) (ex:=zT) (wr:=zF) (pt:=fun d=>Nat.beq d 77) ⟨jW,pg,wQ,wT,gy,aa⟩ [.s 3,.s 4,.s 8,.b 1008,.s 9,.b 1009,.s 11,.s 12,.b 310000,.s 13,.b 1035,.s 14,.b 1036,.s 22,.b 1004,.b 0,.b 1,.b 2,.b 1000000001,.b 1000000002] (fun y:Nat×Bool=>[(.s 23,.s (.q y.2)),(.s 24,.int y.1)]) (fun y=>y.1≤st.length∧(y.2||gY (st.drop y.1) (nth ae (bz (aj,ak,an,ao,ah,aq,ai,ar) (t1,t2,t3,t4,t5,t6,t7)) i))=gY st (nth ae (bz (aj,ak,an,ao,ah,aq,ai,ar) (t1,t2,t3,t4,t5,t6,t7)) i)) (fun y=>st.length-y.1) (0,false) [] ⟨ZA7 _,rfl⟩ dN ?_
   rintro⟨k,kp⟩ ⟨(hk:k≤st.length),(hkr:(kp||gY (st.drop k) (nth ae (bz (aj,ak,an,ao,ah,aq,ai,ar) (t1,t2,t3,t4,t5,t6,t7)) i))=gY st (nth ae (bz (aj,ak,an,ao,ah,aq,ai,ar) (t1,t2,t3,t4,t5,t6,t7)) i))⟩
   have abQ:decide ((k:Int)<(st.length:Int))=true→k<st.length:=fun h=>by have:=aJ h;omega
   have hks:k<st.length→gY (st.drop k) (nth ae (bz (aj,ak,an,ao,ah,aq,ai,ar) (t1,t2,t3,t4,t5,t6,t7)) i)=(ptrEq (nth ae st k) (nth ae (bz (aj,ak,an,ao,ah,aq,ai,ar) (t1,t2,t3,t4,t5,t6,t7)) i)||gY (st.drop (k+1)) (nth ae (bz (aj,ak,an,ao,ah,aq,ai,ar) (t1,t2,t3,t4,t5,t6,t7)) i)):=fun h=>by rw [bX (ek:=ae) h];rfl
   refine⟨fun w1=>⟨Sq23,Sq113,rfl,Sq113,Sq114,rfl,aa,fun w2=>⟨Sq114,Sq115,rfl,Sq114,Sq116,rfl,Sq114,Sq117,rfl,Sq114,Sq118,rfl,Sq114,Sq119,rfl,Sq114,Sq120,rfl,Sq114,Sq121,rfl,Sq114,Sq122,rfl,Sq114,Sq123,rfl,[.s 114,.s 123],Sq124,rfl,Sq124,Sq23,rfl,⟨?_,?_⟩,?_⟩,fun w3=>⟨[.s 114,.s 14],Sq115,rfl,[.s 114,.s 24],Sq116,rfl,[.s 114,.s 115,.s 116],Sq117,rfl,⟨?_,?_⟩,[.s 114,.s 117,.b 1036],Sq118,rfl,?_,[.s 114,.s 12],Sq119,rfl,[.s 114,.s 22],Sq120,rfl,[.s 114,.s 119,.s 120],Sq121,rfl,⟨?_,?_⟩,[.s 114,.s 121,.b 310000],Sq122,rfl,?_,[.s 114,.s 118,.s 122],Sq123,rfl,[.s 114,.s 123],Sq124,rfl,Sq124,Sq23,rfl,⟨?_,?_⟩,?_⟩⟩,fun w4=>⟨fun w5=>⟨[.s 4,.b 1004],Sq127,rfl,Sq12,Sq128,rfl,Sq22,Sq129,rfl,[.s 128,.s 129],Sq130,rfl,⟨?_,?_⟩,[.s 130,.b 310000],Sq131,rfl,?_,[.s 127,.s 131,.b 0,.b 1,.b 2,.b 1000000001,.b 1000000002,.b 1001330001,.b 1001330000],[.s 132,.b 0,.b 1,.b 2,.b 1000000001,.b 1000000002,.b 1001330000,.b 1001330001],rfl,⟨⟨⟨aa,aa,aa,aa,aa,aa,aa,aa,aa⟩,⟨aa,aa,aa,aa,aa,aa⟩,aa⟩,⟨?_,?_,?_,?_,?_⟩,⟨?_,?_,?_⟩,?_,?_,?_,?_⟩,?_,fun x6 w7=>⟨[.s 4,.s 132,.b 1004],[.b 1004],rfl,⟨?_,?_⟩,?_⟩⟩,fun w8=>⟨⟨?_,?_⟩,?_⟩⟩⟩
   all_goals first|refine aw ?_|refine ax ?_|exact a8|(dsimp only [dD,ff,fO,ig,j3,k6,j6,k9,cK,dI,gQ];omega)|exact a7|exact abQ w1|exact aee|exact aJ hci|exact hu.n.1|exact hu.n.2.1|exact hu.n.2.2|exact hia.1|exact hia.2|(show u.gone.length≤1048000;omega)|(show u.dead.length≤1048000;omega)|skip
   ·refine⟨(k+1,true),[],?_,?_,?_⟩
    rotate_right
    ·exact bW
    ·exact⟨abQ w1,by show (true||_)=_;rw [←hkr,show kp=true from w2];rfl⟩
    ·show st.length-(k+1)<st.length-k;have:=abQ w1;omega
   ·refine⟨(k+1,ptrEq (nth ae st k) (nth ae (bz (aj,ak,an,ao,ah,aq,ai,ar) (t1,t2,t3,t4,t5,t6,t7)) i)),[],?_,?_,?_⟩
    rotate_right
    ·exact bW
    ·exact⟨abQ w1,by show (ptrEq (nth ae st k) (nth ae (bz (aj,ak,an,ao,ah,aq,ai,ar) (t1,t2,t3,t4,t5,t6,t7)) i)||gY (st.drop (k+1)) (nth ae (bz (aj,ak,an,ao,ah,aq,ai,ar) (t1,t2,t3,t4,t5,t6,t7)) i))=_;rw [←hkr,show kp=false from w3,hks (abQ w1)];rfl⟩
    ·show st.length-(k+1)<st.length-k;have:=abQ w1;omega
   ·have ak2:¬k<st.length:=by have:=aA (p:=(k:Int)<(st.length:Int)) w4;omega
    have e:gY st (nth ae (bz (aj,ak,an,ao,ah,aq,ai,ar) (t1,t2,t3,t4,t5,t6,t7)) i)=false:=by rw [←hkr,show kp=false from xq w5,ZB3 (by omega)];rfl
    have I2:=pj u (nth ae (bz (aj,ak,an,ao,ah,aq,ai,ar) (t1,t2,t3,t4,t5,t6,t7)) i)
    refine⟨(i+1,cN u (nth ae (bz (aj,ak,an,ao,ah,aq,ai,ar) (t1,t2,t3,t4,t5,t6,t7)) i)),[(1000000001,1001330000),(1000000002,1001330001)],?_,?_,?_⟩
    rotate_right
    ·exact bW
    ·exact⟨qt hu,aee,⟨by show (cN u (nth ae (bz (aj,ak,an,ao,ah,aq,ai,ar) (t1,t2,t3,t4,t5,t6,t7)) i)).gone.length≤1047000+(i+1);omega,by show (cN u (nth ae (bz (aj,ak,an,ao,ah,aq,ai,ar) (t1,t2,t3,t4,t5,t6,t7)) i)).dead.length≤1047000+(i+1);omega⟩,by rw [←kg,cP aee,TP e]⟩
    ·show (bz (aj,ak,an,ao,ah,aq,ai,ar) (t1,t2,t3,t4,t5,t6,t7)).length-(i+1)<(bz (aj,ak,an,ao,ah,aq,ai,ar) (t1,t2,t3,t4,t5,t6,t7)).length-i;omega
   ·have ak2:¬k<st.length:=by have:=aA (p:=(k:Int)<(st.length:Int)) w4;omega
    have e:gY st (nth ae (bz (aj,ak,an,ao,ah,aq,ai,ar) (t1,t2,t3,t4,t5,t6,t7)) i)=true:=by rw [←hkr,show kp=true from cM w8];rfl
    refine⟨(i+1,u),[],?_,?_,?_⟩
    rotate_right
    ·exact bW
    ·exact⟨hu,aee,⟨by show u.gone.length≤1047000+(i+1);omega,by show u.dead.length≤1047000+(i+1);omega⟩,by rw [←kg,cP aee,TO e]⟩
    ·show (bz (aj,ak,an,ao,ah,aq,ai,ar) (t1,t2,t3,t4,t5,t6,t7)).length-(i+1)<(bz (aj,ak,an,ao,ah,aq,ai,ar) (t1,t2,t3,t4,t5,t6,t7)).length-i;omega
  ·have ak6:¬i<(bz (aj,ak,an,ao,ah,aq,ai,ar) (t1,t2,t3,t4,t5,t6,t7)).length:=by have:=aA (p:=(i:Int)<((bz (aj,ak,an,ao,ah,aq,ai,ar) (t1,t2,t3,t4,t5,t6,t7)).length:Int)) w2;omega
   have e2:dY (bz (aj,ak,an,ao,ah,aq,ai,ar) (t1,t2,t3,t4,t5,t6,t7)) st s=u:=by rw [←kg,ZB3 (by omega)];rfl
   have e:bR (aj,ak,an,ao,ah,aq,ai,ar) (t1,t2,t3,t4,t5,t6,t7) l many=(u,LW (nth ae li 0) (bj many) many,true):=by
    unfold bR;rw [e1];show (dY (bz (aj,ak,an,ao,ah,aq,ai,ar) (t1,t2,t3,t4,t5,t6,t7)) st s,LW (rootOf li) (bj many) many,true)=_
    rw [e2,rootOf,show decide ((li.length:Int)>0)=true from w3];rfl
   refine⟨[1000000001,1000000002],[],_,_,_,rfl,az,true,0,(by show true=(bR (aj,ak,an,ao,ah,aq,ai,ar) (t1,t2,t3,t4,t5,t6,t7) l many).2.2;rw [e]),?_,?_,rfl⟩
   ·(show _=mI (aj,ak,an,ao,ah,aq,ai,ar) (t1,t2,t3,t4,t5,t6,t7) l many true);unfold mI;first|(rw [e];rfl)|rfl
   ·(show _=qk (aj,ak,an,ao,ah,aq,ai,ar) (t1,t2,t3,t4,t5,t6,t7) l many true);unfold qk;first|(rw [e];rfl)|rfl
  ·have ak6:¬i<(bz (aj,ak,an,ao,ah,aq,ai,ar) (t1,t2,t3,t4,t5,t6,t7)).length:=by have:=aA (p:=(i:Int)<((bz (aj,ak,an,ao,ah,aq,ai,ar) (t1,t2,t3,t4,t5,t6,t7)).length:Int)) w2;omega
   have e2:dY (bz (aj,ak,an,ao,ah,aq,ai,ar) (t1,t2,t3,t4,t5,t6,t7)) st s=u:=by rw [←kg,ZB3 (by omega)];rfl
   have e:bR (aj,ak,an,ao,ah,aq,ai,ar) (t1,t2,t3,t4,t5,t6,t7) l many=(u,LW bN (bj many) many,true):=by
    unfold bR;rw [e1];show (dY (bz (aj,ak,an,ao,ah,aq,ai,ar) (t1,t2,t3,t4,t5,t6,t7)) st s,LW (rootOf li) (bj many) many,true)=_
    rw [e2,rootOf,show decide ((li.length:Int)>0)=false from w4];rfl
   refine⟨[1000000001,1000000002],[],_,_,_,rfl,az,true,0,(by show true=(bR (aj,ak,an,ao,ah,aq,ai,ar) (t1,t2,t3,t4,t5,t6,t7) l many).2.2;rw [e]),?_,?_,rfl⟩
   ·(show _=mI (aj,ak,an,ao,ah,aq,ai,ar) (t1,t2,t3,t4,t5,t6,t7) l many true);unfold mI;first|(rw [e];rfl)|rfl
   ·(show _=qk (aj,ak,an,ao,ah,aq,ai,ar) (t1,t2,t3,t4,t5,t6,t7) l many true);unfold qk;first|(rw [e];rfl)|rfl
end GL
end Go.Proofs.YtkgpljpmdkflmaaGreatDoor
