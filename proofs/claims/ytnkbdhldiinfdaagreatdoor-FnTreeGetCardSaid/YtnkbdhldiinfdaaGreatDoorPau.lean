/- A drawn law returns true for every code (its row lists package variables, tied by the card): part 21. -/
import Derived.Test.YtnkbdhldiinfdaaGreatDoorPat
set_option maxHeartbeats 20000000
set_option maxRecDepth 100000
set_option linter.all false
namespace Go.Proofs.YtnkbdhldiinfdaaGreatDoor
namespace GL
theorem agd {f:Nat}{s:ay}{lv:Int}{ka l next stays:List Pt}{i:Nat}(h:decide ((i:Int)*4<l.length)=true) (h2:(!(ee s (qO l i) lv (nth ae ka i)).2.2)=true):fI (f+1) s lv ka l i next stays=((ee s (qO l i) lv (nth ae ka i)).1,none):=by rw [fI,h,h2];rfl
theorem aae {f:Nat}{s:ay}{lv:Int}{ka l next stays:List Pt}{i:Nat}(h:decide ((i:Int)*4<l.length)=true) (h2:(!(ee s (qO l i) lv (nth ae ka i)).2.2)=false):fI (f+1) s lv ka l i next stays=fI f (ee s (qO l i) lv (nth ae ka i)).1 lv ka l (i+1) (next++[(ee s (qO l i) lv (nth ae ka i)).2.1]) (bif ptrEq (ee s (qO l i) lv (nth ae ka i)).2.1 (nth ae ka i) then stays++[(ee s (qO l i) lv (nth ae ka i)).2.1] else stays):=by rw [fI,h,h2];rfl
theorem age {f:Nat}{s:ay}{lv:Int}{ka l next stays:List Pt}{i:Nat}(h:decide ((i:Int)*4<l.length)=false):fI f s lv ka l i next stays=(s,some (next,stays)):=by
 cases f with
 |zero=>rfl
 |succ f=>rw [fI,h];rfl
theorem O6 {f:Nat}{s s':ay}{t:bf}{d lv:Int}{l stays:List Pt}(h:decide (lv≤d)=true) (h2:fI 5 s lv (dL s t d lv) (eK l) 0 [] stays=(s',none)):mm (f+1) s t d lv l stays=(s',none):=by rw [mm,h,h2];rfl
theorem O5 {f:Nat}{s s':ay}{t:bf}{d lv:Int}{l stays n st:List Pt}(h:decide (lv≤d)=true) (h2:fI 5 s lv (dL s t d lv) (eK l) 0 [] stays=(s',some (n,st))):mm (f+1) s t d lv l stays=mm f s' t d (lv+1) n st:=by rw [mm,h,h2];rfl
theorem O7 {f:Nat}{s:ay}{t:bf}{d lv:Int}{l stays:List Pt}(h:decide (lv≤d)=false):mm f s t d lv l stays=(s,some (l,stays)):=by
 cases f with
 |zero=>rfl
 |succ f=>rw [mm,h];rfl
theorem TR {o:Pt}{l stays:List Pt}{s:ay}(h:gW stays o=true):dX (o::l) stays s=dX l stays s:=by rw [dX,h];rfl
theorem TS {o:Pt}{l stays:List Pt}{s:ay}(h:gW stays o=false):dX (o::l) stays s=dX l stays (cM s o):=by rw [dX,h];rfl
theorem aeV {n:Int}(h:bj n=1):n≤4:=by
 unfold bj at h
 by_cases h1:n≤1
 ·omega
 ·rw [decide_eq_false h1] at h
  by_cases h2:n≤4
  ·exact h2
  ·rw [decide_eq_false h2] at h;cases h
def kY (S:ay) (t:bf) (l:List Pt) (many:Int):Prop:=S.wf∧t.rd∧l.length=16∧0≤many∧many≤16∧S.gone.length≤1047000∧S.dead.length≤1047000
def aaW (S:ay) (t:bf) (l:List Pt) (many:Int) (z:Bool):Prop:=z=(bQ S t l many).2.2
def mF (S:ay) (t:bf) (l:List Pt) (many:Int) (z:Bool):AV:=match z with |true=>.t [.a (kW 0 1 2 5 6 (bQ S t l many).1),trA (bQ S t l many).2.1,.s (.q true)] |false=>.t [.a (kW 0 1 2 3 4 (bQ S t l many).1),trA (bQ S t l many).2.1,.s (.q false)]
def qi (S:ay) (t:bf) (l:List Pt) (many:Int) (z:Bool):List AV:=match z with |true=>[.rs ab (bQ S t l many).1.rows,.rs ag (bQ S t l many).1.refs,.rs ag (bQ S t l many).1.last,.zz,.zz,.rs ae (bQ S t l many).1.gone,.rs ae (bQ S t l many).1.dead] |false=>GF (bQ S t l many).1++[.zz,.zz]
def j1:cn where
 A:=[.a (stB 0 1 2 3 4),.a [.int,.int,.int,.int,.int,.int,.int],.s (.vz ae),.s .int]
 B:=[.r ab,.r ag,.r ag,.r ae,.r ae]
 pre:=fun x b=>stW x.1 b∧kY (gP x.1 b) (x.2.1) (x.2.2.1) (x.2.2.2)
 α:=fun _ _=>Bool
 φ:=fun x b z=>aaW (gP x.1 b) (x.2.1) (x.2.2.1) (x.2.2.2) z
 r:=fun x b z=>mF (gP x.1 b) (x.2.1) (x.2.2.1) (x.2.2.2) z
 o:=fun x b z=>qi (gP x.1 b) (x.2.1) (x.2.2.1) (x.2.2.2) z
 nf:=2
 mv:=true
theorem wO:Has Tryz.prog 94 j1:=by
 refine Has.ofZ zT zF (fun d=>Nat.beq d 77) (l:=[(105,dD),(143,fO),(144,j0),(145,j4),(95,cJ)]) ⟨jU,pd,wN,wQ,gx,aa⟩ Tryz.func94 ?_
 rintro⟨⟨(AU:Nat),(AT:Nat),(AS:Nat),(ao:Int),(AR:Nat),(aq:Int),(AQ:Nat),(ar:Bool)⟩,⟨(t1:Int),(t2:Int),(t3:Int),(t4:Int),(t5:Int),(t6:Int),(t7:Int)⟩,(l:List Pt),(many:Int)⟩ ⟨(aj:List ByteArray),(ak:List Int),(an:List Int),(ah:List Pt),(ai:List Pt)⟩ ⟨⟨(gC:AU=List.length aj),(gB:AT=List.length ak),(gA:AS=List.length an),(gz:AR=List.length ah),(gy:AQ=List.length ai)⟩,(hp:kY (aj,ak,an,ao,ah,aq,ai,ar) (t1,t2,t3,t4,t5,t6,t7) l many)⟩
 subst gC gB gA gz gy
 show vc _ _ _ _ (entry [.a [.xs 0 1 0 aj.length,.xs 1 1 0 ak.length,.xs 2 1 0 an.length,.int ao,.xs 3 5 0 ah.length,.int aq,.xs 4 5 0 ai.length,.q ar],.a [.int t1,.int t2,.int t3,.int t4,.int t5,.int t6,.int t7],.s (.vz ae l),.int many] [.rs ab aj,.rs ag ak,.rs ag an,.rs ae ah,.rs ae ai]) _
 let g':=(t1,t2,t3,t4,t5,t6,t7)
 let A':=(aj,ak,an,ao,ah,aq,ai,ar)
 obtain⟨oN,sS,(ak7:l.length=16),xB,EW,(hg:ah.length≤1047000),(hd:ai.length≤1047000)⟩:=hp
 have oN:ay.wf A':=oN
 have sS:bf.rd g':=sS
 have amj:=IT A' g'
 have ala:=ML (s:=A') sS
 have hdb:=pn many
 refine⟨⟨tv2,aa⟩,fun x1 w2=>⟨⟨⟨⟨⟨?_,?_⟩,⟨?_,?_⟩,⟨?_,?_⟩,aa,⟨?_,?_⟩,aa,⟨?_,?_⟩,tv2⟩,tv8,aa⟩,?_⟩,fun x3 w4=>⟨aa,⟨?_,?_,?_⟩,⟨⟨?_,?_⟩,aa⟩,aa,?_⟩⟩⟩
 all_goals first|refine aw ?_|refine ax ?_|exact a8|(dsimp only [dD,fe,fO,ig,j0,kX,j4,k6,cJ,dH,gP];omega)|exact a7|exact oN.rd|(show 0+((l.drop _).take _).length≤1048576;rw [ZB9,ZC8];omega)|skip
 refine cN (l:=[(105,dD),(143,fO),(144,j0),(145,j4),(95,cJ)]) (ex:=zT) (wr:=zF) (pt:=fun d=>Nat.beq d 77) ⟨jU,pd,wN,wQ,gx,trivial⟩ [.s 3,.s 4,.s 5,.b 1005,.s 8,.b 1008,.s 9,.b 1009,.s 11,.s 12,.b 310000] (fun y:Int×ay×List Pt×List Pt×Nat=>[(.s 13,.s (.xs 1035 5 0 y.2.2.1.length)),(.s 14,.s (.xs 1036 5 0 y.2.2.2.1.length)),(.s 15,.int y.1),(.b 1004,.a (kW 0 1 2 3 4 y.2.1)),(.b 0,.rs ab y.2.1.rows),(.b 1,.rs ag y.2.1.refs),(.b 2,.rs ag y.2.1.last),(.b 3,.rs ae y.2.1.gone),(.b 4,.rs ae y.2.1.dead),(.b 1035,.rs ae y.2.2.1),(.b 1036,.rs ae y.2.2.2.1)]) (fun y=>(y.2.1.wf∧y.2.1.gone.length≤1047000∧y.2.1.dead.length≤1047000)∧(1≤y.1∧y.1≤3∧y.1+y.2.2.2.2=4)∧(y.1=bj many→y.2.2.1.length≤4)∧y.2.2.1.length≤16∧y.2.2.2.1.length≤100*y.1.toNat∧mm y.2.2.2.2 y.2.1 g' (bj many) y.1 y.2.2.1 y.2.2.2.1=mm 3 A' g' (bj many) 1 (l.take many.toNat) []) (fun y=>(3-y.1).toNat) (1,A',l.take many.toNat,[],3) [] ⟨⟨oN,hg,hd⟩,⟨ZC1 _,by show (1:Int)≤3;omega,rfl⟩,fun h=>by have h:1=bj many:=h;have:=aeV h.symm;show (l.take many.toNat).length≤4;rw [ZB9];omega,by show (l.take many.toNat).length≤16;rw [ZB9];omega,ZA7 _,rfl⟩ dM ?_
 rintro⟨lv,s,li,st,f⟩ ⟨⟨(hw:s.wf),(hsg:s.gone.length≤1047000),(xn:s.dead.length≤1047000)⟩,⟨(amh:1≤lv),(amg:lv≤3),(hf:lv+(f:Int)=4)⟩,(hd4:lv=bj many→li.length≤4),(hli:li.length≤16),(hst:st.length≤100*lv.toNat),(hr:mm f s g' (bj many) lv li st=mm 3 A' g' (bj many) 1 (l.take many.toNat) [])⟩
 refine⟨fun w1=>⟨⟨⟨⟨⟨?_,?_⟩,⟨?_,?_⟩,⟨?_,?_⟩,aa,⟨?_,?_⟩,aa,⟨?_,?_⟩,tv2⟩,tv8,tv3⟩,?_⟩,fun x2 w3=>⟨aa,?_⟩⟩,fun w4=>?_⟩
 all_goals first|refine aw ?_|refine ax ?_|exact a8|(dsimp only [dD,fe,fO,ig,j0,kX,j4,k6,cJ,dH,gP];omega)|exact a7|exact hw.rd|skip
 ·have amf:lv≤bj many:=aJ w1
  have hcd:decide (lv≤bj many)=true:=w1
  obtain⟨g,rfl⟩:∃g,f=g+1:=⟨f-1,by omega⟩
  have hwl:=adi s g' (bj many) lv
  have hwo:=Y7 (s:=s) (d:=bj many) (lv:=lv) sS
  refine cN (l:=[(105,dD),(143,fO),(144,j0),(145,j4),(95,cJ)]) (ex:=zT) (wr:=zF) (pt:=fun d=>Nat.beq d 77) ⟨jU,pd,wN,wQ,gx,trivial⟩ [.s 3,.s 4,.s 5,.b 1005,.s 8,.b 1008,.s 9,.b 1009,.s 11,.s 12,.b 310000,.s 14,.b 1036,.s 15,.b 1004,.b 0,.b 1,.b 2,.b 3,.b 4,.s 16,.b 470000,.s 17,.b 1047] (fun y:List Pt×Nat=>[(.s 13,.s (.xs 1035 5 0 y.1.length)),(.b 1035,.rs ae y.1)]) (fun y=>B6 y.2 y.1=eK li∧y.1.length≤16∧(4≤y.2+y.1.length % 4∨y.1.length % 4=0)) (fun y=>y.2) (li,4) [] ⟨rfl,hli,by show 4≤4+li.length % 4∨_;omega⟩ dM ?_
  rintro⟨lp,pf⟩ ⟨(hp1:B6 pf lp=eK li),(hp2:lp.length≤16),(hp3:4≤pf+lp.length % 4∨lp.length % 4=0)⟩
  refine⟨⟨?_,?_⟩,fun w1=>⟨aa,⟨⟨?_,?_⟩,?_,?_⟩,?_⟩,fun w2=>?_⟩
  all_goals first|refine aw ?_|refine ax ?_|exact a8|(dsimp only [dD,fe,fO,ig,j0,kX,j4,k6,cJ,dH,gP];omega)|exact a7|skip
  ·have h4:¬lp.length % 4=0:=fun h=>by have:=aJ (p:=(lp.length:Int) % 4≠0) w1;omega
   obtain⟨k,rfl⟩:∃k,pf=k+1:=⟨pf-1,by omega⟩
   refine⟨(lp++[bM],k),[(1035,1055)],?_,?_,?_⟩
   rotate_right
   ·exact bV
   ·refine⟨by rw [←hp1,acX w1],by show (lp++[bM]).length≤16;rw [ZA0];show lp.length+1≤16;omega,?_⟩
    show 4≤k+(lp++[bM]).length % 4∨(lp++[bM]).length % 4=0
    rw [ZA0];show 4≤k+(lp.length+1) % 4∨(lp.length+1) % 4=0;omega
   ·exact ZD9 k
  ·have e:lp=eK li:=by rw [←hp1,acY w2]
   clear hp1 hp3
   subst e
   have rT:=HF li
   refine cN (l:=[(105,dD),(143,fO),(144,j0),(145,j4),(95,cJ)]) (ex:=zT) (wr:=zF) (pt:=fun d=>Nat.beq d 77) ⟨jU,pd,wN,wQ,gx,aa⟩ [.s 3,.s 4,.s 5,.b 1005,.s 8,.b 1008,.s 9,.b 1009,.s 11,.s 12,.b 310000,.s 13,.b 1035,.s 15,.s 16,.b 470000] (fun y:Nat×ay×List Pt×List Pt×Nat=>[(.s 14,.s (.xs 1036 5 0 y.2.2.2.1.length)),(.s 17,.s (.xs 1047 5 0 y.2.2.1.length)),(.s 18,.int y.1),(.b 1004,.a (kW 0 1 2 3 4 y.2.1)),(.b 0,.rs ab y.2.1.rows),(.b 1,.rs ag y.2.1.refs),(.b 2,.rs ag y.2.1.last),(.b 3,.rs ae y.2.1.gone),(.b 4,.rs ae y.2.1.dead),(.b 1036,.rs ae y.2.2.2.1),(.b 1047,.rs ae y.2.2.1)]) (fun y=>(y.2.1.wf∧y.2.1.gone.length≤1047000∧y.2.1.dead.length≤1047000)∧y.1*4≤(eK li).length∧y.2.2.1.length=y.1∧y.2.2.2.1.length≤st.length+y.1∧y.1+y.2.2.2.2=5∧fI y.2.2.2.2 y.2.1 lv (dL s g' (bj many) lv) (eK li) y.1 y.2.2.1 y.2.2.2.1=fI 5 s lv (dL s g' (bj many) lv) (eK li) 0 [] st) (fun y=>5-y.1) (0,s,[],st,5) [] ⟨⟨hw,hsg,xn⟩,ZA7 _,rfl,ZB5 _,rfl,rfl⟩ dM ?_
   rintro⟨i,u,nx,sy,f2⟩ ⟨⟨(hu:u.wf),(hug:u.gone.length≤1047000),(hud:u.dead.length≤1047000)⟩,(hi4:i*4≤(eK li).length),(hnx:nx.length=i),(hsy:sy.length≤st.length+i),(hf2:i+f2=5),(ke:fI f2 u lv (dL s g' (bj many) lv) (eK li) i nx sy=fI 5 s lv (dL s g' (bj many) lv) (eK li) 0 [] st)⟩
   have hic:decide ((i:Int)*4<((eK li).length:Int))=true→i*4<(eK li).length∧i<(dL s g' (bj many) lv).length∧i≤3:=fun h=>by
    have h1:=aJ h
    refine⟨by omega,?_,by omega⟩
    by_cases hh:lv=bj many
    ·have:=hd4 hh;omega
    ·have:=hwl.2.1 hh;omega
   have hoa:=nT (oC hwo i)
   refine⟨⟨?_,?_⟩,fun w1=>⟨[.s 4,.b 1004],Sq64,rfl,Sq13,Sq65,rfl,Sq18,Sq66,rfl,Sq66,Sq67,rfl,⟨?_,?_⟩,Sq18,Sq68,rfl,Sq68,Sq69,rfl,⟨?_,?_⟩,Sq69,Sq70,rfl,⟨?_,?_⟩,[.s 65,.s 67,.s 70],Sq71,rfl,⟨?_,?_,?_⟩,Sq15,Sq72,rfl,Sq16,Sq73,rfl,Sq18,Sq74,rfl,[.s 73,.s 74],Sq75,rfl,⟨?_,?_⟩,[.s 75,.b 470000],Sq76,rfl,?_,[.s 64,.s 71,.s 72,.s 76,.b 0,.b 1,.b 2,.b 3,.b 4,.b 1035],[.s 77,.b 0,.b 1,.b 2,.b 3,.b 4],rfl,⟨⟨tv9,?_,aa,tv6,aa⟩,⟨?_,?_,?_,?_,?_⟩,?_,?_,?_,?_⟩,?_,fun x2 w3=>⟨Sq77,Sq63,rfl,Sq63,Sq78,rfl,Sq63,Sq79,rfl,Sq63,Sq80,rfl,[.b 1019],[.s 19,.b 1019],rfl,[.b 1020],[.s 20,.b 1020],rfl,[.s 19,.s 78,.b 1019],[.b 1019],rfl,[.s 20,.s 79,.b 1020],[.b 1020],rfl,Sq80,Sq21,rfl,fun w4=>?_,fun w5=>⟨[.s 20,.b 1020],Sq86,rfl,Sq16,Sq87,rfl,Sq18,Sq88,rfl,[.s 87,.s 88],Sq89,rfl,⟨?_,?_⟩,[.s 89,.b 470000],Sq90,rfl,?_,[.s 86,.s 90],Sq91,rfl,fun w6=>⟨aa,⟨⟨?_,?_⟩,?_,?_⟩,aa,⟨⟨?_,?_⟩,?_,?_⟩,⟨?_,?_⟩,?_⟩,fun w7=>⟨aa,⟨⟨?_,?_⟩,?_,?_⟩,⟨?_,?_⟩,?_⟩⟩⟩⟩,fun w8=>⟨⟨?_,?_⟩,?_⟩⟩
   all_goals first|refine aw ?_|refine ax ?_|exact a8|(dsimp only [dD,fe,fO,ig,j0,kX,j4,k6,cJ,dH,gP];omega)|exact a7|exact hu.n.1|exact hu.n.2.1|exact hu.n.2.2|exact⟨hu.n⟩|exact (hic w1).2.1|(show (i:Int)<((dL s g' (bj many) lv).length:Int);have:=hic w1;omega)|(show ((List.drop _ (eK li)).take _).length≤1000000;rw [ZB9,ZC8];omega)|exact hoa.1|exact hoa.2|(have:=hic w1;show _≤_;omega)|skip
   ·obtain⟨k,rfl⟩:∃k,f2=k+1:=⟨f2-1,by have:=hic w1;omega⟩
    have aek:(ee u (qO (eK li) i) lv (nth ae (dL s g' (bj many) lv) i)).1=u:=ab3 (xm w4)
    have e0:fI 5 s lv (dL s g' (bj many) lv) (eK li) 0 [] st=(u,none):=by rw [←ke,agd w1 (show (!(ee u (qO (eK li) i) lv (nth ae (dL s g' (bj many) lv) i)).2.2)=true from w4),aek]
    have e1:mm 3 A' g' (bj many) 1 (l.take many.toNat) []=(u,none):=by rw [←hr,O6 hcd e0]
    have e:bQ A' g' l many=(u,ny,false):=by unfold bQ;rw [e1];rfl
    refine⟨[],[],_,_,_,rfl,az,false,2,(by show false=(bQ A' g' l many).2.2;rw [e]),?_,?_,rfl⟩
    ·(show _=mF A' g' l many false);unfold mF;first|(rw [e];exact congrArg (fun x:ay=>GF x++[AV.zz,AV.zz]) aek)|(rw [e];rfl)|rfl
    ·(show _=qi A' g' l many false);unfold qi;first|(rw [e];exact congrArg (fun x:ay=>GF x++[AV.zz,AV.zz]) aek)|(rw [e];rfl)|rfl
   ·obtain⟨k,rfl⟩:∃k,f2=k+1:=⟨f2-1,by have:=hic w1;omega⟩
    have ad6:=C6 u (qO (eK li) i) lv (nth ae (dL s g' (bj many) lv) i)
    refine⟨(i+1,(ee u (qO (eK li) i) lv (nth ae (dL s g' (bj many) lv) i)).1,nx++[(ee u (qO (eK li) i) lv (nth ae (dL s g' (bj many) lv) i)).2.1],sy++[(ee u (qO (eK li) i) lv (nth ae (dL s g' (bj many) lv) i)).2.1],k),[(1047,1099),(1036,1095)],?_,?_,?_⟩
    rotate_right
    ·exact bV
    ·refine⟨⟨PQ hu,by show (ee u (qO (eK li) i) lv (nth ae (dL s g' (bj many) lv) i)).1.gone.length≤_;rw [ad6.1];exact hug,by show (ee u (qO (eK li) i) lv (nth ae (dL s g' (bj many) lv) i)).1.dead.length≤_;rw [ad6.2.1];exact hud⟩,by show (i+1)*4≤(eK li).length;have:=hic w1;omega,by show List.length (_++_)=_;rw [ZA0,hnx];rfl,?_,by show i+1+k=5;omega,?_⟩
     ·show (sy++[(ee u (qO (eK li) i) lv (nth ae (dL s g' (bj many) lv) i)).2.1]).length≤st.length+(i+1);rw [ZA0];show sy.length+1≤_;omega
     ·rw [←ke,aae w1 (show (!(ee u (qO (eK li) i) lv (nth ae (dL s g' (bj many) lv) i)).2.2)=false from w5),show ptrEq (ee u (qO (eK li) i) lv (nth ae (dL s g' (bj many) lv) i)).2.1 (nth ae (dL s g' (bj many) lv) i)=true from w6];rfl
    ·show 5-(i+1)<5-i;have:=hic w1;omega
   ·obtain⟨k,rfl⟩:∃k,f2=k+1:=⟨f2-1,by have:=hic w1;omega⟩
    have ad6:=C6 u (qO (eK li) i) lv (nth ae (dL s g' (bj many) lv) i)
    refine⟨(i+1,(ee u (qO (eK li) i) lv (nth ae (dL s g' (bj many) lv) i)).1,nx++[(ee u (qO (eK li) i) lv (nth ae (dL s g' (bj many) lv) i)).2.1],sy,k),[(1047,1099)],?_,?_,?_⟩
    rotate_right
    ·exact bV
    ·refine⟨⟨PQ hu,by show (ee u (qO (eK li) i) lv (nth ae (dL s g' (bj many) lv) i)).1.gone.length≤_;rw [ad6.1];exact hug,by show (ee u (qO (eK li) i) lv (nth ae (dL s g' (bj many) lv) i)).1.dead.length≤_;rw [ad6.2.1];exact hud⟩,by show (i+1)*4≤(eK li).length;have:=hic w1;omega,by show List.length (_++_)=_;rw [ZA0,hnx];rfl,?_,by show i+1+k=5;omega,?_⟩
     ·show sy.length≤st.length+(i+1);omega
     ·rw [←ke,aae w1 (show (!(ee u (qO (eK li) i) lv (nth ae (dL s g' (bj many) lv) i)).2.2)=false from w5),show ptrEq (ee u (qO (eK li) i) lv (nth ae (dL s g' (bj many) lv) i)).2.1 (nth ae (dL s g' (bj many) lv) i)=false from w7];rfl
    ·show 5-(i+1)<5-i;have:=hic w1;omega
   ·have e0:fI 5 s lv (dL s g' (bj many) lv) (eK li) 0 [] st=(u,some (nx,sy)):=by rw [←ke,age w8]
    have FL:¬i*4<(eK li).length:=by have:=aA (p:=(i:Int)*4<((eK li).length:Int)) w8;omega
    refine⟨(lv+1,u,nx,sy,g),[(1035,1047)],?_,?_,?_⟩
    rotate_right
    ·exact bV
    ·refine⟨⟨hu,hug,hud⟩,⟨by show 1≤lv+1;omega,by show lv+1≤3;omega,by show lv+1+(g:Int)=4;omega⟩,fun _=>by show nx.length≤4;omega,by show nx.length≤16;omega,by show sy.length≤100*(lv+1).toNat;omega,?_⟩
     rw [←hr,O5 hcd e0]
    ·show (3-(lv+1)).toNat<(3-lv).toNat;omega
 ·have e1:mm 3 A' g' (bj many) 1 (l.take many.toNat) []=(s,some (li,st)):=by rw [←hr,O7 w4]
  refine cN (l:=[(105,dD),(143,fO),(144,j0),(145,j4),(95,cJ)]) (ex:=zT) (wr:=zF) (pt:=fun d=>Nat.beq d 77) ⟨jU,pd,wN,wQ,gx,aa⟩ [.s 3,.s 4,.s 8,.b 1008,.s 9,.b 1009,.s 11,.s 12,.b 310000,.s 13,.b 1035,.s 14,.b 1036] (fun y:Nat×ay=>[(.s 22,.int y.1),(.b 1004,.a (kW 0 1 2 1000000001 1000000002 y.2)),(.b 0,.rs ab y.2.rows),(.b 1,.rs ag y.2.refs),(.b 2,.rs ag y.2.last),(.b 1000000001,.rs ae y.2.gone),(.b 1000000002,.rs ae y.2.dead)]) (fun y=>y.2.wf∧y.1≤(bw A' g').length∧(y.2.gone.length≤1047000+y.1∧y.2.dead.length≤1047000+y.1)∧dX ((bw A' g').drop y.1) st y.2=dX (bw A' g') st s) (fun y=>(bw A' g').length-y.1) (0,s) [(1000000001,3),(1000000002,4)] ⟨hw,ZA7 _,⟨hsg,xn⟩,rfl⟩ dM ?_
  rintro⟨i,u⟩ ⟨(hu:u.wf),(hi:i≤(bw A' g').length),⟨(hug:u.gone.length≤1047000+i),(hud:u.dead.length≤1047000+i)⟩,(ke:dX ((bw A' g').drop i) st u=dX (bw A' g') st s)⟩
  have cO:i<(bw A' g').length→(bw A' g').drop i=nth ae (bw A' g') i::(bw A' g').drop (i+1):=fun h=>bW (ek:=ae) h
  have hia:=nT (oC ala i)
  have cm:decide ((i:Int)<((bw A' g').length:Int))=true→i<(bw A' g').length:=fun h=>by have:=aJ h;omega
  refine⟨fun w1=>?_,fun w2=>⟨fun w3=>⟨⟨?_,?_⟩,?_,[.s 4,.b 1004],Sq140,rfl,[.s 25,.b 1025],Sq141,rfl,Sq11,Sq142,rfl,Sq3,Sq143,rfl,[.s 141,.s 142,.s 143],Sq144,rfl,[.s 8,.s 140,.b 1008],[.b 1008],rfl,[.s 9,.s 144,.b 1009],[.b 1009],rfl,[],Sq10,rfl,?_⟩,fun w4=>⟨[.s 4,.b 1004],Sq140,rfl,[.s 25,.b 1025],Sq141,rfl,Sq11,Sq142,rfl,Sq3,Sq143,rfl,[.s 141,.s 142,.s 143],Sq144,rfl,[.s 8,.s 140,.b 1008],[.b 1008],rfl,[.s 9,.s 144,.b 1009],[.b 1009],rfl,[],Sq10,rfl,?_⟩⟩⟩
  all_goals first|refine aw ?_|refine ax ?_|exact a8|(dsimp only [dD,fe,fO,ig,j0,kX,j4,k6,cJ,dH,gP];omega)|exact a7|skip
  ·have hci:decide ((i:Int)<((bw A' g').length:Int))=true:=w1
   have aei:=cm hci
   refine cN (l:=[(105,dD),(143,fO),(144,j0),(145,j4),(95,cJ)]) (ex:=zT) (wr:=zF) (pt:=fun d=>Nat.beq d 77) ⟨jU,pd,wN,wQ,gx,aa⟩ [.s 3,.s 4,.s 8,.b 1008,.s 9,.b 1009,.s 11,.s 12,.b 310000,.s 13,.b 1035,.s 14,.b 1036,.s 22,.b 1004,.b 0,.b 1,.b 2,.b 1000000001,.b 1000000002] (fun y:Nat×Bool=>[(.s 23,.s (.q y.2)),(.s 24,.int y.1)]) (fun y=>y.1≤st.length∧(y.2||gW (st.drop y.1) (nth ae (bw A' g') i))=gW st (nth ae (bw A' g') i)) (fun y=>st.length-y.1) (0,false) [] ⟨ZA7 _,rfl⟩ dM ?_
   rintro⟨k,kp⟩ ⟨(hk:k≤st.length),(hkr:(kp||gW (st.drop k) (nth ae (bw A' g') i))=gW st (nth ae (bw A' g') i))⟩
   have abT:decide ((k:Int)<(st.length:Int))=true→k<st.length:=fun h=>by have:=aJ h;omega
   have hks:k<st.length→gW (st.drop k) (nth ae (bw A' g') i)=(ptrEq (nth ae st k) (nth ae (bw A' g') i)||gW (st.drop (k+1)) (nth ae (bw A' g') i)):=fun h=>by rw [bW (ek:=ae) h];rfl
   refine⟨fun w1=>⟨Sq23,Sq113,rfl,Sq113,Sq114,rfl,aa,fun w2=>⟨Sq114,Sq115,rfl,Sq114,Sq116,rfl,Sq114,Sq117,rfl,Sq114,Sq118,rfl,Sq114,Sq119,rfl,Sq114,Sq120,rfl,Sq114,Sq121,rfl,Sq114,Sq122,rfl,Sq114,Sq123,rfl,[.s 114,.s 123],Sq124,rfl,Sq124,Sq23,rfl,⟨?_,?_⟩,?_⟩,fun w3=>⟨[.s 114,.s 14],Sq115,rfl,[.s 114,.s 24],Sq116,rfl,[.s 114,.s 115,.s 116],Sq117,rfl,⟨?_,?_⟩,[.s 114,.s 117,.b 1036],Sq118,rfl,?_,[.s 114,.s 12],Sq119,rfl,[.s 114,.s 22],Sq120,rfl,[.s 114,.s 119,.s 120],Sq121,rfl,⟨?_,?_⟩,[.s 114,.s 121,.b 310000],Sq122,rfl,?_,[.s 114,.s 118,.s 122],Sq123,rfl,[.s 114,.s 123],Sq124,rfl,Sq124,Sq23,rfl,⟨?_,?_⟩,?_⟩⟩,fun w4=>⟨fun w5=>⟨[.s 4,.b 1004],Sq127,rfl,Sq12,Sq128,rfl,Sq22,Sq129,rfl,[.s 128,.s 129],Sq130,rfl,⟨?_,?_⟩,[.s 130,.b 310000],Sq131,rfl,?_,[.s 127,.s 131,.b 0,.b 1,.b 2,.b 1000000001,.b 1000000002,.b 1001330001,.b 1001330000],[.s 132,.b 0,.b 1,.b 2,.b 1000000001,.b 1000000002,.b 1001330000,.b 1001330001],rfl,⟨⟨tv9,tv6,aa⟩,⟨?_,?_,?_,?_,?_⟩,⟨?_,?_,?_⟩,?_,?_,?_,?_⟩,?_,fun x6 w7=>⟨[.s 4,.s 132,.b 1004],[.b 1004],rfl,⟨?_,?_⟩,?_⟩⟩,fun w8=>⟨⟨?_,?_⟩,?_⟩⟩⟩
   all_goals first|refine aw ?_|refine ax ?_|exact a8|(dsimp only [dD,fe,fO,ig,j0,kX,j4,k6,cJ,dH,gP];omega)|exact a7|exact abT w1|exact aei|exact aJ hci|exact hu.n.1|exact hu.n.2.1|exact hu.n.2.2|exact hia.1|exact hia.2|(show u.gone.length≤1048000;omega)|(show u.dead.length≤1048000;omega)|skip
   ·refine⟨(k+1,true),[],?_,?_,?_⟩
    rotate_right
    ·exact bV
    ·exact⟨abT w1,by show (true||_)=_;rw [←hkr,show kp=true from w2];rfl⟩
    ·show st.length-(k+1)<st.length-k;have:=abT w1;omega
   ·refine⟨(k+1,ptrEq (nth ae st k) (nth ae (bw A' g') i)),[],?_,?_,?_⟩
    rotate_right
    ·exact bV
    ·exact⟨abT w1,by show (ptrEq (nth ae st k) (nth ae (bw A' g') i)||gW (st.drop (k+1)) (nth ae (bw A' g') i))=_;rw [←hkr,show kp=false from w3,hks (abT w1)];rfl⟩
    ·show st.length-(k+1)<st.length-k;have:=abT w1;omega
   ·have ak8:¬k<st.length:=by have:=aA (p:=(k:Int)<(st.length:Int)) w4;omega
    have e:gW st (nth ae (bw A' g') i)=false:=by rw [←hkr,show kp=false from xm w5,ZB3 (by omega)];rfl
    have I3:=pg u (nth ae (bw A' g') i)
    refine⟨(i+1,cM u (nth ae (bw A' g') i)),[(1000000001,1001330000),(1000000002,1001330001)],?_,?_,?_⟩
    rotate_right
    ·exact bV
    ·exact⟨qq hu,aei,⟨by show (cM u (nth ae (bw A' g') i)).gone.length≤1047000+(i+1);omega,by show (cM u (nth ae (bw A' g') i)).dead.length≤1047000+(i+1);omega⟩,by rw [←ke,cO aei,TS e]⟩
    ·show (bw A' g').length-(i+1)<(bw A' g').length-i;omega
   ·have ak8:¬k<st.length:=by have:=aA (p:=(k:Int)<(st.length:Int)) w4;omega
    have e:gW st (nth ae (bw A' g') i)=true:=by rw [←hkr,show kp=true from cL w8];rfl
    refine⟨(i+1,u),[],?_,?_,?_⟩
    rotate_right
    ·exact bV
    ·exact⟨hu,aei,⟨by show u.gone.length≤1047000+(i+1);omega,by show u.dead.length≤1047000+(i+1);omega⟩,by rw [←ke,cO aei,TR e]⟩
    ·show (bw A' g').length-(i+1)<(bw A' g').length-i;omega
  ·have alc:¬i<(bw A' g').length:=by have:=aA (p:=(i:Int)<((bw A' g').length:Int)) w2;omega
   have e2:dX (bw A' g') st s=u:=by rw [←ke,ZB3 (by omega)];rfl
   have e:bQ A' g' l many=(u,LY (nth ae li 0) (bj many) many,true):=by
    unfold bQ;rw [e1];show (dX (bw A' g') st s,LY (rootOf li) (bj many) many,true)=_
    rw [e2,rootOf,show decide ((li.length:Int)>0)=true from w3];rfl
   refine⟨[1000000001,1000000002],[],_,_,_,rfl,az,true,0,(by show true=(bQ A' g' l many).2.2;rw [e]),?_,?_,rfl⟩
   ·(show _=mF A' g' l many true);unfold mF;first|(rw [e];rfl)|rfl
   ·(show _=qi A' g' l many true);unfold qi;first|(rw [e];rfl)|rfl
  ·have alc:¬i<(bw A' g').length:=by have:=aA (p:=(i:Int)<((bw A' g').length:Int)) w2;omega
   have e2:dX (bw A' g') st s=u:=by rw [←ke,ZB3 (by omega)];rfl
   have e:bQ A' g' l many=(u,LY bM (bj many) many,true):=by
    unfold bQ;rw [e1];show (dX (bw A' g') st s,LY (rootOf li) (bj many) many,true)=_
    rw [e2,rootOf,show decide ((li.length:Int)>0)=false from w4];rfl
   refine⟨[1000000001,1000000002],[],_,_,_,rfl,az,true,0,(by show true=(bQ A' g' l many).2.2;rw [e]),?_,?_,rfl⟩
   ·(show _=mF A' g' l many true);unfold mF;first|(rw [e];rfl)|rfl
   ·(show _=qi A' g' l many true);unfold qi;first|(rw [e];rfl)|rfl
end GL
end Go.Proofs.YtnkbdhldiinfdaaGreatDoor
