/- FnTreeOk returns true for every code (its row lists package variables, tied by the card): part 17 of 39. -/
import Derived.Test.YtbfgjadbfjkcdaaGreatDoorPaj
import Derived.Test.YtbfgjadbfjkcdaaGreatDoorPap
set_option maxHeartbeats 20000000
set_option linter.all false
namespace Go.Proofs.YtbfgjadbfjkcdaaGreatDoor
namespace GL
theorem agm {f:Nat} {s:ax} {lv:Int} {j4 l next stays:List Pt} {i:Nat} (h:decide ((i:Int) * 4 < l.length)=true) (h2:(!(dT s (qC l i) lv (nth ab j4 i)).2.2)=true):fB (f+1) s lv j4 l i next stays=((dT s (qC l i) lv (nth ab j4 i)).1,none):=by rw [fB,h,h2];rfl
theorem aao {f:Nat} {s:ax} {lv:Int} {j4 l next stays:List Pt} {i:Nat} (h:decide ((i:Int) * 4 < l.length)=true) (h2:(!(dT s (qC l i) lv (nth ab j4 i)).2.2)=false):fB (f+1) s lv j4 l i next stays=fB f (dT s (qC l i) lv (nth ab j4 i)).1 lv j4 l (i+1) (next++[(dT s (qC l i) lv (nth ab j4 i)).2.1]) (bif ptrEq (dT s (qC l i) lv (nth ab j4 i)).2.1 (nth ab j4 i) then stays++[(dT s (qC l i) lv (nth ab j4 i)).2.1] else stays):=by rw [fB,h,h2];rfl
theorem agn {f:Nat} {s:ax} {lv:Int} {j4 l next stays:List Pt} {i:Nat} (h:decide ((i:Int) * 4 < l.length)=false):fB f s lv j4 l i next stays=(s,some (next,stays)):=by
 cases f with
 |zero=>rfl
 |succ f=>rw [fB,h];rfl
theorem O9 {f:Nat} {s s':ax} {t:aZ} {d lv:Int} {l stays:List Pt} (h:decide (lv≤d)=true) (h2:fB 5 s lv (dG s t d lv) (eF l) 0 [] stays=(s',none)):mm (f+1) s t d lv l stays=(s',none):=by rw [mm,h,h2];rfl
theorem O8 {f:Nat} {s s':ax} {t:aZ} {d lv:Int} {l stays n st:List Pt} (h:decide (lv≤d)=true) (h2:fB 5 s lv (dG s t d lv) (eF l) 0 [] stays=(s',some (n,st))):mm (f+1) s t d lv l stays=mm f s' t d (lv+1) n st:=by rw [mm,h,h2];rfl
theorem PA {f:Nat} {s:ax} {t:aZ} {d lv:Int} {l stays:List Pt} (h:decide (lv≤d)=false):mm f s t d lv l stays=(s,some (l,stays)):=by
 cases f with
 |zero=>rfl
 |succ f=>rw [mm,h];rfl
theorem T2 {o:Pt} {l stays:List Pt} {s:ax} (h:gQ stays o=true):dQ (o::l) stays s=dQ l stays s:=by rw [dQ,h];rfl
theorem T3 {o:Pt} {l stays:List Pt} {s:ax} (h:gQ stays o=false):dQ (o::l) stays s=dQ l stays (cG s o):=by rw [dQ,h];rfl
theorem ae7 {n:Int} (h:bb n=1):n≤4:=by
 unfold bb at h
 by_cases h1:n≤1
 ·omega
 ·rw [decide_eq_false h1] at h
  by_cases h2:n≤4
  ·exact h2
  ·rw [decide_eq_false h2] at h;cases h
def kX (S:ax) (t:aZ) (l:List Pt) (many:Int):Prop:=S.wf∧t.rd∧l.length=16∧0≤many∧many≤16∧S.gone.length≤1047000∧S.dead.length≤1047000
def aa5 (S:ax) (t:aZ) (l:List Pt) (many:Int) (z:Bool):Prop:=z=(bK S t l many).2.2
def mE (S:ax) (t:aZ) (l:List Pt) (many:Int) (z:Bool):AV:=match z with |true=>.t [.a (lA 0 1 2 5 6 (bK S t l many).1),trA (bK S t l many).2.1, .s (.q true)] |false=>.t [.a (lA 0 1 2 3 4 (bK S t l many).1),trA (bK S t l many).2.1, .s (.q false)]
def p9 (S:ax) (t:aZ) (l:List Pt) (many:Int) (z:Bool):List AV:=match z with |true=>[.rs aa (bK S t l many).1.rows, .rs ae (bK S t l many).1.refs, .rs ae (bK S t l many).1.last, .zz, .zz, .rs ab (bK S t l many).1.gone, .rs ab (bK S t l many).1.dead] |false=>GD (bK S t l many).1++[.zz, .zz]
def jT:Con where
 A:=[.a (stB 0 1 2 3 4), .a [.int, .int, .int, .int, .int, .int, .int], .s (.vz ab), .s .int]
 B:=[.r aa, .r ae, .r ae, .r ab, .r ab]
 pre:=fun x b=>whole x.1.1 x.1.2.1 x.1.2.2.1 x.1.2.2.2.2.1 x.1.2.2.2.2.2.2.1 (b.1) (b.2.1) (b.2.2.1) (b.2.2.2.1) (b.2.2.2.2)∧kX ((b.1,b.2.1,b.2.2.1,x.1.2.2.2.1,b.2.2.2.1,x.1.2.2.2.2.2.1,b.2.2.2.2,x.1.2.2.2.2.2.2.2)) (x.2.1) (x.2.2.1) (x.2.2.2)
 α:=fun _ _=>Bool
 φ:=fun x b z=>aa5 ((b.1,b.2.1,b.2.2.1,x.1.2.2.2.1,b.2.2.2.1,x.1.2.2.2.2.2.1,b.2.2.2.2,x.1.2.2.2.2.2.2.2)) (x.2.1) (x.2.2.1) (x.2.2.2) z
 r:=fun x b z=>mE ((b.1,b.2.1,b.2.2.1,x.1.2.2.2.1,b.2.2.2.1,x.1.2.2.2.2.2.1,b.2.2.2.2,x.1.2.2.2.2.2.2.2)) (x.2.1) (x.2.2.1) (x.2.2.2) z
 o:=fun x b z=>p9 ((b.1,b.2.1,b.2.2.1,x.1.2.2.2.1,b.2.2.2.1,x.1.2.2.2.2.2.1,b.2.2.2.2,x.1.2.2.2.2.2.2.2)) (x.2.1) (x.2.2.1) (x.2.2.2) z
 nf:=2
 mv:=true
set_option maxRecDepth 100000 in
theorem wP:Has Tryz.prog 49 jT:=by
 refine Has.ofZ (fun _=>true) (fun _=>false) (fun d=>Nat.beq d 77) (l:=[(27,dx),(81,fG),(82,jS),(83,jV),(50,cE)]) ⟨jM,oZ,wO,wR,gl,trivial⟩ (fn:=Tryz.f49) Tryz.func49 rfl (by decide) (cH rfl) ?_
 rintro ⟨⟨(AS:Nat),(AR:Nat),(AQ:Nat),(an:Int),(AO:Nat),(ao:Int),(AN:Nat),(aq:Bool)⟩,⟨(t1:Int),(t2:Int),(t3:Int),(t4:Int),(t5:Int),(t6:Int),(t7:Int)⟩,(l:List Pt),(many:Int)⟩ ⟨(ai:List ByteArray),(aj:List Int),(ak:List Int),(ag:List Pt),(ah:List Pt)⟩ ⟨⟨(gr:AS=List.length ai),(gq:AR=List.length aj),(gp:AQ=List.length ak),(gn:AO=List.length ag),(gm:AN=List.length ah)⟩,(hp:kX (ai,aj,ak,an,ag,ao,ah,aq) (t1,t2,t3,t4,t5,t6,t7) l many)⟩
 subst gr gq gp gn gm
 show vc _ _ _ _ (entry [.a [.xs 0 1 0 ai.length, .xs 1 1 0 aj.length, .xs 2 1 0 ak.length, .int an, .xs 3 5 0 ag.length, .int ao, .xs 4 5 0 ah.length, .q aq], .a [.int t1, .int t2, .int t3, .int t4, .int t5, .int t6, .int t7], .s (.vz ab l), .int many] [.rs aa ai, .rs ae aj, .rs ae ak, .rs ab ag, .rs ab ah]) _
 obtain ⟨oI,sP,(ak0:l.length=16),CQ,hm1,(hg:ag.length≤1047000),(hd:ah.length≤1047000)⟩:=hp
 have oI:ax.wf (ai,aj,ak,an,ag,ao,ah,aq):=oI
 have sP:aZ.rd (t1,t2,t3,t4,t5,t6,t7):=sP
 have al9:=IS (ai,aj,ak,an,ag,ao,ah,aq) (t1,t2,t3,t4,t5,t6,t7)
 have ak3:=MM (s:=(ai,aj,ak,an,ag,ao,ah,aq)) sP
 have hdb:=o9 many
 refine ⟨⟨⟨tv,tv⟩,tv⟩,fun x1 w2=>⟨⟨⟨⟨⟨?_,?_⟩,⟨?_,?_⟩,⟨?_,?_⟩,tv,⟨?_,?_⟩,tv,⟨?_,?_⟩,tv,tv⟩,⟨tv,tv,tv,tv,tv,tv,tv,tv⟩,tv⟩,?_⟩,fun x3 w4=>⟨tv,⟨?_,?_,?_⟩,⟨⟨?_,?_⟩,tv⟩,tv,?_⟩⟩⟩
 all_goals first|refine au ?_|refine aw ?_|exact sa|(dsimp only [dx,eX];omega)|(dsimp only [fG,gX];omega)|(dsimp only [jS,kW];omega)|(dsimp only [jV,kZ];omega)|(dsimp only [cE,dD];omega)|exact sb|exact oI.rd|(show 0+((l.drop _).take _).length≤1048576;rw [List.length_take,List.length_drop];omega)|skip
 refine cI (l:=[(27,dx),(81,fG),(82,jS),(83,jV),(50,cE)]) (ex:=fun _=>true) (wr:=fun _=>false) (pt:=fun d=>Nat.beq d 77) ⟨jM,oZ,wO,wR,gl,trivial⟩ [.s 3, .s 4, .s 5, .b 1005, .s 8, .b 1008, .s 9, .b 1009, .s 11, .s 12, .b 310000] (fun y:Int×ax×List Pt×List Pt×Nat=>[(.s 13, .s (.xs 1035 5 0 y.2.2.1.length)),(.s 14, .s (.xs 1036 5 0 y.2.2.2.1.length)),(.s 15, .int y.1),(.b 1004, .a (lA 0 1 2 3 4 y.2.1)),(.b 0, .rs aa y.2.1.rows),(.b 1, .rs ae y.2.1.refs),(.b 2, .rs ae y.2.1.last),(.b 3, .rs ab y.2.1.gone),(.b 4, .rs ab y.2.1.dead),(.b 1035, .rs ab y.2.2.1),(.b 1036, .rs ab y.2.2.2.1)]) (fun y=>(y.2.1.wf∧y.2.1.gone.length≤1047000∧y.2.1.dead.length≤1047000)∧(1≤y.1∧y.1≤3∧y.1+y.2.2.2.2=4)∧(y.1=bb many→y.2.2.1.length≤4)∧y.2.2.1.length≤16∧y.2.2.2.1.length≤100 * y.1.toNat∧mm y.2.2.2.2 y.2.1 (t1,t2,t3,t4,t5,t6,t7) (bb many) y.1 y.2.2.1 y.2.2.2.1=mm 3 (ai,aj,ak,an,ag,ao,ah,aq) (t1,t2,t3,t4,t5,t6,t7) (bb many) 1 (l.take many.toNat) []) (fun y=>(3 - y.1).toNat) (1,(ai,aj,ak,an,ag,ao,ah,aq),l.take many.toNat,[],3) [] ⟨⟨oI,hg,hd⟩,⟨Int.le_refl _,by show (1:Int)≤3;omega,rfl⟩,fun h=>by have h:1=bb many:=h;have:=ae7 h.symm;show (l.take many.toNat).length≤4;rw [List.length_take];omega,by show (l.take many.toNat).length≤16;rw [List.length_take];omega,Nat.zero_le _,rfl⟩ ru ?_
 rintro ⟨lv,s,li,st,f⟩ ⟨⟨(hw:s.wf),(hsg:s.gone.length≤1047000),(xl:s.dead.length≤1047000)⟩,⟨(al7:1≤lv),(al6:lv≤3),(hf:lv+(f:Int)=4)⟩,(hd4:lv=bb many→li.length≤4),(hli:li.length≤16),(hst:st.length≤100 * lv.toNat),(hr:mm f s (t1,t2,t3,t4,t5,t6,t7) (bb many) lv li st=mm 3 (ai,aj,ak,an,ag,ao,ah,aq) (t1,t2,t3,t4,t5,t6,t7) (bb many) 1 (l.take many.toNat) [])⟩
 refine ⟨fun w1=>⟨⟨⟨⟨⟨?_,?_⟩,⟨?_,?_⟩,⟨?_,?_⟩,tv,⟨?_,?_⟩,tv,⟨?_,?_⟩,tv,tv⟩,⟨tv,tv,tv,tv,tv,tv,tv,tv⟩,tv,tv,tv⟩,?_⟩,fun x2 w3=>⟨tv,?_⟩⟩,fun w4=>?_⟩
 all_goals first|refine au ?_|refine aw ?_|exact sa|(dsimp only [dx,eX];omega)|(dsimp only [fG,gX];omega)|(dsimp only [jS,kW];omega)|(dsimp only [jV,kZ];omega)|(dsimp only [cE,dD];omega)|exact sb|exact hw.rd|skip
 ·have al5:lv≤bb many:=cw w1
  have hcd:decide (lv≤bb many)=true:=w1
  obtain ⟨g,rfl⟩:∃g,f=g+1:=⟨f - 1,by omega⟩
  have hwl:=adr s (t1,t2,t3,t4,t5,t6,t7) (bb many) lv
  have hwo:=ZI (s:=s) (d:=bb many) (lv:=lv) sP
  refine cI (l:=[(27,dx),(81,fG),(82,jS),(83,jV),(50,cE)]) (ex:=fun _=>true) (wr:=fun _=>false) (pt:=fun d=>Nat.beq d 77) ⟨jM,oZ,wO,wR,gl,trivial⟩ [.s 3, .s 4, .s 5, .b 1005, .s 8, .b 1008, .s 9, .b 1009, .s 11, .s 12, .b 310000, .s 14, .b 1036, .s 15, .b 1004, .b 0, .b 1, .b 2, .b 3, .b 4, .s 16, .b 470000, .s 17, .b 1047] (fun y:List Pt×Nat=>[(.s 13, .s (.xs 1035 5 0 y.1.length)),(.b 1035, .rs ab y.1)]) (fun y=>B1 y.2 y.1=eF li∧y.1.length≤16∧(4≤y.2+y.1.length % 4∨y.1.length % 4=0)) (fun y=>y.2) (li,4) [] ⟨rfl,hli,by show 4≤4+li.length % 4∨_;omega⟩ ru ?_
  rintro ⟨lp,pf⟩ ⟨(hp1:B1 pf lp=eF li),(hp2:lp.length≤16),(hp3:4≤pf+lp.length % 4∨lp.length % 4=0)⟩
  refine ⟨⟨?_,?_⟩,fun w1=>⟨tv,⟨⟨?_,?_⟩,?_,?_⟩,?_⟩,fun w2=>?_⟩
  all_goals first|refine au ?_|refine aw ?_|exact sa|(dsimp only [dx,eX];omega)|(dsimp only [fG,gX];omega)|(dsimp only [jS,kW];omega)|(dsimp only [jV,kZ];omega)|(dsimp only [cE,dD];omega)|exact sb|skip
  ·have h4:¬lp.length % 4=0:=fun h=>by have:=cw (p:=(lp.length:Int) % 4≠0) w1;omega
   obtain ⟨k,rfl⟩:∃k,pf=k+1:=⟨pf - 1,by omega⟩
   refine ⟨(lp++[bL],k),[(1035,1055)],?_,?_,?_⟩
   rotate_right
   ·exact rq
   ·refine ⟨by rw [←hp1,ac6 w1],by show (lp++[bL]).length≤16;rw [List.length_append];show lp.length+1≤16;omega,?_⟩
    show 4≤k+(lp++[bL]).length % 4∨(lp++[bL]).length % 4=0
    rw [List.length_append];show 4≤k+(lp.length+1) % 4∨(lp.length+1) % 4=0;omega
   ·exact Nat.lt_succ_self k
  ·have e:lp=eF li:=by rw [←hp1,ac7 w2]
   clear hp1 hp3
   subst e
   have rM:=HF li
   refine cI (l:=[(27,dx),(81,fG),(82,jS),(83,jV),(50,cE)]) (ex:=fun _=>true) (wr:=fun _=>false) (pt:=fun d=>Nat.beq d 77) ⟨jM,oZ,wO,wR,gl,tv⟩ [.s 3, .s 4, .s 5, .b 1005, .s 8, .b 1008, .s 9, .b 1009, .s 11, .s 12, .b 310000, .s 13, .b 1035, .s 15, .s 16, .b 470000] (fun y:Nat×ax×List Pt×List Pt×Nat=>[(.s 14, .s (.xs 1036 5 0 y.2.2.2.1.length)),(.s 17, .s (.xs 1047 5 0 y.2.2.1.length)),(.s 18, .int y.1),(.b 1004, .a (lA 0 1 2 3 4 y.2.1)),(.b 0, .rs aa y.2.1.rows),(.b 1, .rs ae y.2.1.refs),(.b 2, .rs ae y.2.1.last),(.b 3, .rs ab y.2.1.gone),(.b 4, .rs ab y.2.1.dead),(.b 1036, .rs ab y.2.2.2.1),(.b 1047, .rs ab y.2.2.1)]) (fun y=>(y.2.1.wf∧y.2.1.gone.length≤1047000∧y.2.1.dead.length≤1047000)∧y.1 * 4≤(eF li).length∧y.2.2.1.length=y.1∧y.2.2.2.1.length≤st.length+y.1∧y.1+y.2.2.2.2=5∧fB y.2.2.2.2 y.2.1 lv (dG s (t1,t2,t3,t4,t5,t6,t7) (bb many) lv) (eF li) y.1 y.2.2.1 y.2.2.2.1=fB 5 s lv (dG s (t1,t2,t3,t4,t5,t6,t7) (bb many) lv) (eF li) 0 [] st) (fun y=>5 - y.1) (0,s,[],st,5) [] ⟨⟨hw,hsg,xl⟩,Nat.zero_le _,rfl,Nat.le_refl _,rfl,rfl⟩ ru ?_
   rintro ⟨i,u,nx,sy,f2⟩ ⟨⟨(hu:u.wf),(hug:u.gone.length≤1047000),(hud:u.dead.length≤1047000)⟩,(hi4:i * 4≤(eF li).length),(hnx:nx.length=i),(hsy:sy.length≤st.length+i),(hf2:i+f2=5),(j6:fB f2 u lv (dG s (t1,t2,t3,t4,t5,t6,t7) (bb many) lv) (eF li) i nx sy=fB 5 s lv (dG s (t1,t2,t3,t4,t5,t6,t7) (bb many) lv) (eF li) 0 [] st)⟩
   have hic:decide ((i:Int) * 4 < ((eF li).length:Int))=true→i * 4 < (eF li).length∧i < (dG s (t1,t2,t3,t4,t5,t6,t7) (bb many) lv).length∧i≤3:=fun h=>by
    have h1:=cw h
    refine ⟨by omega,?_,by omega⟩
    by_cases hh:lv=bb many
    ·have:=hd4 hh;omega
    ·have:=hwl.2.1 hh;omega
   have hoa:=nT (oA hwo i)
   refine ⟨⟨?_,?_⟩,fun w1=>⟨[.s 4, .b 1004],[.s 64],rfl,[.s 13],[.s 65],rfl,[.s 18],[.s 66],rfl,[.s 66],[.s 67],rfl,⟨?_,?_⟩,[.s 18],[.s 68],rfl,[.s 68],[.s 69],rfl,⟨?_,?_⟩,[.s 69],[.s 70],rfl,⟨?_,?_⟩,[.s 65, .s 67, .s 70],[.s 71],rfl,⟨?_,?_,?_⟩,[.s 15],[.s 72],rfl,[.s 16],[.s 73],rfl,[.s 18],[.s 74],rfl,[.s 73, .s 74],[.s 75],rfl,⟨?_,?_⟩,[.s 75, .b 470000],[.s 76],rfl,?_,[.s 64, .s 71, .s 72, .s 76, .b 0, .b 1, .b 2, .b 3, .b 4, .b 1035],[.s 77, .b 0, .b 1, .b 2, .b 3, .b 4],rfl,⟨⟨⟨tv,tv,tv,tv,tv,tv,tv,tv,tv⟩,?_,tv,⟨tv,tv,tv,tv,tv,tv⟩,tv⟩,⟨?_,?_,?_,?_,?_⟩,?_,?_,?_,?_⟩,?_,fun x2 w3=>⟨[.s 77],[.s 63],rfl,[.s 63],[.s 78],rfl,[.s 63],[.s 79],rfl,[.s 63],[.s 80],rfl,[.b 1019],[.s 19, .b 1019],rfl,[.b 1020],[.s 20, .b 1020],rfl,[.s 19, .s 78, .b 1019],[.b 1019],rfl,[.s 20, .s 79, .b 1020],[.b 1020],rfl,[.s 80],[.s 21],rfl,fun w4=>?_,fun w5=>⟨[.s 20, .b 1020],[.s 86],rfl,[.s 16],[.s 87],rfl,[.s 18],[.s 88],rfl,[.s 87, .s 88],[.s 89],rfl,⟨?_,?_⟩,[.s 89, .b 470000],[.s 90],rfl,?_,[.s 86, .s 90],[.s 91],rfl,fun w6=>⟨tv,⟨⟨?_,?_⟩,?_,?_⟩,tv,⟨⟨?_,?_⟩,?_,?_⟩,⟨?_,?_⟩,?_⟩,fun w7=>⟨tv,⟨⟨?_,?_⟩,?_,?_⟩,⟨?_,?_⟩,?_⟩⟩⟩⟩,fun w8=>⟨⟨?_,?_⟩,?_⟩⟩
   all_goals first|refine au ?_|refine aw ?_|exact sa|(dsimp only [dx,eX];omega)|(dsimp only [fG,gX];omega)|(dsimp only [jS,kW];omega)|(dsimp only [jV,kZ];omega)|(dsimp only [cE,dD];omega)|exact sb|exact hu.n.1|exact hu.n.2.1|exact hu.n.2.2|exact ⟨hu.n⟩|exact (hic w1).2.1|(show (i:Int) < ((dG s (t1,t2,t3,t4,t5,t6,t7) (bb many) lv).length:Int);have:=hic w1;omega)|(show ((List.drop _ (eF li)).take _).length≤1000000;rw [List.length_take,List.length_drop];omega)|exact hoa.1|exact hoa.2|(have:=hic w1;show _≤_;omega)|skip
   ·obtain ⟨k,rfl⟩:∃k,f2=k+1:=⟨f2 - 1,by have:=hic w1;omega⟩
    have aev:(dT u (qC (eF li) i) lv (nth ab (dG s (t1,t2,t3,t4,t5,t6,t7) (bb many) lv) i)).1=u:=acg (xk w4)
    have e0:fB 5 s lv (dG s (t1,t2,t3,t4,t5,t6,t7) (bb many) lv) (eF li) 0 [] st=(u,none):=by rw [←j6,agm w1 (show (!(dT u (qC (eF li) i) lv (nth ab (dG s (t1,t2,t3,t4,t5,t6,t7) (bb many) lv) i)).2.2)=true from w4),aev]
    have e1:mm 3 (ai,aj,ak,an,ag,ao,ah,aq) (t1,t2,t3,t4,t5,t6,t7) (bb many) 1 (l.take many.toNat) []=(u,none):=by rw [←hr,O9 hcd e0]
    have e:bK (ai,aj,ak,an,ag,ao,ah,aq) (t1,t2,t3,t4,t5,t6,t7) l many=(u,ny,false):=by unfold bK;rw [e1];rfl
    refine ⟨[],[],_,_,_,rfl,rp,false,2,(by show false=(bK (ai,aj,ak,an,ag,ao,ah,aq) (t1,t2,t3,t4,t5,t6,t7) l many).2.2;rw [e]),?_,?_,rfl⟩
    ·(show _=mE (ai,aj,ak,an,ag,ao,ah,aq) (t1,t2,t3,t4,t5,t6,t7) l many false);unfold mE;first |(rw [e];exact congrArg (fun x:ax=>GD x++[AV.zz,AV.zz]) aev) |(rw [e];rfl) |rfl
    ·(show _=p9 (ai,aj,ak,an,ag,ao,ah,aq) (t1,t2,t3,t4,t5,t6,t7) l many false);unfold p9;first |(rw [e];exact congrArg (fun x:ax=>GD x++[AV.zz,AV.zz]) aev) |(rw [e];rfl) |rfl
   ·obtain ⟨k,rfl⟩:∃k,f2=k+1:=⟨f2 - 1,by have:=hic w1;omega⟩
    have aeg:=C2 u (qC (eF li) i) lv (nth ab (dG s (t1,t2,t3,t4,t5,t6,t7) (bb many) lv) i)
    refine ⟨(i+1,(dT u (qC (eF li) i) lv (nth ab (dG s (t1,t2,t3,t4,t5,t6,t7) (bb many) lv) i)).1,nx++[(dT u (qC (eF li) i) lv (nth ab (dG s (t1,t2,t3,t4,t5,t6,t7) (bb many) lv) i)).2.1],sy++[(dT u (qC (eF li) i) lv (nth ab (dG s (t1,t2,t3,t4,t5,t6,t7) (bb many) lv) i)).2.1],k),[(1047,1099),(1036,1095)],?_,?_,?_⟩
    rotate_right
    ·exact rq
    ·refine ⟨⟨PV hu,by show (dT u (qC (eF li) i) lv (nth ab (dG s (t1,t2,t3,t4,t5,t6,t7) (bb many) lv) i)).1.gone.length≤_;rw [aeg.1];exact hug,by show (dT u (qC (eF li) i) lv (nth ab (dG s (t1,t2,t3,t4,t5,t6,t7) (bb many) lv) i)).1.dead.length≤_;rw [aeg.2.1];exact hud⟩,by show (i+1) * 4≤(eF li).length;have:=hic w1;omega,by show List.length (_++_)=_;rw [List.length_append,hnx];rfl,?_,by show i+1+k=5;omega,?_⟩
     ·show (sy++[(dT u (qC (eF li) i) lv (nth ab (dG s (t1,t2,t3,t4,t5,t6,t7) (bb many) lv) i)).2.1]).length≤st.length+(i+1);rw [List.length_append];show sy.length+1≤_;omega
     ·rw [←j6,aao w1 (show (!(dT u (qC (eF li) i) lv (nth ab (dG s (t1,t2,t3,t4,t5,t6,t7) (bb many) lv) i)).2.2)=false from w5),show ptrEq (dT u (qC (eF li) i) lv (nth ab (dG s (t1,t2,t3,t4,t5,t6,t7) (bb many) lv) i)).2.1 (nth ab (dG s (t1,t2,t3,t4,t5,t6,t7) (bb many) lv) i)=true from w6];rfl
    ·show 5 - (i+1) < 5 - i;have:=hic w1;omega
   ·obtain ⟨k,rfl⟩:∃k,f2=k+1:=⟨f2 - 1,by have:=hic w1;omega⟩
    have aeg:=C2 u (qC (eF li) i) lv (nth ab (dG s (t1,t2,t3,t4,t5,t6,t7) (bb many) lv) i)
    refine ⟨(i+1,(dT u (qC (eF li) i) lv (nth ab (dG s (t1,t2,t3,t4,t5,t6,t7) (bb many) lv) i)).1,nx++[(dT u (qC (eF li) i) lv (nth ab (dG s (t1,t2,t3,t4,t5,t6,t7) (bb many) lv) i)).2.1],sy,k),[(1047,1099)],?_,?_,?_⟩
    rotate_right
    ·exact rq
    ·refine ⟨⟨PV hu,by show (dT u (qC (eF li) i) lv (nth ab (dG s (t1,t2,t3,t4,t5,t6,t7) (bb many) lv) i)).1.gone.length≤_;rw [aeg.1];exact hug,by show (dT u (qC (eF li) i) lv (nth ab (dG s (t1,t2,t3,t4,t5,t6,t7) (bb many) lv) i)).1.dead.length≤_;rw [aeg.2.1];exact hud⟩,by show (i+1) * 4≤(eF li).length;have:=hic w1;omega,by show List.length (_++_)=_;rw [List.length_append,hnx];rfl,?_,by show i+1+k=5;omega,?_⟩
     ·show sy.length≤st.length+(i+1);omega
     ·rw [←j6,aao w1 (show (!(dT u (qC (eF li) i) lv (nth ab (dG s (t1,t2,t3,t4,t5,t6,t7) (bb many) lv) i)).2.2)=false from w5),show ptrEq (dT u (qC (eF li) i) lv (nth ab (dG s (t1,t2,t3,t4,t5,t6,t7) (bb many) lv) i)).2.1 (nth ab (dG s (t1,t2,t3,t4,t5,t6,t7) (bb many) lv) i)=false from w7];rfl
    ·show 5 - (i+1) < 5 - i;have:=hic w1;omega
   ·have e0:fB 5 s lv (dG s (t1,t2,t3,t4,t5,t6,t7) (bb many) lv) (eF li) 0 [] st=(u,some (nx,sy)):=by rw [←j6,agn w8]
    have FJ:¬i * 4 < (eF li).length:=by have:=ca (p:=(i:Int) * 4 < ((eF li).length:Int)) w8;omega
    refine ⟨(lv+1,u,nx,sy,g),[(1035,1047)],?_,?_,?_⟩
    rotate_right
    ·exact rq
    ·refine ⟨⟨hu,hug,hud⟩,⟨by show 1≤lv+1;omega,by show lv+1≤3;omega,by show lv+1+(g:Int)=4;omega⟩,fun _=>by show nx.length≤4;omega,by show nx.length≤16;omega,by show sy.length≤100 * (lv+1).toNat;omega,?_⟩
     rw [←hr,O8 hcd e0]
    ·show (3 - (lv+1)).toNat < (3 - lv).toNat;omega
 ·have e1:mm 3 (ai,aj,ak,an,ag,ao,ah,aq) (t1,t2,t3,t4,t5,t6,t7) (bb many) 1 (l.take many.toNat) []=(s,some (li,st)):=by rw [←hr,PA w4]
  refine cI (l:=[(27,dx),(81,fG),(82,jS),(83,jV),(50,cE)]) (ex:=fun _=>true) (wr:=fun _=>false) (pt:=fun d=>Nat.beq d 77) ⟨jM,oZ,wO,wR,gl,tv⟩ [.s 3, .s 4, .s 8, .b 1008, .s 9, .b 1009, .s 11, .s 12, .b 310000, .s 13, .b 1035, .s 14, .b 1036] (fun y:Nat×ax=>[(.s 22, .int y.1),(.b 1004, .a (lA 0 1 2 1000000001 1000000002 y.2)),(.b 0, .rs aa y.2.rows),(.b 1, .rs ae y.2.refs),(.b 2, .rs ae y.2.last),(.b 1000000001, .rs ab y.2.gone),(.b 1000000002, .rs ab y.2.dead)]) (fun y=>y.2.wf∧y.1≤(bl (ai,aj,ak,an,ag,ao,ah,aq) (t1,t2,t3,t4,t5,t6,t7)).length∧(y.2.gone.length≤1047000+y.1∧y.2.dead.length≤1047000+y.1)∧dQ ((bl (ai,aj,ak,an,ag,ao,ah,aq) (t1,t2,t3,t4,t5,t6,t7)).drop y.1) st y.2=dQ (bl (ai,aj,ak,an,ag,ao,ah,aq) (t1,t2,t3,t4,t5,t6,t7)) st s) (fun y=>(bl (ai,aj,ak,an,ag,ao,ah,aq) (t1,t2,t3,t4,t5,t6,t7)).length - y.1) (0,s) [(1000000001,3),(1000000002,4)] ⟨hw,Nat.zero_le _,⟨hsg,xl⟩,rfl⟩ ru ?_
  rintro ⟨i,u⟩ ⟨(hu:u.wf),(hi:i≤(bl (ai,aj,ak,an,ag,ao,ah,aq) (t1,t2,t3,t4,t5,t6,t7)).length),⟨(hug:u.gone.length≤1047000+i),(hud:u.dead.length≤1047000+i)⟩,(j6:dQ ((bl (ai,aj,ak,an,ag,ao,ah,aq) (t1,t2,t3,t4,t5,t6,t7)).drop i) st u=dQ (bl (ai,aj,ak,an,ag,ao,ah,aq) (t1,t2,t3,t4,t5,t6,t7)) st s)⟩
  have cJ:i < (bl (ai,aj,ak,an,ag,ao,ah,aq) (t1,t2,t3,t4,t5,t6,t7)).length→(bl (ai,aj,ak,an,ag,ao,ah,aq) (t1,t2,t3,t4,t5,t6,t7)).drop i=nth ab (bl (ai,aj,ak,an,ag,ao,ah,aq) (t1,t2,t3,t4,t5,t6,t7)) i::(bl (ai,aj,ak,an,ag,ao,ah,aq) (t1,t2,t3,t4,t5,t6,t7)).drop (i+1):=fun h=>bP (ek:=ab) h
  have hia:=nT (oA ak3 i)
  have cg:decide ((i:Int) < ((bl (ai,aj,ak,an,ag,ao,ah,aq) (t1,t2,t3,t4,t5,t6,t7)).length:Int))=true→i < (bl (ai,aj,ak,an,ag,ao,ah,aq) (t1,t2,t3,t4,t5,t6,t7)).length:=fun h=>by have:=cw h;omega
  refine ⟨fun w1=>?_,fun w2=>⟨fun w3=>⟨⟨?_,?_⟩,?_,[.s 4, .b 1004],[.s 140],rfl,[.s 25, .b 1025],[.s 141],rfl,[.s 11],[.s 142],rfl,[.s 3],[.s 143],rfl,[.s 141, .s 142, .s 143],[.s 144],rfl,[.s 8, .s 140, .b 1008],[.b 1008],rfl,[.s 9, .s 144, .b 1009],[.b 1009],rfl,[],[.s 10],rfl,?_⟩,fun w4=>⟨[.s 4, .b 1004],[.s 140],rfl,[.s 25, .b 1025],[.s 141],rfl,[.s 11],[.s 142],rfl,[.s 3],[.s 143],rfl,[.s 141, .s 142, .s 143],[.s 144],rfl,[.s 8, .s 140, .b 1008],[.b 1008],rfl,[.s 9, .s 144, .b 1009],[.b 1009],rfl,[],[.s 10],rfl,?_⟩⟩⟩
  all_goals first|refine au ?_|refine aw ?_|exact sa|(dsimp only [dx,eX];omega)|(dsimp only [fG,gX];omega)|(dsimp only [jS,kW];omega)|(dsimp only [jV,kZ];omega)|(dsimp only [cE,dD];omega)|exact sb|skip
  ·have hci:decide ((i:Int) < ((bl (ai,aj,ak,an,ag,ao,ah,aq) (t1,t2,t3,t4,t5,t6,t7)).length:Int))=true:=w1
   have aet:=cg hci
   refine cI (l:=[(27,dx),(81,fG),(82,jS),(83,jV),(50,cE)]) (ex:=fun _=>true) (wr:=fun _=>false) (pt:=fun d=>Nat.beq d 77) ⟨jM,oZ,wO,wR,gl,tv⟩ [.s 3, .s 4, .s 8, .b 1008, .s 9, .b 1009, .s 11, .s 12, .b 310000, .s 13, .b 1035, .s 14, .b 1036, .s 22, .b 1004, .b 0, .b 1, .b 2, .b 1000000001, .b 1000000002] (fun y:Nat×Bool=>[(.s 23, .s (.q y.2)),(.s 24, .int y.1)]) (fun y=>y.1≤st.length∧(y.2||gQ (st.drop y.1) (nth ab (bl (ai,aj,ak,an,ag,ao,ah,aq) (t1,t2,t3,t4,t5,t6,t7)) i))=gQ st (nth ab (bl (ai,aj,ak,an,ag,ao,ah,aq) (t1,t2,t3,t4,t5,t6,t7)) i)) (fun y=>st.length - y.1) (0,false) [] ⟨Nat.zero_le _,rfl⟩ ru ?_
   rintro ⟨k,kp⟩ ⟨(hk:k≤st.length),(hkr:(kp||gQ (st.drop k) (nth ab (bl (ai,aj,ak,an,ag,ao,ah,aq) (t1,t2,t3,t4,t5,t6,t7)) i))=gQ st (nth ab (bl (ai,aj,ak,an,ag,ao,ah,aq) (t1,t2,t3,t4,t5,t6,t7)) i))⟩
   have ab5:decide ((k:Int) < (st.length:Int))=true→k < st.length:=fun h=>by have:=cw h;omega
   have hks:k < st.length→gQ (st.drop k) (nth ab (bl (ai,aj,ak,an,ag,ao,ah,aq) (t1,t2,t3,t4,t5,t6,t7)) i)=(ptrEq (nth ab st k) (nth ab (bl (ai,aj,ak,an,ag,ao,ah,aq) (t1,t2,t3,t4,t5,t6,t7)) i)||gQ (st.drop (k+1)) (nth ab (bl (ai,aj,ak,an,ag,ao,ah,aq) (t1,t2,t3,t4,t5,t6,t7)) i)):=fun h=>by rw [bP (ek:=ab) h];rfl
   refine ⟨fun w1=>⟨[.s 23],[.s 113],rfl,[.s 113],[.s 114],rfl,tv,fun w2=>⟨[.s 114],[.s 115],rfl,[.s 114],[.s 116],rfl,[.s 114],[.s 117],rfl,[.s 114],[.s 118],rfl,[.s 114],[.s 119],rfl,[.s 114],[.s 120],rfl,[.s 114],[.s 121],rfl,[.s 114],[.s 122],rfl,[.s 114],[.s 123],rfl,[.s 114, .s 123],[.s 124],rfl,[.s 124],[.s 23],rfl,⟨?_,?_⟩,?_⟩,fun w3=>⟨[.s 114, .s 14],[.s 115],rfl,[.s 114, .s 24],[.s 116],rfl,[.s 114, .s 115, .s 116],[.s 117],rfl,⟨?_,?_⟩,[.s 114, .s 117, .b 1036],[.s 118],rfl,?_,[.s 114, .s 12],[.s 119],rfl,[.s 114, .s 22],[.s 120],rfl,[.s 114, .s 119, .s 120],[.s 121],rfl,⟨?_,?_⟩,[.s 114, .s 121, .b 310000],[.s 122],rfl,?_,[.s 114, .s 118, .s 122],[.s 123],rfl,[.s 114, .s 123],[.s 124],rfl,[.s 124],[.s 23],rfl,⟨?_,?_⟩,?_⟩⟩,fun w4=>⟨fun w5=>⟨[.s 4, .b 1004],[.s 127],rfl,[.s 12],[.s 128],rfl,[.s 22],[.s 129],rfl,[.s 128, .s 129],[.s 130],rfl,⟨?_,?_⟩,[.s 130, .b 310000],[.s 131],rfl,?_,[.s 127, .s 131, .b 0, .b 1, .b 2, .b 1000000001, .b 1000000002, .b 1001330001, .b 1001330000],[.s 132, .b 0, .b 1, .b 2, .b 1000000001, .b 1000000002, .b 1001330000, .b 1001330001],rfl,⟨⟨⟨tv,tv,tv,tv,tv,tv,tv,tv,tv⟩,⟨tv,tv,tv,tv,tv,tv⟩,tv⟩,⟨?_,?_,?_,?_,?_⟩,⟨?_,?_,?_⟩,?_,?_,?_,?_⟩,?_,fun x6 w7=>⟨[.s 4, .s 132, .b 1004],[.b 1004],rfl,⟨?_,?_⟩,?_⟩⟩,fun w8=>⟨⟨?_,?_⟩,?_⟩⟩⟩
   all_goals first|refine au ?_|refine aw ?_|exact sa|(dsimp only [dx,eX];omega)|(dsimp only [fG,gX];omega)|(dsimp only [jS,kW];omega)|(dsimp only [jV,kZ];omega)|(dsimp only [cE,dD];omega)|exact sb|exact ab5 w1|exact aet|exact cw hci|exact hu.n.1|exact hu.n.2.1|exact hu.n.2.2|exact hia.1|exact hia.2|(show u.gone.length≤1048000;omega)|(show u.dead.length≤1048000;omega)|skip
   ·refine ⟨(k+1,true),[],?_,?_,?_⟩
    rotate_right
    ·exact rq
    ·exact ⟨ab5 w1,by show (true||_)=_;rw [←hkr,show kp=true from w2];rfl⟩
    ·show st.length - (k+1) < st.length - k;have:=ab5 w1;omega
   ·refine ⟨(k+1,ptrEq (nth ab st k) (nth ab (bl (ai,aj,ak,an,ag,ao,ah,aq) (t1,t2,t3,t4,t5,t6,t7)) i)),[],?_,?_,?_⟩
    rotate_right
    ·exact rq
    ·exact ⟨ab5 w1,by show (ptrEq (nth ab st k) (nth ab (bl (ai,aj,ak,an,ag,ao,ah,aq) (t1,t2,t3,t4,t5,t6,t7)) i)||gQ (st.drop (k+1)) (nth ab (bl (ai,aj,ak,an,ag,ao,ah,aq) (t1,t2,t3,t4,t5,t6,t7)) i))=_;rw [←hkr,show kp=false from w3,hks (ab5 w1)];rfl⟩
    ·show st.length - (k+1) < st.length - k;have:=ab5 w1;omega
   ·have ak1:¬k < st.length:=by have:=ca (p:=(k:Int) < (st.length:Int)) w4;omega
    have e:gQ st (nth ab (bl (ai,aj,ak,an,ag,ao,ah,aq) (t1,t2,t3,t4,t5,t6,t7)) i)=false:=by rw [←hkr,show kp=false from xk w5,List.drop_eq_nil_of_le (by omega)];rfl
    have I2:=o6 u (nth ab (bl (ai,aj,ak,an,ag,ao,ah,aq) (t1,t2,t3,t4,t5,t6,t7)) i)
    refine ⟨(i+1,cG u (nth ab (bl (ai,aj,ak,an,ag,ao,ah,aq) (t1,t2,t3,t4,t5,t6,t7)) i)),[(1000000001,1001330000),(1000000002,1001330001)],?_,?_,?_⟩
    rotate_right
    ·exact rq
    ·exact ⟨qf hu,aet,⟨by show (cG u (nth ab (bl (ai,aj,ak,an,ag,ao,ah,aq) (t1,t2,t3,t4,t5,t6,t7)) i)).gone.length≤1047000+(i+1);omega,by show (cG u (nth ab (bl (ai,aj,ak,an,ag,ao,ah,aq) (t1,t2,t3,t4,t5,t6,t7)) i)).dead.length≤1047000+(i+1);omega⟩,by rw [←j6,cJ aet,T3 e]⟩
    ·show (bl (ai,aj,ak,an,ag,ao,ah,aq) (t1,t2,t3,t4,t5,t6,t7)).length - (i+1) < (bl (ai,aj,ak,an,ag,ao,ah,aq) (t1,t2,t3,t4,t5,t6,t7)).length - i;omega
   ·have ak1:¬k < st.length:=by have:=ca (p:=(k:Int) < (st.length:Int)) w4;omega
    have e:gQ st (nth ab (bl (ai,aj,ak,an,ag,ao,ah,aq) (t1,t2,t3,t4,t5,t6,t7)) i)=true:=by rw [←hkr,show kp=true from cB w8];rfl
    refine ⟨(i+1,u),[],?_,?_,?_⟩
    rotate_right
    ·exact rq
    ·exact ⟨hu,aet,⟨by show u.gone.length≤1047000+(i+1);omega,by show u.dead.length≤1047000+(i+1);omega⟩,by rw [←j6,cJ aet,T2 e]⟩
    ·show (bl (ai,aj,ak,an,ag,ao,ah,aq) (t1,t2,t3,t4,t5,t6,t7)).length - (i+1) < (bl (ai,aj,ak,an,ag,ao,ah,aq) (t1,t2,t3,t4,t5,t6,t7)).length - i;omega
  ·have ak5:¬i < (bl (ai,aj,ak,an,ag,ao,ah,aq) (t1,t2,t3,t4,t5,t6,t7)).length:=by have:=ca (p:=(i:Int) < ((bl (ai,aj,ak,an,ag,ao,ah,aq) (t1,t2,t3,t4,t5,t6,t7)).length:Int)) w2;omega
   have e2:dQ (bl (ai,aj,ak,an,ag,ao,ah,aq) (t1,t2,t3,t4,t5,t6,t7)) st s=u:=by rw [←j6,List.drop_eq_nil_of_le (by omega)];rfl
   have e:bK (ai,aj,ak,an,ag,ao,ah,aq) (t1,t2,t3,t4,t5,t6,t7) l many=(u,LZ (nth ab li 0) (bb many) many,true):=by
    unfold bK;rw [e1];show (dQ (bl (ai,aj,ak,an,ag,ao,ah,aq) (t1,t2,t3,t4,t5,t6,t7)) st s,LZ (rootOf li) (bb many) many,true)=_
    rw [e2,rootOf,show decide ((li.length:Int) > 0)=true from w3];rfl
   refine ⟨[1000000001,1000000002],[],_,_,_,rfl,rp,true,0,(by show true=(bK (ai,aj,ak,an,ag,ao,ah,aq) (t1,t2,t3,t4,t5,t6,t7) l many).2.2;rw [e]),?_,?_,rfl⟩
   ·(show _=mE (ai,aj,ak,an,ag,ao,ah,aq) (t1,t2,t3,t4,t5,t6,t7) l many true);unfold mE;first |(rw [e];rfl) |rfl
   ·(show _=p9 (ai,aj,ak,an,ag,ao,ah,aq) (t1,t2,t3,t4,t5,t6,t7) l many true);unfold p9;first |(rw [e];rfl) |rfl
  ·have ak5:¬i < (bl (ai,aj,ak,an,ag,ao,ah,aq) (t1,t2,t3,t4,t5,t6,t7)).length:=by have:=ca (p:=(i:Int) < ((bl (ai,aj,ak,an,ag,ao,ah,aq) (t1,t2,t3,t4,t5,t6,t7)).length:Int)) w2;omega
   have e2:dQ (bl (ai,aj,ak,an,ag,ao,ah,aq) (t1,t2,t3,t4,t5,t6,t7)) st s=u:=by rw [←j6,List.drop_eq_nil_of_le (by omega)];rfl
   have e:bK (ai,aj,ak,an,ag,ao,ah,aq) (t1,t2,t3,t4,t5,t6,t7) l many=(u,LZ bL (bb many) many,true):=by
    unfold bK;rw [e1];show (dQ (bl (ai,aj,ak,an,ag,ao,ah,aq) (t1,t2,t3,t4,t5,t6,t7)) st s,LZ (rootOf li) (bb many) many,true)=_
    rw [e2,rootOf,show decide ((li.length:Int) > 0)=false from w4];rfl
   refine ⟨[1000000001,1000000002],[],_,_,_,rfl,rp,true,0,(by show true=(bK (ai,aj,ak,an,ag,ao,ah,aq) (t1,t2,t3,t4,t5,t6,t7) l many).2.2;rw [e]),?_,?_,rfl⟩
   ·(show _=mE (ai,aj,ak,an,ag,ao,ah,aq) (t1,t2,t3,t4,t5,t6,t7) l many true);unfold mE;first |(rw [e];rfl) |rfl
   ·(show _=p9 (ai,aj,ak,an,ag,ao,ah,aq) (t1,t2,t3,t4,t5,t6,t7) l many true);unfold p9;first |(rw [e];rfl) |rfl
end GL
namespace GL
def vcP (P:Program) (N:Nat) (S:Sm) (Q':sO):Nat→Code→St→Prop
 |0,cd,τ=>TW P N cd τ Q'
 |n+1, .seq x y,τ=>vc P N S x τ (DK (fun τ'=>vcP P N S Q' n y τ') Q')
 |_+1,_,_=>False
theorem K8 {P:Program} {N:Nat} {S:Sm} {Q':sO} (hm:P.follows .mixedOrders=true) (hS:YR P N S):∀(n:Nat) (cd:Code) (τ:St),vcP P N S Q' n cd τ→TW P N cd τ Q'
 |0,cd,τ,h=>h
 |n+1, .seq x y,τ,h=>TW.seq ((gH hm hS x τ _ h).mono fun e τ' hq=>by
  cases e with
  |normal=>exact K8 hm hS n y τ' hq
  |_=>exact hq)
 |n+1, .skip,τ,h=>h.elim
 |n+1, .region _ _ _,τ,h=>h.elim
 |n+1, .cond _ _ _,τ,h=>h.elim
 |n+1, .block _ _,τ,h=>h.elim
 |n+1, .loop _,τ,h=>h.elim
 |n+1, .scope _,τ,h=>h.elim
 |n+1, .exit _,τ,h=>h.elim
 |n+1, .label _,τ,h=>h.elim
 |n+1, .ret,τ,h=>h.elim
 |n+1, .rangeFunc _ _ _ _,τ,h=>h.elim
 |n+1, .goto _,τ,h=>h.elim
 |n+1, .refuse _,τ,h=>h.elim
theorem TC.aiW {P:Program} {N:Nat} {sh:TypeId→Option (Bool×Nat)} {f:FuncId} {fn:Func} {cd:Code} {args bs:List AV} {mv:Bool} {post:AV→List AV→Prop} (hsh:∀t x,sh t=some x→Sh P t=some x)
  (hf:P.funcs[f]?=some fn) (hb:fn.body=some cd) (hN:fn.ntmps=N) (hlen:args.length≤N)
  (h:TW P N cd (entry args bs) (K5 sh fn.results.toList bs.length mv post)):TC P f mv args bs post:=by
 intro W T β0 vs hT hnf cV hbx qd
 refine calls_of_wp hf hb ?_
 have hvl:=G1 cV
 let c:Ctx:=⟨W,T,(cy 0 bs.length).map β0⟩
 have hlb:∀i,live (entry args bs) i→i < bs.length:=fun i hi=>by
  obtain ⟨av,hav⟩:=Option.ne_none_iff_exists'.1 (kB hi)
  rcases jt hav with ⟨j,e,_⟩ |⟨j,e,hj⟩
  ·cases e
  ·cases e;exact (List.getElem?_eq_some_iff.1 hj).1
 have ah2:Holds N c T β0 (entry args bs) { tmps:=vs.toArray++Array.replicate (fn.ntmps - vs.toArray.size) undef,defers:=[] } W:= {
  defs:=rfl
  size:=by simp;omega
  D8:=by show ((cy 0 bs.length).map β0).length≤1000;rw [List.length_map,kH];exact qd.D8
  iC:=fun i av hi=>by
   rcases jt hi with ⟨j,e,hj⟩ |⟨j,e,_⟩
   ·cases e
    obtain ⟨v,hv,hr⟩:=OA cV hj
    refine ⟨v,?_,hr⟩
    have CS:i < vs.length:=(List.getElem?_eq_some_iff.1 hv).1
    rw [Array.getElem?_append_left (by simpa using CS)]
    simpa using hv
   ·cases e
  boxes:=fun i av hi hz=>by
   rcases jt hi with ⟨j,e,_⟩ |⟨j,e,hj⟩
   ·cases e
   ·cases e;exact (qd.at_ i av hj).2.2.1
  apart:=fun i hi=>by
   have bM:=hlb i hi
   obtain ⟨_,h1,_⟩:=qd.at_ i _ (List.getElem?_eq_getElem bM)
   have cg:β0 i∈(cy 0 bs.length).map β0:=List.mem_map.2 ⟨i,fQ.2 ⟨by omega,by omega⟩,rfl⟩
   exact ⟨h1,fun _=>cg,fun h=>absurd qd.D8 (by omega), .inr cg⟩
  handed:=fun i b hb hi=>by
   have bM:=hlb i hi
   have hb':((cy 0 bs.length).map β0)[i]?=some b:=hb
   rw [List.getElem?_map,jF _ _ _ bM] at hb'
   simpa using hb'
  inj:=fun i j hi hj e=>qd.inj i j (hlb i hi) (hlb j hj) e
  named:=fun r av hr i hi=>by
   rcases jt hr with ⟨j,rfl,hj⟩ |⟨j,rfl,hj⟩
   ·exact xc (hbx av (List.mem_of_getElem? hj) i hi)
   ·exact xc ((qd.at_ j av hj).2.2.2 i hi)
  typed:=hT
  old:=fun b hb=>by
   show (T b).map BK.un=T b
   cases hk:T b with
   |none=>rfl
   |some k=>
    cases k with
    |fz ek n cs=>exact absurd hk (hnf.no b ek n cs)
    |_=>rfl
  frame:=fun _ _ _ _=>rfl
  gG:=Nat.le_refl _
  os:=rfl
  tape:=rfl
  output:=rfl
  qF:=hnf.qF }
 refine Code.wp_mono ?_ (h c _ W ⟨T,_,ah2⟩)
 rintro e a w ⟨τ,hr,hq⟩
 have hd:a.defers=[]:=by obtain ⟨_,_,hh⟩:=hr;exact hh.defs
 cases e with
 |normal=>
  obtain ⟨v,hv,r,os,T',β',h1⟩:=tR (args:=args) hsh hnf qd.D8 hr hq
  exact ⟨hd,v,hv,v,r,os,T',β',rfl,h1⟩
 |ret=>
  obtain ⟨v,hv,r,os,T',β',h1⟩:=tR (args:=args) hsh hnf qd.D8 hr hq
  exact ⟨hd,v,hv,v,r,os,T',β',rfl,h1⟩
 |_=>exact hq.elim
theorem Has.ofP (k : Nat) (ex wr pt : Nat → Bool) {l : List (FuncId × Con)} (hl : AllHas Tryz.prog l) {f : FuncId} {fn : Func} {cd : Code} {C : Con} (hf : Tryz.prog.funcs[f]? = some fn) (hb : fn.body = some cd) (hnm : fn.name ≠ "runtime.NumGoroutine") (hlen : C.A.length ≤ fn.ntmps)
  (h:∀x y,C.pre x y→vcP Tryz.prog fn.ntmps (sem (mkE fn.ntmps l ex wr pt)) (K5 (mkE fn.ntmps l ex wr pt).sh fn.results.toList C.B.length C.mv (fun r os=>∃z j,C.φ x y z∧r=C.r x y z∧os++List.replicate j .zz=C.o x y z∧(C.o x y z).length=C.B.length+C.nf)) k cd (entry (APs.iS C.A x) (APs.iS C.B y))):Has Tryz.prog f C:=by
 refine ⟨fun x y hp=>?_,fn,hf,by rw [hb];rfl,hnm⟩
 have hx:(APs.iS C.A x).length≤fn.ntmps:=by rw [APs.jY];exact hlen
 have hy:(APs.iS C.B y).length=C.B.length:=APs.jY C.B y
 refine TC.ac5 (TC.aiW (P:=Tryz.prog) (N:=fn.ntmps) (sh:=(mkE fn.ntmps l ex wr pt).sh) (f:=f) (fn:=fn) (cd:=cd) (args:=APs.iS C.A x) (bs:=APs.iS C.B y) (mv:=C.mv) (post:=fun r os=>∃z j,C.φ x y z∧r=C.r x y z∧os++List.replicate j .zz=C.o x y z∧(C.o x y z).length=C.B.length+C.nf) (Env.QY (tC (n:=fn.ntmps) (ex:=ex) (wr:=wr) (pt:=pt) hl)) hf hb rfl hx (by rw [hy];exact K8 mixed (xS (tC hl)) k cd _ (h x y hp))) ?_
 rintro r os ⟨z,j,h1,h2,h3,h4⟩
 exact ⟨j,z,h1,h2,h3,by rw [h3];exact h4⟩
def xd:Nat→Code→Code
 |0,cd=>cd
 |n+1, .seq _ y=>xd n y
 |_+1,cd=>cd
def J9 (fn:Func):Code:=fn.body.getD .skip
theorem zh {l:List (FuncId×Con)} {n:Nat} {ex wr pt:Nat→Bool} (hl:AllHas Tryz.prog l) {k:Nat} {τ:St} {Q':sO} {cd:Code} {ι:Type} (J:ι→AM) (φ:ι→Prop) (rest:Code)
  (ht:∀x,φ x→vc Tryz.prog n (sem (mkE n l ex wr pt)) rest (DT.ap (J x)) Q')
  (hk:(∀x,φ x→TW Tryz.prog n rest (DT.ap (J x)) Q')→vcP Tryz.prog n (sem (mkE n l ex wr pt)) Q' k cd τ):vcP Tryz.prog n (sem (mkE n l ex wr pt)) Q' k cd τ:=
 hk fun x hx=>gH mixed (xS (tC hl)) _ _ _ (ht x hx)
theorem joinTail {n:Nat} {τ:St} {Q':sO} {rest:Code} {ι:Type} {J:ι→AM} {φ:ι→Prop} (tail:∀x,φ x→TW Tryz.prog n rest (DT.ap (J x)) Q') (x:ι) (sg:List (Nat×Nat)) (h:φ x) (hs:EM sg τ τ [] (J x)):TW Tryz.prog n rest τ Q':=
 TW.agl [] (J x) sg hs (tail x h)
end GL
end Go.Proofs.YtbfgjadbfjkcdaaGreatDoor
