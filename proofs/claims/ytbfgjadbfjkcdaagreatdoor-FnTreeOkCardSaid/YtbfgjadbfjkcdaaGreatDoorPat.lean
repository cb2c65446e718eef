/- FnTreeOk returns true for every code (its row lists package variables, tied by the card): part 20 of 39. -/
import Derived.Test.YtbfgjadbfjkcdaaGreatDoorPan
import Derived.Test.YtbfgjadbfjkcdaaGreatDoorPap
import Derived.Test.YtbfgjadbfjkcdaaGreatDoorPar
set_option maxHeartbeats 20000000
set_option linter.all false
namespace Go.Proofs.YtbfgjadbfjkcdaaGreatDoor
namespace GL
def j1:List Pt→ax→ax
 |[],s=>s
 |p::l,s=>j1 l (fU s p.1.toNat)
def ai1 (u:ax):ax:=(u.rows,u.refs,u.last,u.bY+1,[],u.bT,u.dead,u.same)
def gY (s:ax):ax:=ai1 (j1 s.gone s)
structure ax.gk (s:ax):Prop where
 n:s.n64
 len:s.gone.length≤1000000
 ok:∀p∈s.gone,0≤p.1∧p.1 < 64
 bY: -1000000≤s.bY∧s.bY≤1000000
def jd (S:ax):Prop:=S.gk
def xY (S:ax):AV:=.a (lA 0 1 2 5 4 (gY S))
def B3 (S:ax):List AV:=[.rs aa (gY S).rows, .rs ae (gY S).refs, .rs ae (gY S).last, .rs ab S.gone, .rs ab (gY S).dead, .rs ab []]
def gT:Con where
 A:=[.a (stB 0 1 2 3 4)]
 B:=[.r aa, .r ae, .r ae, .r ab, .r ab]
 pre:=fun x b=>whole x.1 x.2.1 x.2.2.1 x.2.2.2.2.1 x.2.2.2.2.2.2.1 (b.1) (b.2.1) (b.2.2.1) (b.2.2.2.1) (b.2.2.2.2)∧jd ((b.1,b.2.1,b.2.2.1,x.2.2.2.1,b.2.2.2.1,x.2.2.2.2.2.1,b.2.2.2.2,x.2.2.2.2.2.2.2))
 α:=fun _ _=>Unit
 φ:=fun _ _ _=>True
 r:=fun x b _=>xY ((b.1,b.2.1,b.2.2.1,x.2.2.2.1,b.2.2.2.1,x.2.2.2.2.2.1,b.2.2.2.2,x.2.2.2.2.2.2.2))
 o:=fun x b _=>B3 ((b.1,b.2.1,b.2.2.1,x.2.2.2.1,b.2.2.2.1,x.2.2.2.2.2.1,b.2.2.2.2,x.2.2.2.2.2.2.2))
 nf:=1
set_option maxRecDepth 100000 in
theorem ss:Has Tryz.prog 20 gT:=by
 refine Has.ofE (fun _=>true) (fun _=>false) (fun _=>false) (l:=[(51,ql)]) ⟨IF,trivial⟩ (fn:=Tryz.f20) Tryz.func20 rfl (by decide) (cH rfl) ?_
 rintro ⟨(AS:Nat),(AR:Nat),(AQ:Nat),(an:Int),(AO:Nat),(ao:Int),(AN:Nat),(aq:Bool)⟩ ⟨(ai:List ByteArray),(aj:List Int),(ak:List Int),(ag:List Pt),(ah:List Pt)⟩ ⟨⟨(gr:AS=List.length ai),(gq:AR=List.length aj),(gp:AQ=List.length ak),(gn:AO=List.length ag),(gm:AN=List.length ah)⟩,(hp:jd (ai,aj,ak,an,ag,ao,ah,aq))⟩
 subst gr gq gp gn gm
 show vc _ _ _ _ (entry [.a [.xs 0 1 0 ai.length, .xs 1 1 0 aj.length, .xs 2 1 0 ak.length, .int an, .xs 3 5 0 ag.length, .int ao, .xs 4 5 0 ah.length, .q aq]] [.rs aa ai, .rs ae aj, .rs ae ak, .rs ab ag, .rs ab ah]) _
 have hgk:ax.gk (ai,aj,ak,an,ag,ao,ah,aq):=hp
 have hgl:ag.length≤1000000:=hgk.len
 have hn:ai.length=64∧aj.length=64∧ak.length=64:=hgk.n
 refine ?_
 all_goals first|refine au ?_|refine aw ?_|exact sa|(dsimp only [ql,pM];omega)|exact sb|skip
 refine cI (l:=[(51,ql)]) (ex:=fun _=>true) (wr:=fun _=>false) (pt:=fun _=>false) ⟨IF,tv⟩ [.s 1, .s 2, .b 1002, .b 3, .b 4] (fun y:Nat×List ByteArray×List Int×List Int=>[(.s 3, .int y.1),(.b 1001, .a (lA 0 1 2 3 4 (y.2.1,y.2.2.1,y.2.2.2,an,ag,ao,ah,aq))),(.b 0, .rs aa y.2.1),(.b 1, .rs ae y.2.2.1),(.b 2, .rs ae y.2.2.2)]) (fun y=>y.1≤ag.length∧(y.2.1.length=64∧y.2.2.1.length=64∧y.2.2.2.length=64)∧j1 (ag.drop y.1) (y.2.1,y.2.2.1,y.2.2.2,an,ag,ao,ah,aq)=j1 ag (ai,aj,ak,an,ag,ao,ah,aq)) (fun y=>ag.length - y.1) (0,ai,aj,ak) [] ⟨Nat.zero_le _,hn,rfl⟩ ru ?_
 rintro ⟨i,ro,rf,la⟩ ⟨(hi:i≤ag.length),⟨(h1:ro.length=64),(h2:rf.length=64),(h3:la.length=64)⟩,(hr:j1 (ag.drop i) (ro,rf,la,an,ag,ao,ah,aq)=j1 ag (ai,aj,ak,an,ag,ao,ah,aq))⟩
 have bM:decide ((i:Int) < (ag.length:Int))=true→i < ag.length:=fun h=>by have:=cw h;omega
 have xE:i < ag.length→0≤(nth ab ag i).1∧(nth ab ag i).1 < 64:=fun h=>hgk.ok _ (bS (ek:=ab) h)
 have htx:=hgk.bY
 have akI: -1000000≤an:=htx.1
 have al2:an≤1000000:=htx.2
 refine ⟨fun w1=>⟨[.s 1, .b 1001],[.s 11],rfl,[.s 1],[.s 12],rfl,[.s 12, .b 1001],[.s 13],rfl,[.s 3],[.s 14],rfl,[.s 13, .s 14],[.s 15],rfl,⟨?_,?_⟩,[.s 15],[.s 16],rfl,[.s 16, .b 3],[.s 17],rfl,?_,[.s 11, .s 17, .b 0, .b 1, .b 2, .b 3, .b 4],[.s 18, .b 0, .b 1, .b 2, .b 3, .b 4],rfl,⟨⟨⟨tv,tv,tv,tv,tv,tv,tv,tv,tv⟩,tv,tv⟩,⟨?_,?_,?_,?_,?_⟩,⟨?_,?_,?_⟩,?_,?_⟩,?_,fun x2 w3=>⟨[.s 1, .s 18, .b 1001],[.b 1001],rfl,⟨?_,?_⟩,?_⟩⟩,fun w4=>⟨tv,⟨?_,?_⟩,?_⟩⟩
 all_goals first|refine au ?_|refine aw ?_|exact sa|(dsimp only [ql,pM];omega)|exact sb|(simp only [gD,imax];omega)|exact bM w1|skip
 ·exact (xE (bM w1)).1
 ·exact (xE (bM w1)).2
 ·have mo:=bM w1
  have hdl:=xe (ro,rf,la,an,ag,ao,ah,aq) (nth ab ag i).1.toNat
  refine ⟨(i+1,(fU (ro,rf,la,an,ag,ao,ah,aq) (nth ab ag i).1.toNat).1,(fU (ro,rf,la,an,ag,ao,ah,aq) (nth ab ag i).1.toNat).2.1,(fU (ro,rf,la,an,ag,ao,ah,aq) (nth ab ag i).1.toNat).2.2.1),[],?_,?_,?_⟩
  rotate_right
  ·exact rq
  ·refine ⟨mo,⟨hdl.1.trans h1,hdl.2.1.trans h2,hdl.2.2.trans h3⟩,?_⟩
   rw [←hr,bP (ek:=ab) mo];rfl
  ·show ag.length - (i+1) < ag.length - i;omega
 ·show gD≤an+1;simp only [gD];omega
 ·show an+1≤imax;simp only [imax];omega
 ·have FJ:¬i < ag.length:=by have:=ca (p:=(i:Int) < (ag.length:Int)) w4;omega
  have e:gY (ai,aj,ak,an,ag,ao,ah,aq)=(ro,rf,la,an+1,[],ao,ah,aq):=by
   unfold gY
   rw [show j1 (ax.gone (ai,aj,ak,an,ag,ao,ah,aq)) (ai,aj,ak,an,ag,ao,ah,aq)=(ro,rf,la,an,ag,ao,ah,aq) by
    rw [List.drop_eq_nil_of_le (by omega)] at hr;exact hr.symm]
   rfl
  refine ⟨[1019],[],_,_,_,rfl,rp,(),tv,?_,?_,rfl⟩
  ·(show _=xY (ai,aj,ak,an,ag,ao,ah,aq));unfold xY;first |(rw [e];rfl) |rfl
  ·(show _=B3 (ai,aj,ak,an,ag,ao,ah,aq));unfold B3;first |(rw [e];rfl) |rfl
def jZ:Nat→ax→List Pt→List Pt→Option (List Pt)
 |0,_,_,_=>none
 |_+1,_,[],out=>some out
 |f+1,s,p::l,out=>bif ar p then jZ f s l out else bif decide (p.2.2.2.2 > 0) then jZ f s ((a8 s p p.2.2.2.2).1++l) (out++[p]) else jZ f s l (out++[p])
def allM (s:ax) (t:aZ):List Pt:=(jZ 40 s [t.root] []).getD []
def ND (s:ax) (t:aZ):Bool:=(jZ 40 s [t.root] []).isSome
def wF (S:ax) (t:aZ):Prop:=S.rd∧ND S t=true
def A9 (S:ax) (t:aZ):AV:=.s (.xs 0 5 0 (allM S t).length)
def HH (S:ax) (t:aZ):List AV:=[.rs ab (allM S t)]
def AA:Con where
 A:=[.a xw, .a [.int, .int, .int, .int, .int, .int, .int]]
 B:=[]
 pre:=fun x b=>wF (x.1) (x.2)
 α:=fun _ _=>Unit
 φ:=fun _ _ _=>True
 r:=fun x b _=>A9 (x.1) (x.2)
 o:=fun x b _=>HH (x.1) (x.2)
 nf:=1
set_option maxRecDepth 100000 in
theorem Z3:Has Tryz.prog 134 AA:=by
 refine Has.ofE (fun _=>true) (fun _=>false) (fun d=>Nat.beq d 23) (l:=[(26,bc),(56,dU)]) ⟨cr,lk,trivial⟩ (fn:=Tryz.f134) Tryz.func134 rfl (by decide) (cH rfl) ?_
 rintro ⟨⟨(ai:List ByteArray),(aj:List Int),(ak:List Int),(an:Int),(ag:List Pt),(ao:Int),(ah:List Pt),(aq:Bool)⟩,⟨(t1:Int),(t2:Int),(t3:Int),(t4:Int),(t5:Int),(t6:Int),(t7:Int)⟩⟩ _ (hp:wF (ai,aj,ak,an,ag,ao,ah,aq) (t1,t2,t3,t4,t5,t6,t7))
 show vc _ _ _ _ (entry [.a [.vz aa ai, .vz ae aj, .vz ae ak, .int an, .vz ab ag, .int ao, .vz ab ah, .q aq], .a [.int t1, .int t2, .int t3, .int t4, .int t5, .int t6, .int t7]] []) _
 obtain ⟨dA,hen⟩:=hp
 have dA:ax.rd (ai,aj,ak,an,ag,ao,ah,aq):=dA
 obtain ⟨al,hal⟩:=Option.isSome_iff_exists.1 hen
 have hal:jZ 40 (ai,aj,ak,an,ag,ao,ah,aq) [aZ.root (t1,t2,t3,t4,t5,t6,t7)] []=some al:=hal
 have hM:allM (ai,aj,ak,an,ag,ao,ah,aq) (t1,t2,t3,t4,t5,t6,t7)=al:=by unfold allM;rw [hal];rfl
 refine ⟨tv,tv,?_⟩
 all_goals first|refine au ?_|refine aw ?_|exact sa|(dsimp only [bc,bW];omega)|(dsimp only [dU,fx];omega)|exact sb|exact dA|skip
 refine cI (l:=[(26,bc),(56,dU)]) (ex:=fun _=>true) (wr:=fun _=>false) (pt:=fun d=>Nat.beq d 23) ⟨cr,lk,trivial⟩ [.s 2, .s 3, .s 4, .b 1002, .b 1003] (fun y:Nat×List Pt×List Pt=>[(.s 5, .s (.xs 1010 5 0 y.2.2.length)),(.s 6, .s (.xs 1013 5 0 y.2.1.length)),(.b 1010, .rs ab y.2.2),(.b 1013, .rs ab y.2.1)]) (fun y=>y.1≤40∧y.2.1.length+4 * y.1≤161∧y.2.2.length+y.1≤40∧jZ y.1 (ai,aj,ak,an,ag,ao,ah,aq) y.2.1 y.2.2=some al) (fun y=>y.1) (40,[aZ.root (t1,t2,t3,t4,t5,t6,t7)],[]) [] ⟨Nat.le_refl _,by show 1+4 * 40≤161;omega,by show 0+40≤40;omega,hal⟩ ru ?_
 rintro ⟨f,td,out⟩ ⟨(hf:f≤40),(htd:td.length+4 * f≤161),(ob:out.length+f≤40),(hr:jZ f (ai,aj,ak,an,ag,ao,ah,aq) td out=some al)⟩
 have bM:decide ((td.length:Int) > 0)=true→0 < td.length:=fun h=>by have:=cw h;omega
 have hbl:=(iz (ai,aj,ak,an,ag,ao,ah,aq) (nth ab td 0) (nth ab td 0).2.2.2.2).1
 have Z8:decide ((td.length:Int) > 0)=true→∃l,td=nth ab td 0::l:=fun h=>by
  have:=bM h
  cases td with
  |nil=>simp at this
  |cons p l=>exact ⟨l,rfl⟩
 have af9:∃g,f=g+1:=by
  cases f with
  |zero=>cases hr
  |succ g=>exact ⟨g,rfl⟩
 refine ⟨fun w1=>⟨⟨?_,?_⟩,?_,tv,⟨?_,?_,?_⟩,⟨⟨?_,?_⟩,?_⟩,⟨⟨⟨tv,tv,tv,tv,tv,tv⟩,tv⟩,tv⟩,fun x2 w3=>⟨fun w4=>?_,fun w5=>⟨tv,⟨⟨?_,?_⟩,?_,?_⟩,fun w6=>⟨⟨⟨⟨tv,tv,tv,tv,tv,tv,tv,tv,tv⟩,⟨tv,tv,tv,tv,tv,tv⟩,tv,tv⟩,?_⟩,fun x7 w8=>⟨tv,⟨⟨?_,?_⟩,?_,?_⟩,⟨⟨?_,?_⟩,?_,?_⟩,?_⟩⟩,fun w9=>?_⟩⟩⟩,fun df=>?_⟩
 all_goals first|refine au ?_|refine aw ?_|exact sa|(dsimp only [bc,bW];omega)|(dsimp only [dU,fx];omega)|exact sb|exact bM w1|exact dA|(show 0+(td.drop 1).length≤1048576;rw [List.length_drop];omega)|(show 0+((td.drop 1).take (td.length - 1)).length≤1048576;rw [List.length_take,List.length_drop];omega)|skip
 ·
  obtain ⟨l,rM⟩:=Z8 w1
  have eT:(([]:List Pt)++(td.drop 1).take (td.length - 1))=l:=by rw [rM];simp
  obtain ⟨g,rfl⟩:∃g,f=g+1:=af9
  have hll:l.length+1=td.length:=by rw [rM];rfl
  have hh:ar (nth ab td 0)=true:=w4
  rw [rM,jZ,hh] at hr
  refine ⟨(g,(([]:List Pt)++(td.drop 1).take (td.length - 1)),out),[(1013,1023)],?_,?_,?_⟩
  rotate_right
  ·exact rq
  ·exact ⟨by show g≤40;omega,by show ((([]:List Pt)++(td.drop 1).take (td.length - 1))).length+4 * g≤161;rw [eT];omega,by show out.length+g≤40;omega,by show jZ g (ai,aj,ak,an,ag,ao,ah,aq) (([]:List Pt)++(td.drop 1).take (td.length - 1)) out=some al;rw [eT];exact hr⟩
  ·exact Nat.lt_succ_self g
 ·show ([]:List Pt).length+(a8 (ai,aj,ak,an,ag,ao,ah,aq) (nth ab td 0) (nth ab td 0).2.2.2.2).1.length≤1048576;have:=hbl;show 0+_≤_;omega
 ·obtain ⟨l,rM⟩:=Z8 w1
  have eT:(([]:List Pt)++(td.drop 1).take (td.length - 1))=l:=by rw [rM];simp
  have hll:l.length+1=td.length:=by rw [rM];rfl
  show (([]:List Pt)++(a8 (ai,aj,ak,an,ag,ao,ah,aq) (nth ab td 0) (nth ab td 0).2.2.2.2).1).length+(([]:List Pt)++(td.drop 1).take (td.length - 1)).length≤1048576
  rw [eT,List.nil_append];omega
 ·
  obtain ⟨l,rM⟩:=Z8 w1
  have eT:(([]:List Pt)++(td.drop 1).take (td.length - 1))=l:=by rw [rM];simp
  obtain ⟨g,rfl⟩:∃g,f=g+1:=af9
  have hll:l.length+1=td.length:=by rw [rM];rfl
  have hh:ar (nth ab td 0)=false:=w5
  rw [rM,jZ,hh,show decide ((nth ab td 0).2.2.2.2 > 0)=true from w6] at hr
  refine ⟨(g,(([]:List Pt)++(a8 (ai,aj,ak,an,ag,ao,ah,aq) (nth ab td 0) (nth ab td 0).2.2.2.2).1)++(([]:List Pt)++(td.drop 1).take (td.length - 1)),out++[(nth ab td 0)]),[(1013,1045),(1010,1029)],?_,?_,?_⟩
  rotate_right
  ·exact rq
  ·refine ⟨by show g≤40;omega,?_,?_,?_⟩
   ·show ((([]:List Pt)++(a8 (ai,aj,ak,an,ag,ao,ah,aq) (nth ab td 0) (nth ab td 0).2.2.2.2).1)++(([]:List Pt)++(td.drop 1).take (td.length - 1))).length+4 * g≤161;rw [eT,List.nil_append,List.length_append];omega
   ·show (out++[(nth ab td 0)]).length+g≤40;rw [List.length_append];show out.length+1+g≤40;omega
   ·show jZ g (ai,aj,ak,an,ag,ao,ah,aq) ((([]:List Pt)++(a8 (ai,aj,ak,an,ag,ao,ah,aq) (nth ab td 0) (nth ab td 0).2.2.2.2).1)++(([]:List Pt)++(td.drop 1).take (td.length - 1))) (out++[(nth ab td 0)])=some al;rw [eT,List.nil_append];exact hr
  ·exact Nat.lt_succ_self g
 ·
  obtain ⟨l,rM⟩:=Z8 w1
  have eT:(([]:List Pt)++(td.drop 1).take (td.length - 1))=l:=by rw [rM];simp
  obtain ⟨g,rfl⟩:∃g,f=g+1:=af9
  have hll:l.length+1=td.length:=by rw [rM];rfl
  have hh:ar (nth ab td 0)=false:=w5
  rw [rM,jZ,hh,show decide ((nth ab td 0).2.2.2.2 > 0)=false from w9] at hr
  refine ⟨(g,(([]:List Pt)++(td.drop 1).take (td.length - 1)),out++[(nth ab td 0)]),[(1013,1023),(1010,1029)],?_,?_,?_⟩
  rotate_right
  ·exact rq
  ·refine ⟨by show g≤40;omega,?_,?_,?_⟩
   ·show ((([]:List Pt)++(td.drop 1).take (td.length - 1))).length+4 * g≤161;rw [eT];omega
   ·show (out++[(nth ab td 0)]).length+g≤40;rw [List.length_append];show out.length+1+g≤40;omega
   ·show jZ g (ai,aj,ak,an,ag,ao,ah,aq) (([]:List Pt)++(td.drop 1).take (td.length - 1)) (out++[(nth ab td 0)])=some al;rw [eT];exact hr
  ·exact Nat.lt_succ_self g
 ·have h0:td=[]:=by cases td with
   |nil=>rfl
   |cons p l=>exact absurd (ca df) (by simp)
  obtain ⟨g,rfl⟩:∃g,f=g+1:=af9
  rw [h0,jZ] at hr
  have e:allM (ai,aj,ak,an,ag,ao,ah,aq) (t1,t2,t3,t4,t5,t6,t7)=out:=by rw [hM];exact (Option.some.inj hr).symm
  refine ⟨[1010],[],_,_,_,rfl,rp,(),tv,?_,?_,rfl⟩
  ·(show _=A9 (ai,aj,ak,an,ag,ao,ah,aq) (t1,t2,t3,t4,t5,t6,t7));unfold A9;first |(rw [e];rfl) |rfl
  ·(show _=HH (ai,aj,ak,an,ag,ao,ah,aq) (t1,t2,t3,t4,t5,t6,t7));unfold HH;first |(rw [e];rfl) |rfl
end GL
namespace GL
theorem fg {s:ax} {t:aZ} (h:t.ok):(bg s t).length=t.many.toNat:=by
 unfold bg sT
 rw [List.length_map,List.length_take,fW h.rd]
 have:=h.m0;have:=h.m1;omega
theorem xP {s:ax} {t:aZ} (h:t.ok) {k:Nat} (hk:k < t.many.toNat):nth aa (bg s t) k=getM s t k:=by
 have h1:=h.m1
 have hl:=fW (s:=s) h.rd
 unfold bg sT getM nth
 rw [List.getElem?_map,List.getElem?_take_of_lt hk,List.getElem?_eq_getElem (by omega)]
 rfl
theorem wx {s:ax} {t:aZ} (h:s.rd):∀x∈bg s t,x.size≤1000000:=by
 intro x hx
 unfold bg sT at hx
 obtain ⟨p,_,rfl⟩:=List.mem_map.1 hx
 exact zu h
theorem W1 {l:List ByteArray} (h:∀x∈l,x.size≤1000000) (k:Nat):(nth aa l k).size≤1000000:=by
 by_cases hk:k < l.length
 ·exact h _ (bS (ek:=aa) hk)
 ·unfold nth;rw [List.getElem?_eq_none (by omega)];exact Nat.zero_le _
def cF (s:ax) (t:aZ) (k:Int):fl×Bool:=bif !(ir k 0 (t.many - 1)) then (nz,false) else bm (getM s t k.toNat)
theorem aeF {s:ax} {t:aZ} {k:Int} (h:(!(ir k 0 (t.many - 1)))=true):cF s t k=(nz,false):=by unfold cF;rw [h];rfl
theorem aeE {s:ax} {t:aZ} {k:Int} (h:(!(ir k 0 (t.many - 1)))=false):cF s t k=bm (getM s t k.toNat):=by unfold cF;rw [h];rfl
def kI (S:ax) (t:aZ) (k:Int):Prop:=S.rd∧aZ.ok t
def pB (S:ax) (t:aZ) (k:Int):AV:=.t [ndA (cF S t k).1, .s (.q (cF S t k).2)]
def abr (S:ax) (t:aZ) (k:Int):List AV:=[]
def jx:Con where
 A:=[.a xw, .a [.int, .int, .int, .int, .int, .int, .int], .s .int]
 B:=[]
 pre:=fun x b=>kI (x.1) (x.2.1) (x.2.2)
 α:=fun _ _=>Unit
 φ:=fun _ _ _=>True
 r:=fun x b _=>pB (x.1) (x.2.1) (x.2.2)
 o:=fun x b _=>abr (x.1) (x.2.1) (x.2.2)
 nf:=0
set_option maxRecDepth 100000 in
theorem vA:Has Tryz.prog 132 jx:=by
 refine Has.ofE (fun _=>true) (fun _=>false) (fun _=>false) (l:=[(24,dy),(154,P2),(46,ng)]) ⟨im,af6,CN,trivial⟩ (fn:=Tryz.f132) Tryz.func132 rfl (by decide) (cH rfl) ?_
 rintro ⟨⟨(ai:List ByteArray),(aj:List Int),(ak:List Int),(an:Int),(ag:List Pt),(ao:Int),(ah:List Pt),(aq:Bool)⟩,⟨(t1:Int),(t2:Int),(t3:Int),(t4:Int),(t5:Int),(t6:Int),(t7:Int)⟩,(k:Int)⟩ _ (hp:kI (ai,aj,ak,an,ag,ao,ah,aq) (t1,t2,t3,t4,t5,t6,t7) k)
 show vc _ _ _ _ (entry [.a [.vz aa ai, .vz ae aj, .vz ae ak, .int an, .vz ab ag, .int ao, .vz ab ah, .q aq], .a [.int t1, .int t2, .int t3, .int t4, .int t5, .int t6, .int t7], .int k] []) _
 obtain ⟨dA,cq⟩:=hp
 have dA:ax.rd (ai,aj,ak,an,ag,ao,ah,aq):=dA
 have cq:aZ.ok (t1,t2,t3,t4,t5,t6,t7):=cq
 have h0:0≤t7:=cq.m0
 have h1:t7≤16:=cq.m1
 have cg:(!(ir k 0 (t7 - 1)))=false→0≤k∧k < 16:=fun h=>by have:=cn.1 (oD h);omega
 have db:(getM (ai,aj,ak,an,ag,ao,ah,aq) (t1,t2,t3,t4,t5,t6,t7) k.toNat).size≤1000000:=zu dA
 refine ⟨⟨?_,?_⟩,⟨⟨tv,tv,tv,tv⟩,tv⟩,fun x1 w2=>⟨fun w3=>?_,fun w4=>⟨⟨⟨⟨tv,tv,tv,tv,tv,tv,tv,tv,tv⟩,⟨tv,tv,tv,tv,tv,tv,tv,tv⟩,tv,tv⟩,?_,?_,?_,?_⟩,fun x5 w6=>⟨⟨⟨tv,tv⟩,?_⟩,fun x7 w8=>?_⟩⟩⟩⟩
 all_goals first|refine au ?_|refine aw ?_|exact sa|(dsimp only [dy,gO];omega)|(dsimp only [P2,BY];omega)|(dsimp only [ng,ld];omega)|exact sb|exact dA|exact cq.rd|exact db|exact (cg w4).1|exact (cg w4).2|skip
 ·refine ⟨[],[],_,_,_,rfl,rp,(),tv,?_,?_,rfl⟩
  ·(show _=pB (ai,aj,ak,an,ag,ao,ah,aq) (t1,t2,t3,t4,t5,t6,t7) k);unfold pB;first |(rw [aeF (s:=(ai,aj,ak,an,ag,ao,ah,aq)) (t:=(t1,t2,t3,t4,t5,t6,t7)) w3];rfl) |rfl
  ·rfl
 ·refine ⟨[],[],_,_,_,rfl,rp,(),tv,?_,?_,rfl⟩
  ·(show _=pB (ai,aj,ak,an,ag,ao,ah,aq) (t1,t2,t3,t4,t5,t6,t7) k);unfold pB;first |(rw [aeE (s:=(ai,aj,ak,an,ag,ao,ah,aq)) (t:=(t1,t2,t3,t4,t5,t6,t7)) w4];rfl) |rfl
  ·rfl
def iQ (mh:Int):List ByteArray→Nat→Int→Int
 |[],_,n=>n
 |x::l,k,n=>iQ mh l (k+1) (bif decide ((k:Int)≠mh)&&decide (x≠⟨#[]⟩) then (k:Int)+1 else n)
theorem af2 {mh:Int} {x:ByteArray} {l:List ByteArray} {k:Nat} {n:Int} (h:decide ((k:Int)≠mh)=true) (h2:decide (x≠⟨#[]⟩)=true):iQ mh (x::l) k n=iQ mh l (k+1) ((k:Int)+1):=by rw [iQ,h,h2];rfl
theorem adV {mh:Int} {x:ByteArray} {l:List ByteArray} {k:Nat} {n:Int} (h:decide ((k:Int)≠mh)=true) (h2:decide (x≠⟨#[]⟩)=false):iQ mh (x::l) k n=iQ mh l (k+1) n:=by rw [iQ,h,h2];rfl
theorem adU {mh:Int} {x:ByteArray} {l:List ByteArray} {k:Nat} {n:Int} (h:decide ((k:Int)≠mh)=false):iQ mh (x::l) k n=iQ mh l (k+1) n:=by rw [iQ,h];rfl
def mw (s:ax) (t:aZ) (mh:Int):Int:=iQ mh (bg s t) 0 0
def qR (S:ax) (t:aZ) (mh:Int):Prop:=S.rd∧aZ.ok t
def u4 (S:ax) (t:aZ) (mh:Int):AV:=.s (.int (mw S t mh))
def WH (S:ax) (t:aZ) (mh:Int):List AV:=[]
def sH:Con where
 A:=[.a xw, .a [.int, .int, .int, .int, .int, .int, .int], .s .int]
 B:=[]
 pre:=fun x b=>qR (x.1) (x.2.1) (x.2.2)
 α:=fun _ _=>Unit
 φ:=fun _ _ _=>True
 r:=fun x b _=>u4 (x.1) (x.2.1) (x.2.2)
 o:=fun x b _=>WH (x.1) (x.2.1) (x.2.2)
 nf:=0
set_option maxRecDepth 100000 in
theorem MF:Has Tryz.prog 133 sH:=by
 refine Has.ofE (fun _=>true) (fun _=>false) (fun _=>false) (l:=[(45,c6)]) ⟨iK,trivial⟩ (fn:=Tryz.f133) Tryz.func133 rfl (by decide) (cH rfl) ?_
 rintro ⟨⟨(ai:List ByteArray),(aj:List Int),(ak:List Int),(an:Int),(ag:List Pt),(ao:Int),(ah:List Pt),(aq:Bool)⟩,⟨(t1:Int),(t2:Int),(t3:Int),(t4:Int),(t5:Int),(t6:Int),(t7:Int)⟩,(mh:Int)⟩ _ (hp:qR (ai,aj,ak,an,ag,ao,ah,aq) (t1,t2,t3,t4,t5,t6,t7) mh)
 show vc _ _ _ _ (entry [.a [.vz aa ai, .vz ae aj, .vz ae ak, .int an, .vz ab ag, .int ao, .vz ab ah, .q aq], .a [.int t1, .int t2, .int t3, .int t4, .int t5, .int t6, .int t7], .int mh] []) _
 obtain ⟨dA,cq⟩:=hp
 have dA:ax.rd (ai,aj,ak,an,ag,ao,ah,aq):=dA
 have cq:aZ.ok (t1,t2,t3,t4,t5,t6,t7):=cq
 have h0:0≤t7:=cq.m0
 have h1:t7≤16:=cq.m1
 have hl:(bg (ai,aj,ak,an,ag,ao,ah,aq) (t1,t2,t3,t4,t5,t6,t7)).length=t7.toNat:=fg cq
 refine ⟨⟨⟨⟨tv,tv,tv,tv,tv,tv,tv,tv,tv⟩,⟨tv,tv,tv,tv,tv,tv,tv,tv⟩,tv⟩,?_,?_,?_,?_⟩,fun x1 w2=>?_⟩
 all_goals first|refine au ?_|refine aw ?_|exact sa|(dsimp only [c6,eA];omega)|exact sb|exact dA|exact cq.rd|skip
 refine cI (l:=[(45,c6)]) (ex:=fun _=>true) (wr:=fun _=>false) (pt:=fun _=>false) ⟨iK,tv⟩ [.s 2, .s 3, .s 4, .b 1003, .b 1004, .s 8, .b 130000] (fun y:Nat×Int=>[(.s 7, .int y.2),(.s 9, .int y.1)]) (fun y=>(y.1:Int)≤t7∧iQ mh ((bg (ai,aj,ak,an,ag,ao,ah,aq) (t1,t2,t3,t4,t5,t6,t7)).drop y.1) y.1 y.2=mw (ai,aj,ak,an,ag,ao,ah,aq) (t1,t2,t3,t4,t5,t6,t7) mh) (fun y=>t7.toNat - y.1) (0,0) [] ⟨h0,rfl⟩ ru ?_
 rintro ⟨i,n⟩ ⟨(hi:(i:Int)≤t7),(hr:iQ mh ((bg (ai,aj,ak,an,ag,ao,ah,aq) (t1,t2,t3,t4,t5,t6,t7)).drop i) i n=mw (ai,aj,ak,an,ag,ao,ah,aq) (t1,t2,t3,t4,t5,t6,t7) mh)⟩
 have bM:decide ((i:Int) < t7)=true→i < (bg (ai,aj,ak,an,ag,ao,ah,aq) (t1,t2,t3,t4,t5,t6,t7)).length:=fun h=>by have:=cw h;omega
 refine ⟨fun w1=>⟨tv,fun w2=>⟨⟨?_,?_⟩,?_,fun w3=>⟨⟨?_,?_⟩,⟨?_,?_⟩,?_⟩,fun w4=>⟨⟨?_,?_⟩,?_⟩⟩,fun w5=>⟨⟨?_,?_⟩,?_⟩⟩,fun w6=>?_⟩
 all_goals first|refine au ?_|refine aw ?_|exact sa|(dsimp only [c6,eA];omega)|exact sb|exact bM w1|skip
 ·have mo:=bM w1
  have aem:=cw (p:=(i:Int) < t7) w1
  refine ⟨(i+1,(i:Int)+1),[],?_,?_,?_⟩
  rotate_right
  ·exact rq
  ·exact ⟨by show ((i+1:Nat):Int)≤t7;omega,by rw [←hr,bP (ek:=aa) mo,af2 w2 (show decide (nth aa (bg (ai,aj,ak,an,ag,ao,ah,aq) (t1,t2,t3,t4,t5,t6,t7)) i≠⟨#[]⟩)=true from w3)]⟩
  ·show t7.toNat - (i+1) < t7.toNat - i;omega
 ·have mo:=bM w1
  have aem:=cw (p:=(i:Int) < t7) w1
  refine ⟨(i+1,n),[],?_,?_,?_⟩
  rotate_right
  ·exact rq
  ·exact ⟨by show ((i+1:Nat):Int)≤t7;omega,by rw [←hr,bP (ek:=aa) mo,adV w2 (show decide (nth aa (bg (ai,aj,ak,an,ag,ao,ah,aq) (t1,t2,t3,t4,t5,t6,t7)) i≠⟨#[]⟩)=false from w4)]⟩
  ·show t7.toNat - (i+1) < t7.toNat - i;omega
 ·have mo:=bM w1
  have aem:=cw (p:=(i:Int) < t7) w1
  refine ⟨(i+1,n),[],?_,?_,?_⟩
  rotate_right
  ·exact rq
  ·exact ⟨by show ((i+1:Nat):Int)≤t7;omega,by rw [←hr,bP (ek:=aa) mo,adU w5]⟩
  ·show t7.toNat - (i+1) < t7.toNat - i;omega
 ·have e:mw (ai,aj,ak,an,ag,ao,ah,aq) (t1,t2,t3,t4,t5,t6,t7) mh=n:=by rw [←hr,List.drop_eq_nil_of_le (by have:=ca (p:=(i:Int) < t7) w6;omega)];rfl
  refine ⟨[],[],_,_,_,rfl,rp,(),tv,?_,?_,rfl⟩
  ·(show _=u4 (ai,aj,ak,an,ag,ao,ah,aq) (t1,t2,t3,t4,t5,t6,t7) mh);unfold u4;first |(rw [e];rfl) |rfl
  ·rfl
def frF:Nat→List ByteArray→Nat→Int
 |0,_,_=> -1
 |f+1,l,k=>bif decide ((k:Int)≥(l.length:Int))||decide (nth aa l k=⟨#[]⟩) then (k:Int) else frF f l (k+1)
theorem ag8 {f:Nat} {l:List ByteArray} {k:Nat} (h:decide ((k:Int)≥(l.length:Int))=true):frF (f+1) l k=(k:Int):=by rw [frF,h];rfl
theorem ag7 {f:Nat} {l:List ByteArray} {k:Nat} (h:decide (nth aa l k=⟨#[]⟩)=true):frF (f+1) l k=(k:Int):=by rw [frF,h,Bool.or_true];rfl
theorem ag6 {f:Nat} {l:List ByteArray} {k:Nat} (h:decide ((k:Int)≥(l.length:Int))=false) (h2:decide (nth aa l k=⟨#[]⟩)=false):frF (f+1) l k=frF f l (k+1):=by rw [frF,h,h2];rfl
def xm (s:ax) (t:aZ):Int:=frF 16 (bg s t) 0
def ve (S:ax) (t:aZ):Prop:=S.rd∧aZ.ok t
def iZ (S:ax) (t:aZ):AV:=.s (.int (xm S t))
def WI (S:ax) (t:aZ):List AV:=[]
def C9:Con where
 A:=[.a xw, .a [.int, .int, .int, .int, .int, .int, .int]]
 B:=[]
 pre:=fun x b=>ve (x.1) (x.2)
 α:=fun _ _=>Unit
 φ:=fun _ _ _=>True
 r:=fun x b _=>iZ (x.1) (x.2)
 o:=fun x b _=>WI (x.1) (x.2)
 nf:=0
set_option maxRecDepth 100000 in
theorem abU:Has Tryz.prog 96 C9:=by
 refine Has.ofE (fun _=>true) (fun _=>false) (fun _=>false) (l:=[(45,c6)]) ⟨iK,trivial⟩ (fn:=Tryz.f96) Tryz.func96 rfl (by decide) (cH rfl) ?_
 rintro ⟨⟨(ai:List ByteArray),(aj:List Int),(ak:List Int),(an:Int),(ag:List Pt),(ao:Int),(ah:List Pt),(aq:Bool)⟩,⟨(t1:Int),(t2:Int),(t3:Int),(t4:Int),(t5:Int),(t6:Int),(t7:Int)⟩⟩ _ (hp:ve (ai,aj,ak,an,ag,ao,ah,aq) (t1,t2,t3,t4,t5,t6,t7))
 show vc _ _ _ _ (entry [.a [.vz aa ai, .vz ae aj, .vz ae ak, .int an, .vz ab ag, .int ao, .vz ab ah, .q aq], .a [.int t1, .int t2, .int t3, .int t4, .int t5, .int t6, .int t7]] []) _
 obtain ⟨dA,cq⟩:=hp
 have dA:ax.rd (ai,aj,ak,an,ag,ao,ah,aq):=dA
 have cq:aZ.ok (t1,t2,t3,t4,t5,t6,t7):=cq
 have h0:0≤t7:=cq.m0
 have h1:t7≤16:=cq.m1
 have hl:(bg (ai,aj,ak,an,ag,ao,ah,aq) (t1,t2,t3,t4,t5,t6,t7)).length=t7.toNat:=fg cq
 refine ⟨⟨⟨⟨tv,tv,tv,tv,tv,tv,tv,tv,tv⟩,⟨tv,tv,tv,tv,tv,tv,tv,tv⟩,tv⟩,?_,?_,?_,?_⟩,fun x1 w2=>?_⟩
 all_goals first|refine au ?_|refine aw ?_|exact sa|(dsimp only [c6,eA];omega)|exact sb|exact dA|exact cq.rd|skip
 refine cI (l:=[(45,c6)]) (ex:=fun _=>true) (wr:=fun _=>false) (pt:=fun _=>false) ⟨iK,tv⟩ [.s 2, .s 3, .b 1002, .b 1003, .s 5, .b 100000] (fun y:Nat×Nat=>[(.s 6, .int y.1)]) (fun y=>y.1+y.2=16∧frF y.2 (bg (ai,aj,ak,an,ag,ao,ah,aq) (t1,t2,t3,t4,t5,t6,t7)) y.1=xm (ai,aj,ak,an,ag,ao,ah,aq) (t1,t2,t3,t4,t5,t6,t7)) (fun y=>y.2) (0,16) [] ⟨rfl,rfl⟩ ru ?_
 rintro ⟨i,f⟩ ⟨(hi:i+f=16),(hr:frF f (bg (ai,aj,ak,an,ag,ao,ah,aq) (t1,t2,t3,t4,t5,t6,t7)) i=xm (ai,aj,ak,an,ag,ao,ah,aq) (t1,t2,t3,t4,t5,t6,t7))⟩
 have bM:decide ((i:Int)≥((bg (ai,aj,ak,an,ag,ao,ah,aq) (t1,t2,t3,t4,t5,t6,t7)).length:Int))=false→i < (bg (ai,aj,ak,an,ag,ao,ah,aq) (t1,t2,t3,t4,t5,t6,t7)).length:=fun h=>by have:=ca h;omega
 refine ⟨fun w1=>⟨tv,fun w2=>?_,fun w3=>⟨⟨?_,?_⟩,?_,fun w4=>?_,fun w5=>⟨⟨?_,?_⟩,?_⟩⟩⟩,fun w6=>?_⟩
 all_goals first|refine au ?_|refine aw ?_|exact sa|(dsimp only [c6,eA];omega)|exact sb|exact bM w3|(show (i:Int) < ((bg (ai,aj,ak,an,ag,ao,ah,aq) (t1,t2,t3,t4,t5,t6,t7)).length:Int);have:=bM w3;omega)|skip
 ·obtain ⟨g,rfl⟩:∃g,f=g+1:=⟨f - 1,by have:=cw (p:=(i:Int) < 16) w1;omega⟩
  have e:xm (ai,aj,ak,an,ag,ao,ah,aq) (t1,t2,t3,t4,t5,t6,t7)=(i:Int):=by rw [←hr,ag8 (show decide ((i:Int)≥((bg (ai,aj,ak,an,ag,ao,ah,aq) (t1,t2,t3,t4,t5,t6,t7)).length:Int))=true from w2)]
  refine ⟨[],[],_,_,_,rfl,rp,(),tv,?_,?_,rfl⟩
  ·(show _=iZ (ai,aj,ak,an,ag,ao,ah,aq) (t1,t2,t3,t4,t5,t6,t7));unfold iZ;first |(rw [e];rfl) |rfl
  ·rfl
 ·obtain ⟨g,rfl⟩:∃g,f=g+1:=⟨f - 1,by have:=cw (p:=(i:Int) < 16) w1;omega⟩
  have e:xm (ai,aj,ak,an,ag,ao,ah,aq) (t1,t2,t3,t4,t5,t6,t7)=(i:Int):=by rw [←hr,ag7 (show decide (nth aa (bg (ai,aj,ak,an,ag,ao,ah,aq) (t1,t2,t3,t4,t5,t6,t7)) i=⟨#[]⟩)=true from w4)]
  refine ⟨[],[],_,_,_,rfl,rp,(),tv,?_,?_,rfl⟩
  ·(show _=iZ (ai,aj,ak,an,ag,ao,ah,aq) (t1,t2,t3,t4,t5,t6,t7));unfold iZ;first |(rw [e];rfl) |rfl
  ·rfl
 ·obtain ⟨g,rfl⟩:∃g,f=g+1:=⟨f - 1,by have:=cw (p:=(i:Int) < 16) w1;omega⟩
  refine ⟨(i+1,g),[],?_,?_,?_⟩
  rotate_right
  ·exact rq
  ·exact ⟨by show i+1+g=16;omega,by rw [←hr];exact (ag6 (show decide ((i:Int)≥((bg (ai,aj,ak,an,ag,ao,ah,aq) (t1,t2,t3,t4,t5,t6,t7)).length:Int))=false from w3) (show decide (nth aa (bg (ai,aj,ak,an,ag,ao,ah,aq) (t1,t2,t3,t4,t5,t6,t7)) i=⟨#[]⟩)=false from w5)).symm⟩
  ·exact Nat.lt_succ_self g
 ·have hf:f=0:=by have:=ca (p:=(i:Int) < 16) w6;omega
  subst hf
  have e:xm (ai,aj,ak,an,ag,ao,ah,aq) (t1,t2,t3,t4,t5,t6,t7)= -1:=by rw [←hr];rfl
  refine ⟨[],[],_,_,_,rfl,rp,(),tv,?_,?_,rfl⟩
  ·(show _=iZ (ai,aj,ak,an,ag,ao,ah,aq) (t1,t2,t3,t4,t5,t6,t7));unfold iZ;first |(rw [e];rfl) |rfl
  ·rfl
def bgB (many:Int) (x:ByteArray) (k:Nat):Bool:=decide (x=⟨#[]⟩)||(decide ((k:Int)+1 < many)&&decide ((x.size:Int)≠128))
def bgF (many:Int):List ByteArray→Nat→ByteArray→ByteArray×Bool
 |[],_,out=>(out,true)
 |x::l,k,out=>bif bgB many x k then (⟨#[]⟩,false) else bgF many l (k+1) (out++x)
theorem ajS {many:Int} {x:ByteArray} {l:List ByteArray} {k:Nat} {out:ByteArray} (h:decide (x=⟨#[]⟩)=true):bgF many (x::l) k out=(⟨#[]⟩,false):=by rw [bgF,bgB,h];rfl
theorem ajR {many:Int} {x:ByteArray} {l:List ByteArray} {k:Nat} {out:ByteArray} (h:decide ((k:Int)+1 < many)=true) (h2:decide ((x.size:Int)≠128)=true):bgF many (x::l) k out=(⟨#[]⟩,false):=by rw [bgF,bgB,h,h2,Bool.and_true,Bool.or_true];rfl
theorem ajQ {many:Int} {x:ByteArray} {l:List ByteArray} {k:Nat} {out:ByteArray} (h0:decide (x=⟨#[]⟩)=false) (h:decide ((k:Int)+1 < many)=true) (h2:decide ((x.size:Int)≠128)=false):bgF many (x::l) k out=bgF many l (k+1) (out++x):=by rw [bgF,bgB,h0,h,h2];rfl
theorem ajP {many:Int} {x:ByteArray} {l:List ByteArray} {k:Nat} {out:ByteArray} (h0:decide (x=⟨#[]⟩)=false) (h:decide ((k:Int)+1 < many)=false):bgF many (x::l) k out=bgF many l (k+1) (out++x):=by rw [bgF,bgB,h0,h];rfl
def cW (s:ax) (t:aZ):ByteArray×Bool:=bgF t.many (bg s t) 0 ⟨#[]⟩
def BX (S:ax) (t:aZ):Prop:=S.rd∧aZ.ok t
def mD (S:ax) (t:aZ):AV:=.t [.s (.str (cW S t).1), .s (.q (cW S t).2)]
def ada (S:ax) (t:aZ):List AV:=[]
def P1:Con where
 A:=[.a xw, .a [.int, .int, .int, .int, .int, .int, .int]]
 B:=[]
 pre:=fun x b=>BX (x.1) (x.2)
 α:=fun _ _=>Unit
 φ:=fun _ _ _=>True
 r:=fun x b _=>mD (x.1) (x.2)
 o:=fun x b _=>ada (x.1) (x.2)
 nf:=0
set_option maxRecDepth 100000 in
theorem af5:Has Tryz.prog 151 P1:=by
 refine Has.ofE (fun _=>true) (fun _=>false) (fun _=>false) (l:=[(45,c6)]) ⟨iK,trivial⟩ (fn:=Tryz.f151) Tryz.func151 rfl (by decide) (cH rfl) ?_
 rintro ⟨⟨(ai:List ByteArray),(aj:List Int),(ak:List Int),(an:Int),(ag:List Pt),(ao:Int),(ah:List Pt),(aq:Bool)⟩,⟨(t1:Int),(t2:Int),(t3:Int),(t4:Int),(t5:Int),(t6:Int),(t7:Int)⟩⟩ _ (hp:BX (ai,aj,ak,an,ag,ao,ah,aq) (t1,t2,t3,t4,t5,t6,t7))
 show vc _ _ _ _ (entry [.a [.vz aa ai, .vz ae aj, .vz ae ak, .int an, .vz ab ag, .int ao, .vz ab ah, .q aq], .a [.int t1, .int t2, .int t3, .int t4, .int t5, .int t6, .int t7]] []) _
 obtain ⟨dA,cq⟩:=hp
 have dA:ax.rd (ai,aj,ak,an,ag,ao,ah,aq):=dA
 have cq:aZ.ok (t1,t2,t3,t4,t5,t6,t7):=cq
 have h0:0≤t7:=cq.m0
 have h1:t7≤16:=cq.m1
 have hl:(bg (ai,aj,ak,an,ag,ao,ah,aq) (t1,t2,t3,t4,t5,t6,t7)).length=t7.toNat:=fg cq
 refine ⟨⟨⟨⟨tv,tv,tv,tv,tv,tv,tv,tv,tv⟩,⟨tv,tv,tv,tv,tv,tv,tv,tv⟩,tv⟩,?_,?_,?_,?_⟩,fun x1 w2=>?_⟩
 all_goals first|refine au ?_|refine aw ?_|exact sa|(dsimp only [c6,eA];omega)|exact sb|exact dA|exact cq.rd|skip
 refine cI (l:=[(45,c6)]) (ex:=fun _=>true) (wr:=fun _=>false) (pt:=fun _=>false) ⟨iK,tv⟩ [.s 2, .s 3, .b 1002, .b 1003, .s 7, .b 130000] (fun y:Nat×ByteArray=>[(.s 6, .str y.2),(.s 8, .int y.1)]) (fun y=>(y.1:Int)≤t7∧y.2.size≤1000000 * y.1∧bgF t7 ((bg (ai,aj,ak,an,ag,ao,ah,aq) (t1,t2,t3,t4,t5,t6,t7)).drop y.1) y.1 y.2=cW (ai,aj,ak,an,ag,ao,ah,aq) (t1,t2,t3,t4,t5,t6,t7)) (fun y=>t7.toNat - y.1) (0,⟨#[]⟩) [] ⟨h0,Nat.zero_le _,rfl⟩ ru ?_
 rintro ⟨i,out⟩ ⟨(hi:(i:Int)≤t7),(ho:out.size≤1000000 * i),(hr:bgF t7 ((bg (ai,aj,ak,an,ag,ao,ah,aq) (t1,t2,t3,t4,t5,t6,t7)).drop i) i out=cW (ai,aj,ak,an,ag,ao,ah,aq) (t1,t2,t3,t4,t5,t6,t7))⟩
 have bM:decide ((i:Int) < t7)=true→i < (bg (ai,aj,ak,an,ag,ao,ah,aq) (t1,t2,t3,t4,t5,t6,t7)).length:=fun h=>by have:=cw h;omega
 have db:=W1 (wx (s:=(ai,aj,ak,an,ag,ao,ah,aq)) (t:=(t1,t2,t3,t4,t5,t6,t7)) dA) i
 refine ⟨fun w1=>⟨⟨?_,?_⟩,?_,tv,fun w2=>?_,fun w3=>⟨⟨?_,?_⟩,tv,fun w4=>⟨fun w5=>?_,fun w6=>⟨?_,⟨?_,?_⟩,?_⟩⟩,fun w7=>⟨?_,⟨?_,?_⟩,?_⟩⟩⟩,fun w8=>?_⟩
 all_goals first|refine au ?_|refine aw ?_|exact sa|(dsimp only [c6,eA];omega)|exact sb|exact bM w1|(unfold imax;dsimp only;omega)|skip
 ·have mo:=bM w1
  have e:cW (ai,aj,ak,an,ag,ao,ah,aq) (t1,t2,t3,t4,t5,t6,t7)=(⟨#[]⟩,false):=by rw [←hr,bP (ek:=aa) mo,ajS (show decide ((nth aa (bg (ai,aj,ak,an,ag,ao,ah,aq) (t1,t2,t3,t4,t5,t6,t7)) i)=⟨#[]⟩)=true from w2)]
  refine ⟨[],[],_,_,_,rfl,rp,(),tv,?_,?_,rfl⟩
  ·(show _=mD (ai,aj,ak,an,ag,ao,ah,aq) (t1,t2,t3,t4,t5,t6,t7));unfold mD;first |(rw [e];rfl) |rfl
  ·rfl
 ·have mo:=bM w1
  have e:cW (ai,aj,ak,an,ag,ao,ah,aq) (t1,t2,t3,t4,t5,t6,t7)=(⟨#[]⟩,false):=by rw [←hr,bP (ek:=aa) mo,ajR w4 (show decide (((nth aa (bg (ai,aj,ak,an,ag,ao,ah,aq) (t1,t2,t3,t4,t5,t6,t7)) i).size:Int)≠128)=true from w5)]
  refine ⟨[],[],_,_,_,rfl,rp,(),tv,?_,?_,rfl⟩
  ·(show _=mD (ai,aj,ak,an,ag,ao,ah,aq) (t1,t2,t3,t4,t5,t6,t7));unfold mD;first |(rw [e];rfl) |rfl
  ·rfl
 ·have mo:=bM w1
  have aem:=cw (p:=(i:Int) < t7) w1
  refine ⟨(i+1,out++(nth aa (bg (ai,aj,ak,an,ag,ao,ah,aq) (t1,t2,t3,t4,t5,t6,t7)) i)),[],?_,?_,?_⟩
  rotate_right
  ·exact rq
  ·refine ⟨by show ((i+1:Nat):Int)≤t7;omega,by show (out++(nth aa (bg (ai,aj,ak,an,ag,ao,ah,aq) (t1,t2,t3,t4,t5,t6,t7)) i)).size≤1000000 * (i+1);rw [ByteArray.size_append];omega,?_⟩
   rw [←hr,bP (ek:=aa) mo,ajQ (show decide ((nth aa (bg (ai,aj,ak,an,ag,ao,ah,aq) (t1,t2,t3,t4,t5,t6,t7)) i)=⟨#[]⟩)=false from w3) w4 (show decide (((nth aa (bg (ai,aj,ak,an,ag,ao,ah,aq) (t1,t2,t3,t4,t5,t6,t7)) i).size:Int)≠128)=false from w6)]
  ·show t7.toNat - (i+1) < t7.toNat - i;omega
 ·have mo:=bM w1
  have aem:=cw (p:=(i:Int) < t7) w1
  refine ⟨(i+1,out++(nth aa (bg (ai,aj,ak,an,ag,ao,ah,aq) (t1,t2,t3,t4,t5,t6,t7)) i)),[],?_,?_,?_⟩
  rotate_right
  ·exact rq
  ·refine ⟨by show ((i+1:Nat):Int)≤t7;omega,by show (out++(nth aa (bg (ai,aj,ak,an,ag,ao,ah,aq) (t1,t2,t3,t4,t5,t6,t7)) i)).size≤1000000 * (i+1);rw [ByteArray.size_append];omega,?_⟩
   rw [←hr,bP (ek:=aa) mo,ajP (show decide ((nth aa (bg (ai,aj,ak,an,ag,ao,ah,aq) (t1,t2,t3,t4,t5,t6,t7)) i)=⟨#[]⟩)=false from w3) w7]
  ·show t7.toNat - (i+1) < t7.toNat - i;omega
 ·have e:cW (ai,aj,ak,an,ag,ao,ah,aq) (t1,t2,t3,t4,t5,t6,t7)=(out,true):=by rw [←hr,List.drop_eq_nil_of_le (by have:=ca (p:=(i:Int) < t7) w8;omega)];rfl
  refine ⟨[],[],_,_,_,rfl,rp,(),tv,?_,?_,rfl⟩
  ·(show _=mD (ai,aj,ak,an,ag,ao,ah,aq) (t1,t2,t3,t4,t5,t6,t7));unfold mD;first |(rw [e];rfl) |rfl
  ·rfl
end GL
namespace GL
abbrev lb (s:ByteArray):List UInt8:=s.data.toList
theorem vy {s t:ByteArray} (h:lb s=lb t):s=t:=by
 cases s;cases t;simp only [lb] at h;congr 1;exact Array.toList_inj.1 h
theorem wM (s t:ByteArray):lb (s++t)=lb s++lb t:=by
 show (s++t).data.toList=_
 rw [ByteArray.data_append,Array.toList_append]
theorem ff (s:ByteArray):s.size=(lb s).length:=by
 show s.data.size=s.data.toList.length
 rw [Array.length_toList]
theorem adQ:lb ⟨#[]⟩=[]:=rfl
theorem mS (s:ByteArray) (a b:Nat):lb (s.extract a b)=((lb s).take b).drop a:=by
 simp only [lb,ByteArray.data_extract,Array.toList_extract]
 rw [List.extract_eq_take_drop,List.drop_take]
theorem ni (s:ByteArray) (k:Nat):bG s k=(match (lb s)[k]? with |some b=>(b.toNat:Int) |none=>0):=by
 unfold bG
 have e:s[k]?=(lb s)[k]?:=by
  by_cases h:k < s.size
  ·have h':k < (lb s).length:=by rw [←ff];exact h
   rw [getElem?_pos s k h,List.getElem?_eq_getElem h']
   rfl
  ·have h':¬k < (lb s).length:=by rw [←ff];exact h
   rw [getElem?_neg s k h,List.getElem?_eq_none (by omega)]
 rw [e]
 cases (lb s)[k]?<;>rfl
theorem TF:∀(l:List Int) (r:ByteArray),lb (l.foldl (fun r n=>r.push (UInt8.ofNat n.toNat)) r)=lb r++l.map (fun n=>UInt8.ofNat n.toNat)
 |[],r=>by simp
 |n::l,r=>by
  rw [List.foldl_cons,TF l]
  simp [lb,ByteArray.push]
theorem L8 (l:List Int):lb (ft l)=l.map (fun n=>UInt8.ofNat n.toNat):=by
 rw [ft,TF];rfl
def mj (c:UInt8):List UInt8→List (List UInt8)
 |[]=>[[]]
 |x::l=>if x=c then []::mj c l else
  match mj c l with
  |h::t=>(x::h)::t
  |[]=>[[x]]
theorem rU (c x:UInt8) (l:List UInt8):mj c (x::l)=if x=c then []::mj c l else
  match mj c l with
  |h::t=>(x::h)::t
  |[]=>[[x]]:=rfl
theorem zm (c:UInt8) (l:List UInt8):mj c l≠[]:=by
 cases l with
 |nil=>simp [mj]
 |cons x l=>
  unfold mj;split
  ·simp
  ·split<;>simp
theorem wz (c x:UInt8):∀(l:List UInt8) (a:List (List UInt8)) (r:List UInt8),mj c l=a++[r]→mj c (l++[x])=if x=c then a++[r]++[[]] else a++[r++[x]]
 |[],a,r,h=>by
  have h:[[]]=a++[r]:=h
  cases a with
  |nil=>
   simp only [List.nil_append,List.cons.injEq,and_true] at h
   subst h
   by_cases hx:x=c
   ·simp [mj,hx]
   ·simp [mj,hx]
  |cons y a=>simp at h
 |y::l,a,r,h=>by
  rw [List.cons_append]
  rw [rU] at h ⊢
  by_cases hy:y=c
  ·rw [if_pos hy] at h ⊢
   cases a with
   |nil=>
    simp only [List.nil_append,List.cons.injEq] at h
    exact absurd h.2 (zm c l)
   |cons z a=>
    simp only [List.cons_append,List.cons.injEq] at h
    obtain ⟨hz,h⟩:=h
    rw [wz c x l a r h,←hz]
    by_cases hx:x=c<;>simp [hx]
  ·rw [if_neg hy] at h ⊢
   cases e:mj c l with
   |nil=>exact absurd e (zm c l)
   |cons w t=>
    rw [e] at h
    cases a with
    |nil=>
     simp only [List.nil_append,List.cons.injEq] at h
     obtain ⟨hr,ht⟩:=h
     subst ht
     have:=wz c x l [] w (by simpa using e)
     rw [this,←hr]
     by_cases hx:x=c<;>simp [hx]
    |cons z a=>
     simp only [List.cons_append,List.cons.injEq] at h
     obtain ⟨hz,ht⟩:=h
     have:=wz c x l (w::a) r (by rw [e,ht];rfl)
     rw [this,←hz]
     by_cases hx:x=c<;>simp [hx]
theorem zj {s:ByteArray} {k:Nat} (h:k < (lb s).length):(lb s).take (k+1)=(lb s).take k++[(lb s)[k]]:=by
 rw [List.take_add_one,List.getElem?_eq_getElem h];rfl
theorem NG (s:ByteArray) (c:UInt8):∀k,k≤(lb s).length→(iR s c.toNat k).2≤k∧mj c ((lb s).take k)=(iR s c.toNat k).1.map lb++[((lb s).take k).drop (iR s c.toNat k).2]
 |0,_=>⟨Nat.le_refl _,by simp [iR,mj]⟩
 |k+1,hk=>by
  obtain ⟨h1,h2⟩:=NG s c k (by omega)
  have bM:k < (lb s).length:=by omega
  have hb:bG s k=(((lb s)[k]).toNat:Int):=by rw [ni,List.getElem?_eq_getElem bM]
  have hs:=wz c ((lb s)[k]) _ _ _ h2
  rw [zj bM,hs]
  rw [show iR s ((c.toNat:Nat):Int) (k+1)=bif decide (bG s k=((c.toNat:Nat):Int)) then ((iR s c.toNat k).1++[s.extract (iR s c.toNat k).2 k],k+1) else iR s c.toNat k from rfl]
  have hd:decide (bG s k=((c.toNat:Nat):Int))=decide ((lb s)[k]=c):=by
   rw [hb]
   by_cases e:(lb s)[k]=c
   ·simp [e]
   ·have:¬(((lb s)[k]).toNat:Int)=(c.toNat:Int):=fun h=>e (UInt8.toNat_inj.1 (by omega))
    rw [decide_eq_false this,decide_eq_false e]
  rw [hd]
  by_cases e:(lb s)[k]=c
  ·rw [decide_eq_true e,if_pos e]
   simp only [cond_true]
   refine ⟨Nat.le_refl _,?_⟩
   rw [List.map_append,List.map_cons,List.map_nil,mS]
   congr 1
   have:((lb s).take k++[(lb s)[k]]).length=k+1:=by rw [List.length_append,List.length_take,List.length_singleton];omega
   rw [List.drop_eq_nil_of_le (Nat.le_of_eq this)]
  ·rw [decide_eq_false e,if_neg e]
   simp only [cond_false]
   refine ⟨by omega,?_⟩
   congr 2
   rw [List.drop_append_of_le_length (by rw [List.length_take];omega)]
theorem JQ (s:ByteArray) (c:UInt8):(bf s c.toNat).map lb=mj c (lb s):=by
 have h:=NG s c (lb s).length (Nat.le_refl _)
 rw [List.take_of_length_le (Nat.le_refl _)] at h
 rw [h.2,bf,List.map_append,List.map_cons,List.map_nil,mS,ff]
 rw [List.take_of_length_le (Nat.le_refl _)]
theorem lB (c:UInt8):∀(a b:List UInt8),mj c (a++c::b)=mj c a++mj c b
 |[],b=>by simp [mj]
 |x::a,b=>by
  rw [List.cons_append]
  have ih:=lB c a b
  rw [rU,rU]
  by_cases hx:x=c
  ·rw [if_pos hx,if_pos hx,ih];rfl
  ·rw [if_neg hx,if_neg hx,ih]
   cases e:mj c a with
   |nil=>exact absurd e (zm c a)
   |cons h t=>rfl
theorem fX (c:UInt8):∀(a:List UInt8),c∉a→mj c a=[a]
 |[],_=>rfl
 |x::a,h=>by
  have hx:¬x=c:=fun e=>h (by simp [e])
  rw [rU,if_neg hx,fX c a (fun hh=>h (by simp [hh]))]
theorem mT {k:Nat} (h:k < 10):lb (dec k)=[UInt8.ofNat (48+k)]:=by
 rw [dec_lt h,L8]
 simp only [List.map_cons,List.map_nil]
 congr 2
theorem oX {k:Nat} (h:¬k < 10):lb (dec k)=lb (dec (k / 10))++[UInt8.ofNat (48+k % 10)]:=by
 rw [YA h,wM,L8]
 simp only [List.map_cons,List.map_nil]
 congr 3
theorem sk {d:Nat} (h:d < 10):(UInt8.ofNat (48+d)).toNat=48+d:=by
 rw [UInt8.toNat_ofNat'];omega
theorem tT:∀(k:Nat),∀b∈lb (dec k),48≤b.toNat∧b.toNat≤57:=by
 intro k
 induction k using Nat.strongRecOn with
 |_ k ih=>
  intro b hb
  by_cases h:k < 10
  ·rw [mT h] at hb
   rw [List.mem_singleton.1 hb,sk h];omega
  ·rw [oX h] at hb
   rcases List.mem_append.1 hb with hb |hb
   ·exact ih (k / 10) (by omega) b hb
   ·rw [List.mem_singleton.1 hb,sk (by omega)];omega
theorem xf:∀(k:Nat),∃b l,lb (dec k)=b::l∧(b.toNat=48→l=[]):=by
 intro k
 induction k using Nat.strongRecOn with
 |_ k ih=>
  by_cases h:k < 10
  ·exact ⟨_,_,mT h,fun _=>rfl⟩
  ·obtain ⟨b,l,e,hb⟩:=ih (k / 10) (by omega)
   refine ⟨b,l++[UInt8.ofNat (48+k % 10)],by rw [oX h,e];rfl,fun h48=>?_⟩
   exfalso
   have hl:=hb h48
   subst hl
   by_cases h2:k / 10 < 10
   ·rw [mT h2] at e
    simp only [List.cons.injEq,and_true] at e
    have:=sk h2
    rw [e] at this
    omega
   ·rw [oX h2] at e
    have:=congrArg List.length e
    have h3:1≤(lb (dec (k / 10 / 10))).length:=by
     obtain ⟨b',l',e',_⟩:=ih (k / 10 / 10) (by omega)
     rw [e'];simp
    simp only [List.length_append,List.length_cons,List.length_nil] at this
    omega
def qA (l:List UInt8):Int:=l.foldl (fun n b=>10 * n+((b.toNat:Int) - 48)) 0
theorem wv (l:List UInt8) (b:UInt8):qA (l++[b])=10 * qA l+((b.toNat:Int) - 48):=by simp [qA]
theorem QH:∀(k:Nat),qA (lb (dec k))=k:=by
 intro k
 induction k using Nat.strongRecOn with
 |_ k ih=>
  by_cases h:k < 10
  ·rw [mT h]
   have:=sk h
   simp only [qA,List.foldl_cons,List.foldl_nil];omega
  ·rw [oX h,wv,ih (k / 10) (by omega),sk (by omega)];omega
theorem B8 (s:ByteArray):∀k,k≤(lb s).length→iG s k=qA ((lb s).take k)
 |0,_=>by simp [iG,qA]
 |k+1,h=>by
  have bM:k < (lb s).length:=by omega
  rw [zj bM,wv,iG,B8 s k (by omega),ni,List.getElem?_eq_getElem bM]
theorem ZU {s:ByteArray}:∀ {j f k:Nat},j+k≤9→f+k=9→(∀i,k≤i→i < k+j→C5 s i=true)→sr f s k=sr (f - j) s (k+j)
 |0,f,k,_,_,_=>by rw [Nat.sub_zero];rfl
 |j+1,f,k,h,hf,hd=>by
  obtain ⟨g,rfl⟩:∃g,f=g+1:=⟨f - 1,by omega⟩
  rw [sr,hd k (Nat.le_refl _) (by omega),cond_true,ZU (j:=j) (by omega) (by omega) (fun i h1 h2=>hd i (by omega) (by omega))]
  rw [show g+1 - (j+1)=g - j by omega,show k+1+j=k+(j+1) by omega]
theorem Z1 {s:ByteArray} {n:Nat} {rest:List UInt8} (hn:n < 1000000000) (hs:lb s=lb (dec n)++rest) (hr:∀b,rest.head?=some b→¬(48≤b.toNat∧b.toNat≤57)):CI s=((n:Int),((lb (dec n)).length:Int)):=by
 have hlen:(lb (dec n)).length≤9:=by rw [←ff];exact JL 8 n (by show n < 10 ^ 9;omega)
 have db:s.size=(lb (dec n)).length+rest.length:=by rw [ff,hs,List.length_append]
 have xE:∀i,i < (lb (dec n)).length→bG s i=(match (lb (dec n))[i]? with |some b=>(b.toNat:Int) |none=>0):=fun i hi=>by
  rw [ni,hs,List.getElem?_append_left hi]
 have agi:∀i,i < (lb (dec n)).length→C5 s i=true:=fun i hi=>by
  have h1:=xE i hi
  rw [List.getElem?_eq_getElem hi] at h1
  have h2:=tT n _ (List.getElem_mem hi)
  have h3:bG s i=(((lb (dec n))[i]).toNat:Int):=h1
  unfold C5
  rw [decide_eq_true (by omega),decide_eq_true (by omega),decide_eq_true (by omega),decide_eq_true (by omega)];rfl
 have aja:C5 s (lb (dec n)).length=false:=by
  cases aeh:rest with
  |nil=>
   rw [aeh] at db
   exact aha (decide_eq_false (by rw [db];simp))
  |cons b r=>
   have hb:=hr b (by rw [aeh];rfl)
   have h1:bG s (lb (dec n)).length=(b.toNat:Int):=by
    rw [ni,hs,List.getElem?_append_right (Nat.le_refl _),Nat.sub_self,aeh];rfl
   unfold C5
   by_cases h48:48≤b.toNat
   ·rw [decide_eq_false (p:=bG s (lb (dec n)).length≤57) (by omega),Bool.and_false,Bool.and_false,Bool.and_false]
   ·rw [decide_eq_false (p:=bG s (lb (dec n)).length≥48) (by omega),Bool.false_and,Bool.and_false,Bool.and_false]
 have hnl:cR s=(lb (dec n)).length:=by
  refine TD hlen aja ?_
  have:=ZU (s:=s) (j:=(lb (dec n)).length) (f:=9) (k:=0) (by omega) (by omega) (fun i _ h2=>agi i (by omega))
  rw [Nat.zero_add] at this
  exact this.symm
 have XO:iG s (lb (dec n)).length=n:=by
  rw [B8 s _ (by rw [hs,List.length_append];omega),hs,List.take_append_of_le_length (Nat.le_refl _),List.take_of_length_le (Nat.le_refl _),QH]
 by_cases h1:1 < (lb (dec n)).length
 ·obtain ⟨b,l,e,hb⟩:=xf n
  have h0:bG s 0=(b.toNat:Int):=by rw [xE 0 (by omega),e];rfl
  have h2:¬b.toNat=48:=fun h=>by
   have:=hb h;rw [e,this] at h1;simp at h1
  rw [agU hnl (decide_eq_false (by omega)),XO]
 ·rw [agV hnl (decide_eq_false (by omega)),XO]
theorem SS {n:Nat} (hn:n < 1000000000):aA (dec n)=((n:Int),true):=by
 have h:=Z1 (s:=dec n) (rest:=[]) hn (by simp) (by simp)
 have mV:1≤(lb (dec n)).length:=by obtain ⟨b,l,e,_⟩:=xf n;rw [e];simp
 unfold aA
 rw [h]
 simp only
 rw [decide_eq_false (p:=((lb (dec n)).length:Int)=0) (by omega),decide_eq_false (p:=((lb (dec n)).length:Int)≠((dec n).size:Int)) (by rw [ff];simp)];rfl
theorem eg {n:Int} (h0:0≤n) (hn:n < 1000000000):aA (bQ n)=(n,true):=by
 unfold bQ
 rw [SS (by omega),show ((n.toNat:Nat):Int)=n by omega]
theorem ae9 {n:Nat} {c:UInt8} (hc:¬(48≤c.toNat∧c.toNat≤57)):c∉lb (dec n):=fun h=>hc (tT n c h)
end GL
end Go.Proofs.YtbfgjadbfjkcdaaGreatDoor
