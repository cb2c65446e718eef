/- FnTreeOk returns true for every code (its row lists package variables, tied by the card): part 13 of 39. -/
import Derived.Test.YtbfgjadbfjkcdaaGreatDoorPal
set_option maxHeartbeats 20000000
set_option linter.all false
namespace Go.Proofs.YtbfgjadbfjkcdaaGreatDoor
namespace GL
def lg:List ByteArray→List Int→Option (List Int)
 |[],acc=>some acc
 |t::l,acc=>bif (aA t).2 then lg l (acc++[(aA t).1]) else none
def lH (n:List Int):Pt:=(nth ae n 0,nth ae n 1,nth ae n 2,nth ae n 3,nth ae n 4)
def pK (n:List Int):Pt×Bool:=bif !(aV (lH n))||ar (lH n) then (bL,false) else (lH n,true)
def qM (w:List ByteArray):Pt×Bool:=
 match lg w [] with
 |none=>(bL,false)
 |some n=>pK n
def bJ (s:ByteArray):Pt×Bool:=
 bif decide (s=⟨#[45]⟩) then (bL,true) else
 bif decide (((bf s 46).length:Int)≠5) then (bL,false) else qM (bf s 46)
theorem wE {s:ByteArray} (h:decide (s=⟨#[45]⟩)=true):bJ s=(bL,true):=by unfold bJ;rw [h];rfl
theorem BV {s:ByteArray} (h:decide (s=⟨#[45]⟩)=false) (h2:decide (((bf s 46).length:Int)≠5)=true):bJ s=(bL,false):=by unfold bJ;rw [h,h2];rfl
theorem r3 {s:ByteArray} (h:decide (s=⟨#[45]⟩)=false) (h2:decide (((bf s 46).length:Int)≠5)=false):bJ s=qM (bf s 46):=by unfold bJ;rw [h,h2];rfl
theorem BU {w:List ByteArray} (h:lg w []=none):qM w=(bL,false):=by unfold qM;rw [h]
theorem BT {w:List ByteArray} {n:List Int} (h:lg w []=some n):qM w=pK n:=by unfold qM;rw [h]
theorem RW {n:List Int} (h:(!(aV (lH n)))=true):pK n=(bL,false):=by unfold pK;rw [h];rfl
theorem RV {n:List Int} (h:ar (lH n)=true):pK n=(bL,false):=by unfold pK;rw [h,Bool.or_true];rfl
theorem G7 {n:List Int} (h:(!(aV (lH n)))=false) (h2:ar (lH n)=false):pK n=(lH n,true):=by unfold pK;rw [h,h2];rfl
def mM (s:ByteArray):Prop:=s.size≤1000000
def eH (s:ByteArray):AV:=.t [ptA (bJ s).1, .s (.q (bJ s).2)]
def abz (s:ByteArray):List AV:=[]
def qs:Con where
 A:=[.s .str]
 B:=[]
 pre:=fun x b=>mM x
 α:=fun _ _=>Unit
 φ:=fun _ _ _=>True
 r:=fun x b _=>eH x
 o:=fun x b _=>abz x
 nf:=0
set_option maxRecDepth 100000 in
theorem IM:Has Tryz.prog 75 qs:=by
 refine Has.ofE (fun _=>true) (fun _=>false) (fun _=>false) (l:=[(74,jy),(115,iv),(25,cS),(26,bc)]) ⟨vB,tF,iq,cr,trivial⟩ (fn:=Tryz.f75) Tryz.func75 rfl (by decide) (cH rfl) ?_
 rintro (s:ByteArray) _ (hp:mM s)
 show vc _ _ _ _ (entry [.str s] []) _
 unfold mM at hp
 have TZ:=tU s 46
 refine ⟨fun w1=>?_,fun w2=>⟨⟨⟨tv,tv,tv⟩,?_⟩,fun x3 w4=>⟨fun w5=>?_,fun w6=>⟨tv,?_⟩⟩⟩⟩
 all_goals first|refine au ?_|refine aw ?_|exact sa|(dsimp only [jy,gB];omega)|(dsimp only [iv,iJ];omega)|(dsimp only [cS,dS];omega)|(dsimp only [bc,bW];omega)|exact sb|skip
 ·refine ⟨[],[],_,_,_,rfl,rp,(),tv,?_,?_,rfl⟩
  ·(show _=eH s);unfold eH;first |(rw [wE (by assumption)];rfl) |rfl
  ·rfl
 ·refine ⟨[],[],_,_,_,rfl,rp,(),tv,?_,?_,rfl⟩
  ·(show _=eH s);unfold eH;first |(rw [BV (by assumption) (by assumption)];rfl) |rfl
  ·rfl
 ·have h5:(bf s 46).length=5:=by have:=ca (p:=((bf s 46).length:Int)≠5) (by assumption);omega
  have hM:=r3 (s:=s) (by assumption) (by assumption)
  refine cI (l:=[(74,jy),(115,iv),(25,cS),(26,bc)]) (ex:=fun _=>true) (wr:=fun _=>false) (pt:=fun _=>false) ⟨vB,tF,iq,cr,tv⟩ [.s 0, .s 2, .s 4, .b 1002, .b 150000] (fun y:Nat×List Int=>[(.s 5, .s (.xs 1019 1 0 y.2.length)),(.s 6, .int y.1),(.b 1019, .rs ae y.2)]) (fun y=>y.1≤5∧y.2.length=y.1∧lg ((bf s 46).drop y.1) y.2=lg (bf s 46) []) (fun y=>5 - y.1) (0,[]) [] ⟨Nat.zero_le _,rfl,rfl⟩ ru ?_
  rintro ⟨i,n⟩ ⟨(hi:i≤5),(hl:n.length=i),(hr:lg ((bf s 46).drop i) n=lg (bf s 46) [])⟩
  have db:i < 5→(nth aa (bf s 46) i).size≤1000000:=fun h=>Nat.le_trans (ra (s:=s) (c:=46) _ (bS (ek:=aa) (by omega))) hp
  have cJ:i < 5→(bf s 46).drop i=nth aa (bf s 46) i::(bf s 46).drop (i+1):=fun h=>bP (ek:=aa) (by omega)
  refine ⟨fun w1=>⟨⟨?_,?_⟩,?_,⟨⟨tv,tv⟩,?_⟩,fun x2 w3=>⟨fun w4=>?_,fun w5=>⟨tv,⟨⟨?_,?_⟩,?_,?_⟩,⟨?_,?_⟩,?_⟩⟩⟩,fun w6=>⟨[.s 5],[.s 39],rfl,[.s 39],[.s 40],rfl,⟨?_,?_⟩,[.s 40, .b 1019],[.s 41],rfl,?_,[.s 5],[.s 42],rfl,[.s 42],[.s 43],rfl,⟨?_,?_⟩,[.s 43, .b 1019],[.s 44],rfl,?_,[.s 5],[.s 45],rfl,[.s 45],[.s 46],rfl,⟨?_,?_⟩,[.s 46, .b 1019],[.s 47],rfl,?_,[.s 5],[.s 48],rfl,[.s 48],[.s 49],rfl,⟨?_,?_⟩,[.s 49, .b 1019],[.s 50],rfl,?_,[.s 5],[.s 51],rfl,[.s 51],[.s 52],rfl,⟨?_,?_⟩,[.s 52, .b 1019],[.s 53],rfl,?_,[.s 41, .s 44, .s 47, .s 50, .s 53],[.s 54],rfl,[.b 1009],[.s 9, .b 1009],rfl,[.s 9, .s 54, .b 1009],[.b 1009],rfl,⟨⟨⟨tv,tv,tv,tv,tv,tv⟩,tv⟩,tv⟩,fun x7 w8=>⟨tv,fun w9=>?_,fun df=>⟨⟨⟨⟨tv,tv,tv,tv,tv,tv⟩,tv⟩,tv⟩,fun kx dC=>⟨fun iA=>?_,fun gx=>?_⟩⟩⟩⟩⟩
  all_goals first|refine au ?_|refine aw ?_|exact sa|(dsimp only [jy,gB];omega)|(dsimp only [iv,iJ];omega)|(dsimp only [cS,dS];omega)|(dsimp only [bc,bW];omega)|exact sb|(have:=db (by have:=cw (p:=(i:Int) < 5) (by assumption);omega);show ((nth aa (bf s 46) i).size:Int)≤1000000000000;omega)|skip
  ·have bM:i < 5:=by have:=cw (p:=(i:Int) < 5) (by assumption);omega
   have e:lg (bf s 46) []=none:=by rw [←hr,cJ bM,lg,show (aA (nth aa (bf s 46) i)).2=false from xk (by assumption)];rfl
   refine ⟨[],[],_,_,_,rfl,rp,(),tv,?_,?_,rfl⟩
   ·(show _=eH s);unfold eH;first |(rw [hM,BU e];rfl) |rfl
   ·rfl
  ·have bM:i < 5:=by have:=cw (p:=(i:Int) < 5) (by assumption);omega
   refine ⟨(i+1,n++[(aA (nth aa (bf s 46) i)).1]),[(1019,1038)],?_,?_,?_⟩
   rotate_right
   ·exact rq
   ·refine ⟨bM,by show List.length (_++_)=_;rw [List.length_append,hl];rfl,?_⟩
    rw [←hr,cJ bM,lg,show (aA (nth aa (bf s 46) i)).2=true from cB (by assumption)];rfl
   ·show 5 - (i+1) < 5 - i;omega
  all_goals
   have hi5:i=5:=by have:=ca (p:=(i:Int) < 5) (by assumption);omega
   have e:lg (bf s 46) []=some n:=by rw [←hr,List.drop_eq_nil_of_le (by omega)];rfl
   rw [BT e] at hM
  ·rw [RW (by assumption)] at hM
   refine ⟨[],[],_,_,_,rfl,rp,(),tv,?_,?_,rfl⟩
   ·(show _=eH s);unfold eH;first |(rw [hM];rfl) |rfl
   ·rfl
  ·rw [RV (by assumption)] at hM
   refine ⟨[],[],_,_,_,rfl,rp,(),tv,?_,?_,rfl⟩
   ·(show _=eH s);unfold eH;first |(rw [hM];rfl) |rfl
   ·rfl
  ·rw [G7 (by assumption) (by assumption)] at hM
   refine ⟨[],[],_,_,_,rfl,rp,(),tv,?_,?_,rfl⟩
   ·(show _=eH s);unfold eH;first |(rw [hM];rfl) |rfl
   ·rfl
end GL
namespace GL
def oh:List ByteArray→List Pt→Bool→Option (List Pt×Bool)
 |[],out,sm=>some (out,sm)
 |t::l,out,sm=>bif (bJ t).2 then oh l (out++[(bJ t).1]) (sm|| !(ar (bJ t).1)) else none
def l9 (o:List Pt) (sm:Bool):List Pt×Bool:=bif decide ((o.length:Int)≠4)|| !sm then ([],false) else (o,true)
def bd (s:ByteArray):List Pt×Bool:=
 match oh (bf s 44) [] false with
 |none=>([],false)
 |some (o,sm)=>l9 o sm
theorem xa {s:ByteArray} (h:oh (bf s 44) [] false=none):bd s=([],false):=by unfold bd;rw [h]
theorem jP {s:ByteArray} {o:List Pt} {sm:Bool} (h:oh (bf s 44) [] false=some (o,sm)):bd s=l9 o sm:=by unfold bd;rw [h]
theorem zY {o:List Pt} {sm:Bool} (h:decide ((o.length:Int)≠4)=true):l9 o sm=([],false):=by unfold l9;rw [h];rfl
theorem zX {o:List Pt} {sm:Bool} (h:(!sm)=true):l9 o sm=([],false):=by unfold l9;rw [h,Bool.or_true];rfl
theorem vN {o:List Pt} {sm:Bool} (h:decide ((o.length:Int)≠4)=false) (h2:(!sm)=false):l9 o sm=(o,true):=by unfold l9;rw [h,h2];rfl
theorem aeP {t:ByteArray} {l:List ByteArray} {out:List Pt} {sm:Bool} (h:(!(bJ t).2)=false):oh (t::l) out sm=oh l (out++[(bJ t).1]) (sm|| !(ar (bJ t).1)):=by rw [oh,cB h];rfl
theorem ah5 {t:ByteArray} {l:List ByteArray} {out:List Pt} {sm:Bool} (h:(!(bJ t).2)=true):oh (t::l) out sm=none:=by rw [oh,xk h];rfl
def pZ (s:ByteArray):Prop:=s.size≤1000000
def ib (s:ByteArray):AV:=.t [.s (.xs 0 5 0 (bd s).1.length), .s (.q (bd s).2)]
def jK (s:ByteArray):List AV:=[.rs ab (bd s).1]
def vZ:Con where
 A:=[.s .str]
 B:=[]
 pre:=fun x b=>pZ x
 α:=fun _ _=>Unit
 φ:=fun _ _ _=>True
 r:=fun x b _=>ib x
 o:=fun x b _=>jK x
 nf:=1
set_option maxRecDepth 100000 in
theorem TR:Has Tryz.prog 89 vZ:=by
 refine Has.ofE (fun _=>true) (fun _=>false) (fun _=>false) (l:=[(115,iv),(75,qs),(26,bc)]) ⟨tF,IM,cr,trivial⟩ (fn:=Tryz.f89) Tryz.func89 rfl (by decide) (cH rfl) ?_
 rintro (s:ByteArray) _ (hp:pZ s)
 show vc _ _ _ _ (entry [.str s] []) _
 unfold pZ at hp
 have TZ:=tU s 44
 refine ⟨⟨⟨tv,tv,tv⟩,?_⟩,fun x1 w2=>⟨tv,?_⟩⟩
 all_goals first|refine au ?_|refine aw ?_|exact sa|(dsimp only [iv,iJ];omega)|(dsimp only [qs,mM];omega)|(dsimp only [bc,bW];omega)|exact sb|skip
 refine cI (l:=[(115,iv),(75,qs),(26,bc)]) (ex:=fun _=>true) (wr:=fun _=>false) (pt:=fun _=>false) ⟨tF,IM,cr,tv⟩ [.s 0, .s 4, .b 120000] (fun y:Nat×List Pt×Bool=>[(.s 5, .s (.xs 1012 5 0 y.2.1.length)),(.s 6, .s (.q y.2.2)),(.s 7, .int y.1),(.b 1012, .rs ab y.2.1)]) (fun y=>y.1≤(bf s 44).length∧y.2.1.length=y.1∧oh ((bf s 44).drop y.1) y.2.1 y.2.2=oh (bf s 44) [] false) (fun y=>(bf s 44).length - y.1) (0,[],false) [] ⟨Nat.zero_le _,rfl,rfl⟩ ru ?_
 rintro ⟨i,out,sm⟩ ⟨(hi:i≤(bf s 44).length),(hl:out.length=i),(hr:oh ((bf s 44).drop i) out sm=oh (bf s 44) [] false)⟩
 have db:i < (bf s 44).length→(nth aa (bf s 44) i).size≤1000000:=fun h=>Nat.le_trans (ra (s:=s) (c:=44) _ (bS (ek:=aa) h)) hp
 have cJ:i < (bf s 44).length→(bf s 44).drop i=nth aa (bf s 44) i::(bf s 44).drop (i+1):=fun h=>bP (ek:=aa) h
 have cg:decide ((i:Int) < ((bf s 44).length:Int))=true→i < (bf s 44).length:=fun h=>by have:=cw h;omega
 have ob:decide ((i:Int) < ((bf s 44).length:Int))=false→oh (bf s 44) [] false=some (out,sm):=fun h=>by
  have:=ca h
  rw [←hr,List.drop_eq_nil_of_le (by omega)];rfl
 refine ⟨fun w1=>⟨⟨?_,?_⟩,?_,⟨⟨tv,tv⟩,?_⟩,fun x2 w3=>⟨fun w4=>⟨tv,?_⟩,fun w5=>⟨tv,fun w6=>⟨tv,⟨⟨?_,?_⟩,?_,?_⟩,⟨?_,?_⟩,?_⟩,fun w7=>⟨⟨⟨⟨tv,tv,tv,tv,tv,tv⟩,tv⟩,tv⟩,fun x8 w9=>⟨tv,⟨⟨?_,?_⟩,?_,?_⟩,⟨?_,?_⟩,?_⟩⟩⟩⟩⟩,fun df=>⟨tv,fun ka=>⟨tv,?_⟩,fun dC=>⟨fun iA=>⟨tv,?_⟩,fun gx=>?_⟩⟩⟩
 all_goals first|refine au ?_|refine aw ?_|exact sa|(dsimp only [iv,iJ];omega)|(dsimp only [qs,mM];omega)|(dsimp only [bc,bW];omega)|exact sb|(exact db (cg (by assumption)))|skip
 ·have e:oh (bf s 44) [] false=none:=by rw [←hr,cJ (cg (by assumption)),ah5 (by assumption)]
  refine ⟨[1029],[],_,_,_,rfl,rp,(),tv,?_,?_,rfl⟩
  ·(show _=ib s);unfold ib;first |(rw [xa e];rfl) |rfl
  ·(show _=jK s);unfold jK;first |(rw [xa e];rfl) |rfl
 ·refine ⟨(i+1,out++[(bJ (nth aa (bf s 44) i)).1],true),[(1012,1039)],?_,?_,?_⟩
  rotate_right
  ·exact rq
  ·have bM:=cg (by assumption)
   refine ⟨bM,by show List.length (_++_)=_;rw [List.length_append,hl];rfl,?_⟩
   rw [←hr,cJ bM,aeP (by assumption),show sm=true by assumption];rfl
  ·show (bf s 44).length - (i+1) < (bf s 44).length - i;have:=cg (by assumption);omega
 ·refine ⟨(i+1,out++[(bJ (nth aa (bf s 44) i)).1],!(ar (bJ (nth aa (bf s 44) i)).1)),[(1012,1039)],?_,?_,?_⟩
  rotate_right
  ·exact rq
  ·have bM:=cg (by assumption)
   refine ⟨bM,by show List.length (_++_)=_;rw [List.length_append,hl];rfl,?_⟩
   rw [←hr,cJ bM,aeP (by assumption),show sm=false by assumption];rfl
  ·show (bf s 44).length - (i+1) < (bf s 44).length - i;have:=cg (by assumption);omega
 ·refine ⟨[1047],[],_,_,_,rfl,rp,(),tv,?_,?_,rfl⟩
  ·(show _=ib s);unfold ib;first |(rw [jP (ob (by assumption)),zY (by assumption)];rfl) |rfl
  ·(show _=jK s);unfold jK;first |(rw [jP (ob (by assumption)),zY (by assumption)];rfl) |rfl
 ·refine ⟨[1047],[],_,_,_,rfl,rp,(),tv,?_,?_,rfl⟩
  ·(show _=ib s);unfold ib;first |(rw [jP (ob (by assumption)),zX (by assumption)];rfl) |rfl
  ·(show _=jK s);unfold jK;first |(rw [jP (ob (by assumption)),zX (by assumption)];rfl) |rfl
 ·refine ⟨[1012],[],_,_,_,rfl,rp,(),tv,?_,?_,rfl⟩
  ·(show _=ib s);unfold ib;first |(rw [jP (ob (by assumption)),vN (by assumption) (by assumption)];rfl) |rfl
  ·(show _=jK s);unfold jK;first |(rw [jP (ob (by assumption)),vN (by assumption) (by assumption)];rfl) |rfl
def gR:List Pt→Nat→ByteArray→Bool→Option (ByteArray×Bool)
 |[],_,out,sm=>some (out,sm)
 |p::l,i,out,sm=>bif aV p then gR l (i+1) ((bif decide ((i:Int) > 0) then out++⟨#[44]⟩ else out)++aY p) (sm|| !(ar p)) else none
def q7 (o:ByteArray) (sm:Bool):ByteArray×Bool:=bif !sm then (⟨#[]⟩,false) else (o,true)
def q6 (l:List Pt):ByteArray×Bool:=
 match gR l 0 ⟨#[]⟩ false with
 |none=>(⟨#[]⟩,false)
 |some (o,sm)=>q7 o sm
def bz (l:List Pt):ByteArray×Bool:=bif decide ((l.length:Int)≠4) then (⟨#[]⟩,false) else q6 l
theorem wZ {l:List Pt} (h:decide ((l.length:Int)≠4)=true):bz l=(⟨#[]⟩,false):=by unfold bz;rw [h];rfl
theorem wY {l:List Pt} (h:decide ((l.length:Int)≠4)=false):bz l=q6 l:=by unfold bz;rw [h];rfl
theorem o8 {l:List Pt} (h:gR l 0 ⟨#[]⟩ false=none):q6 l=(⟨#[]⟩,false):=by unfold q6;rw [h]
theorem sB {l:List Pt} {o:ByteArray} {sm:Bool} (h:gR l 0 ⟨#[]⟩ false=some (o,sm)):q6 l=q7 o sm:=by unfold q6;rw [h]
theorem C1 {o:ByteArray} {sm:Bool} (h:(!sm)=true):q7 o sm=(⟨#[]⟩,false):=by unfold q7;rw [h];rfl
theorem w0 {o:ByteArray} {sm:Bool} (h:(!sm)=false):q7 o sm=(o,true):=by unfold q7;rw [h];rfl
theorem ago {p:Pt} {l:List Pt} {i:Nat} {out:ByteArray} {sm:Bool} (h:(!(aV p))=true):gR (p::l) i out sm=none:=by rw [gR,xk h];rfl
theorem FK {p:Pt} {l:List Pt} {i:Nat} {out:ByteArray} {sm:Bool} (h:(!(aV p))=false):gR (p::l) i out sm=gR l (i+1) ((bif decide ((i:Int) > 0) then out++⟨#[44]⟩ else out)++aY p) (sm|| !(ar p)):=by rw [gR,cB h];rfl
theorem QN {a b:ByteArray} (ha:a.size≤1000000) (hb:b.size≤1000000):((a.size+b.size:Nat):Int)≤imax:=by
 unfold imax;omega
theorem agL (p:Pt):(aY p).size≤1000000:=Nat.le_trans (gh p) (by omega)
def yt (l:List Pt):Prop:=True
def ia (l:List Pt):AV:=.t [.s (.str (bz l).1), .s (.q (bz l).2)]
def abE (l:List Pt):List AV:=[]
def J7:Con where
 A:=[.s (.vz ab)]
 B:=[]
 pre:=fun x b=>yt x
 α:=fun _ _=>Unit
 φ:=fun _ _ _=>True
 r:=fun x b _=>ia x
 o:=fun x b _=>abE x
 nf:=0
set_option maxRecDepth 100000 in
theorem aed:Has Tryz.prog 121 J7:=by
 refine Has.ofE (fun _=>true) (fun _=>false) (fun _=>false) (l:=[(25,cS),(26,bc),(118,qq)]) ⟨iq,cr,IL,trivial⟩ (fn:=Tryz.f121) Tryz.func121 rfl (by decide) (cH rfl) ?_
 rintro (l:List Pt) _ (hp:yt l)
 show vc _ _ _ _ (entry [.s (.vz ab l)] []) _
 refine ⟨fun w1=>?_,fun w2=>?_⟩
 all_goals first|refine au ?_|refine aw ?_|exact sa|(dsimp only [cS,dS];omega)|(dsimp only [bc,bW];omega)|(dsimp only [qq,pW];omega)|exact sb|skip
 ·refine ⟨[],[],_,_,_,rfl,rp,(),tv,?_,?_,rfl⟩
  ·(show _=ia l);unfold ia;first |(rw [wZ (by assumption)];rfl) |rfl
  ·rfl
 ·have h4:l.length=4:=by have:=ca (p:=(l.length:Int)≠4) (by assumption);omega
  have hM:=wY (l:=l) (by assumption)
  refine cI (l:=[(25,cS),(26,bc),(118,qq)]) (ex:=fun _=>true) (wr:=fun _=>false) (pt:=fun _=>false) ⟨iq,cr,IL,tv⟩ [.s 0] (fun y:Nat×ByteArray×Bool=>[(.s 4, .str y.2.1),(.s 5, .s (.q y.2.2)),(.s 6, .int y.1)]) (fun y=>y.1≤4∧y.2.1.size≤65 * y.1∧gR (l.drop y.1) y.1 y.2.1 y.2.2=gR l 0 ⟨#[]⟩ false) (fun y=>4 - y.1) (0,⟨#[]⟩,false) [] ⟨Nat.zero_le _,Nat.zero_le _,rfl⟩ ru ?_
  rintro ⟨i,out,sm⟩ ⟨(hi:i≤4),(ho:out.size≤65 * i),(hr:gR (l.drop i) i out sm=gR l 0 ⟨#[]⟩ false)⟩
  have cg:decide ((i:Int) < (l.length:Int))=true→i < l.length:=fun h=>by have:=cw h;omega
  have cJ:i < l.length→l.drop i=nth ab l i::l.drop (i+1):=fun h=>bP (ek:=ab) h
  have db:=gh (nth ab l i)
  have ob:decide ((i:Int) < (l.length:Int))=false→gR l 0 ⟨#[]⟩ false=some (out,sm):=fun h=>by
   have:=ca h
   rw [←hr,List.drop_eq_nil_of_le (by omega)];rfl
  refine ⟨fun w1=>⟨⟨?_,?_⟩,⟨⟨⟨tv,tv,tv,tv,tv,tv⟩,tv⟩,tv⟩,fun x2 w3=>⟨fun w4=>?_,fun w5=>⟨tv,fun w6=>⟨fun w7=>⟨?_,⟨?_,?_⟩,⟨⟨⟨tv,tv,tv,tv,tv,tv⟩,tv⟩,tv⟩,fun x8 w9=>⟨?_,⟨?_,?_⟩,?_⟩⟩,fun df=>⟨⟨?_,?_⟩,⟨⟨⟨tv,tv,tv,tv,tv,tv⟩,tv⟩,tv⟩,fun kx dC=>⟨?_,⟨?_,?_⟩,?_⟩⟩⟩,fun iA=>⟨⟨?_,?_⟩,⟨⟨⟨tv,tv,tv,tv,tv,tv⟩,tv⟩,tv⟩,fun x14 oU=>⟨fun j9=>⟨?_,⟨?_,?_⟩,⟨⟨⟨tv,tv,tv,tv,tv,tv⟩,tv⟩,tv⟩,fun x17 qI=>⟨?_,⟨?_,?_⟩,?_⟩⟩,fun ot=>⟨⟨?_,?_⟩,⟨⟨⟨tv,tv,tv,tv,tv,tv⟩,tv⟩,tv⟩,fun x20 zg=>⟨?_,⟨?_,?_⟩,?_⟩⟩⟩⟩⟩⟩⟩,fun zf=>⟨fun xv=>?_,fun rl=>?_⟩⟩
  all_goals first|refine au ?_|refine aw ?_|exact sa|(dsimp only [cS,dS];omega)|(dsimp only [bc,bW];omega)|(dsimp only [qq,pW];omega)|exact sb|(exact QN (show out.size≤1000000 by omega) (by rw [sz1];omega))|(exact QN (show (out++(⟨#[44]⟩:ByteArray)).size≤1000000 by rw [ByteArray.size_append,sz1];omega) (agL _))|(exact QN (show out.size≤1000000 by omega) (agL _))|skip
  ·have e:gR l 0 ⟨#[]⟩ false=none:=by rw [←hr,cJ (cg (by assumption)),ago (by assumption)]
   refine ⟨[],[],_,_,_,rfl,rp,(),tv,?_,?_,rfl⟩
   ·(show _=ia l);unfold ia;first |(rw [hM,o8 e];rfl) |rfl
   ·rfl
  ·have bM:=cg (by assumption)
   refine ⟨(i+1,out++⟨#[44]⟩++aY (nth ab l i),true),[],?_,?_,?_⟩
   rotate_right
   ·exact rq
   ·refine ⟨by show i+1≤4;omega,by simp only [ByteArray.size_append,sz1];omega,?_⟩
    rw [←hr,cJ bM,FK (by assumption),show decide ((i:Int) > 0)=true by assumption,show sm=true by assumption];rfl
   ·show 4 - (i+1) < 4 - i;omega
  ·have bM:=cg (by assumption)
   refine ⟨(i+1,out++aY (nth ab l i),true),[],?_,?_,?_⟩
   rotate_right
   ·exact rq
   ·refine ⟨by show i+1≤4;omega,by simp only [ByteArray.size_append,sz1];omega,?_⟩
    rw [←hr,cJ bM,FK (by assumption),show decide ((i:Int) > 0)=false by assumption,show sm=true by assumption];rfl
   ·show 4 - (i+1) < 4 - i;omega
  ·have bM:=cg (by assumption)
   refine ⟨(i+1,out++⟨#[44]⟩++aY (nth ab l i),!(ar (nth ab l i))),[],?_,?_,?_⟩
   rotate_right
   ·exact rq
   ·refine ⟨by show i+1≤4;omega,by simp only [ByteArray.size_append,sz1];omega,?_⟩
    rw [←hr,cJ bM,FK (by assumption),show decide ((i:Int) > 0)=true by assumption,show sm=false by assumption];rfl
   ·show 4 - (i+1) < 4 - i;omega
  ·have bM:=cg (by assumption)
   refine ⟨(i+1,out++aY (nth ab l i),!(ar (nth ab l i))),[],?_,?_,?_⟩
   rotate_right
   ·exact rq
   ·refine ⟨by show i+1≤4;omega,by simp only [ByteArray.size_append,sz1];omega,?_⟩
    rw [←hr,cJ bM,FK (by assumption),show decide ((i:Int) > 0)=false by assumption,show sm=false by assumption];rfl
   ·show 4 - (i+1) < 4 - i;omega
  ·refine ⟨[],[],_,_,_,rfl,rp,(),tv,?_,?_,rfl⟩
   ·(show _=ia l);unfold ia;first |(rw [hM,sB (ob (by assumption)),C1 (by assumption)];rfl) |rfl
   ·rfl
  ·refine ⟨[],[],_,_,_,rfl,rp,(),tv,?_,?_,rfl⟩
   ·(show _=ia l);unfold ia;first |(rw [hM,sB (ob (by assumption)),w0 (by assumption)];rfl) |rfl
   ·rfl
end GL
namespace GL
def dw:List ByteArray→ByteArray→ByteArray×Bool
 |[],out=>(out,true)
 |x::l,out=>bif decide ((x.size:Int) > 2048) then (⟨#[]⟩,false) else
  bif decide (((out++bQ x.size++⟨#[58]⟩++x).size:Int) > 2048) then (⟨#[]⟩,false) else dw l (out++bQ x.size++⟨#[58]⟩++x)
def cz (l:List ByteArray):ByteArray×Bool:=bif decide ((l.length:Int)≤60) then dw l ⟨#[]⟩ else (⟨#[]⟩,false)
theorem gv {l:List ByteArray} (h:decide ((l.length:Int)≤60)=true):cz l=dw l ⟨#[]⟩:=by unfold cz;rw [h];rfl
theorem tN {l:List ByteArray} (h:decide ((l.length:Int)≤60)=false):cz l=(⟨#[]⟩,false):=by unfold cz;rw [h];rfl
theorem M1 {x:ByteArray} {l:List ByteArray} {out:ByteArray} (h:decide ((x.size:Int) > 2048)=true):dw (x::l) out=(⟨#[]⟩,false):=by rw [dw,h];rfl
theorem M0 {x:ByteArray} {l:List ByteArray} {out:ByteArray} (h:decide (((out++bQ x.size++⟨#[58]⟩++x).size:Int) > 2048)=true):dw (x::l) out=(⟨#[]⟩,false):=by
 rw [dw,h];cases decide ((x.size:Int) > 2048)<;>rfl
theorem MZ {x:ByteArray} {l:List ByteArray} {out:ByteArray} (h:decide ((x.size:Int) > 2048)=false) (h2:decide (((out++bQ x.size++⟨#[58]⟩++x).size:Int) > 2048)=false):dw (x::l) out=dw l (out++bQ x.size++⟨#[58]⟩++x):=by rw [dw,h,h2];rfl
def ki (l:List ByteArray):Prop:=True
def eP (l:List ByteArray):AV:=.t [.s (.str (cz l).1), .s (.q (cz l).2)]
def OT (l:List ByteArray):List AV:=[]
def jz:Con where
 A:=[.s (.vz aa)]
 B:=[]
 pre:=fun x b=>ki x
 α:=fun _ _=>Unit
 φ:=fun _ _ _=>True
 r:=fun x b _=>eP x
 o:=fun x b _=>OT x
 nf:=0
set_option maxRecDepth 100000 in
theorem vC:Has Tryz.prog 114 jz:=by
 refine Has.ofE (fun _=>true) (fun _=>false) (fun _=>false) (l:=[(117,jW)]) ⟨wS,trivial⟩ (fn:=Tryz.f114) Tryz.func114 rfl (by decide) (cH rfl) ?_
 rintro (l:List ByteArray) _ (hp:ki l)
 show vc _ _ _ _ (entry [.s (.vz aa l)] []) _
 refine cI (l:=[(117,jW)]) (ex:=fun _=>true) (wr:=fun _=>false) (pt:=fun _=>false) ⟨wS,tv⟩ [.s 0] (fun y:Nat×ByteArray=>[(.s 4, .str y.2),(.s 5, .int y.1)]) (fun y=>y.1≤l.length∧y.2.size≤2048∧(l.length≤60→dw (l.drop y.1) y.2=dw l ⟨#[]⟩)∧(60 < l.length→y.1=0∧y.2=⟨#[]⟩)) (fun y=>l.length - y.1) (0,⟨#[]⟩) [] ⟨Nat.zero_le _,Nat.zero_le _,fun _=>rfl,fun _=>⟨rfl,rfl⟩⟩ ru ?_
 rintro ⟨i,out⟩ ⟨(hi:i≤l.length),(ho:out.size≤2048),(hr:l.length≤60→dw (l.drop i) out=dw l ⟨#[]⟩),(h0:60 < l.length→i=0∧out=⟨#[]⟩)⟩
 have cg:decide ((i:Int) < (l.length:Int))=true→i < l.length:=fun h=>by have:=cw h;omega
 have h60:decide ((l.length:Int)≤60)=true→l.length≤60:=fun h=>by have:=cw h;omega
 have cJ:i < l.length→l.drop i=nth aa l i::l.drop (i+1):=fun h=>bP (ek:=aa) h
 have hsm:decide (((nth aa l i).size:Int) > 2048)=false→(nth aa l i).size≤2048∧(bQ ((nth aa l i).size:Int)).size≤12:=fun h=>by
  have:=ca h
  exact ⟨by omega,cZ (by omega)⟩
 refine ⟨tv,fun w1=>⟨fun w2=>⟨⟨?_,?_⟩,fun w3=>?_,fun w4=>⟨[.s 4],[.s 23],rfl,[.s 0],[.s 24],rfl,[.s 5],[.s 25],rfl,[.s 24, .s 25],[.s 26],rfl,⟨?_,?_⟩,[.s 26],[.s 27],rfl,[.s 27],[.s 28],rfl,[.s 28],[.s 29],rfl,⟨⟨tv,tv⟩,?_,?_⟩,?_,fun x5 w6=>⟨[.s 23, .s 29],[.s 30],rfl,?_,[.s 30],[.s 31],rfl,?_,[.s 0],[.s 32],rfl,[.s 5],[.s 33],rfl,[.s 32, .s 33],[.s 34],rfl,⟨?_,?_⟩,[.s 34],[.s 35],rfl,[.s 31, .s 35],[.s 36],rfl,?_,[.s 36],[.s 4],rfl,fun w7=>?_,fun w8=>⟨⟨?_,?_⟩,?_⟩⟩⟩⟩,fun w9=>?_⟩,fun df=>?_⟩
 all_goals first|refine au ?_|refine aw ?_|exact sa|(dsimp only [jW,mJ];omega)|exact sb|(have:=hsm (by assumption);exact QN (show (out++bQ ((nth aa l i).size:Int)).size≤1000000 by rw [ByteArray.size_append];omega) (by rw [sz1];omega))|(have:=hsm (by assumption);exact QN (show (out++bQ ((nth aa l i).size:Int)++(⟨#[58]⟩:ByteArray)).size≤1000000 by rw [ByteArray.size_append,ByteArray.size_append,sz1];omega) (show (nth aa l i).size≤1000000 by omega))|skip
 ·have e:dw l ⟨#[]⟩=(⟨#[]⟩,false):=by rw [←hr (h60 (by assumption)),cJ (cg (by assumption)),M1 (by assumption)]
  refine ⟨[],[],_,_,_,rfl,rp,(),tv,?_,?_,rfl⟩
  ·(show _=eP l);unfold eP;first |(rw [gv (by assumption),e];rfl) |rfl
  ·rfl
 ·have e:dw l ⟨#[]⟩=(⟨#[]⟩,false):=by rw [←hr (h60 (by assumption)),cJ (cg (by assumption)),M0 (by assumption)]
  refine ⟨[],[],_,_,_,rfl,rp,(),tv,?_,?_,rfl⟩
  ·(show _=eP l);unfold eP;first |(rw [gv (by assumption),e];rfl) |rfl
  ·rfl
 ·have bM:=cg (by assumption)
  have h6:=h60 (by assumption)
  have hs2:¬(((out++bQ ((nth aa l i).size:Int)++(⟨#[58]⟩:ByteArray)++nth aa l i).size:Int) > 2048):=ca (by assumption)
  refine ⟨(i+1,out++bQ ((nth aa l i).size:Int)++⟨#[58]⟩++nth aa l i),[],?_,?_,?_⟩
  rotate_right
  ·exact rq
  ·refine ⟨bM,Int.ofNat_le.1 (Int.not_lt.1 hs2),fun h=>?_,fun h=>absurd h6 (by omega)⟩
   rw [←hr h,cJ bM,MZ (by assumption) (by assumption)]
  ·show l.length - (i+1) < l.length - i;omega
 ·have hd:decide ((l.length:Int)≤60)=false:=by assumption
  obtain ⟨rfl,rfl⟩:=h0 (by have:=ca hd;omega)
  refine ⟨[],[],_,_,_,rfl,rp,(),tv,?_,?_,rfl⟩
  ·(show _=eP l);unfold eP;first |((rw [tN hd];show AV.t [_,A0.s (SV.q (decide ((l.length:Int)≤60)))]=_;rw [hd];rfl)) |rfl
  ·rfl
 ·have FJ:¬i < l.length:=by have:=ca (p:=(i:Int) < (l.length:Int)) (by assumption);omega
  have h6:l.length≤60:=by
   by_cases h:l.length≤60
   ·exact h
   ·obtain ⟨h1,_⟩:=h0 (by omega);omega
  have hd:decide ((l.length:Int)≤60)=true:=decide_eq_true (by omega)
  have e:cz l=(out,true):=by rw [gv hd,←hr h6,List.drop_eq_nil_of_le (by omega)];rfl
  refine ⟨[],[],_,_,_,rfl,rp,(),tv,?_,?_,rfl⟩
  ·(show _=eP l);unfold eP;first |((rw [e];show AV.t [_,A0.s (SV.q (decide ((l.length:Int)≤60)))]=_;rw [hd];rfl)) |rfl
  ·rfl
end GL
namespace GL
def bb (n:Int):Int:=bif decide (n≤1) then 0 else bif decide (n≤4) then 1 else 2
def kl (k:Int):Int:=bif decide (k=1) then 12 else bif decide (k=2) then 128 else 0
def ba (size each:Int):Int:=(size+each - 1) / each
def bC (k s:Int):Int:=bif decide (kl k=0)|| !(ir s 0 (16 * kl k)) then -1 else ba s (kl k)
theorem vQ (k:Int):kl k=12∨kl k=128∨kl k=0:=by
 unfold kl
 cases decide (k=1)<;>cases decide (k=2)<;>simp
def eX (n:Int):Prop:=True
def uY (n:Int):AV:=.int (bb n)
def V9 (n:Int):List AV:=[]
def dx:Con where
 A:=[.s .int]
 B:=[]
 pre:=fun x b=>eX x
 α:=fun _ _=>Unit
 φ:=fun _ _ _=>True
 r:=fun x b _=>uY x
 o:=fun x b _=>V9 x
 nf:=0
set_option maxRecDepth 100000 in
theorem jM:Has Tryz.prog 27 dx:=by
 refine Has.ofE (fun _=>true) (fun _=>false) (fun _=>false) (l:=[]) trivial (fn:=Tryz.f27) Tryz.func27 rfl (by decide) (cH rfl) ?_
 rintro (n:Int) _ (hp:eX n)
 show vc _ _ _ _ (entry [.int n] []) _
 refine ⟨fun w1=>?_,fun w2=>⟨fun w3=>?_,fun w4=>?_⟩⟩
 all_goals first|refine au ?_|refine aw ?_|exact sa|exact sb|skip
 all_goals
  refine ⟨[],[],_,_,_,rfl,rp,(),tv,?_,?_,rfl⟩
  ·(show _=uY n);unfold uY;first |((simp only [bb, *];rfl)) |rfl
  ·rfl
def vg (k:Int):Prop:=True
def u5 (k:Int):AV:=.int (kl k)
def WJ (k:Int):List AV:=[]
def DB:Con where
 A:=[.s .int]
 B:=[]
 pre:=fun x b=>vg x
 α:=fun _ _=>Unit
 φ:=fun _ _ _=>True
 r:=fun x b _=>u5 x
 o:=fun x b _=>WJ x
 nf:=0
set_option maxRecDepth 100000 in
theorem abW:Has Tryz.prog 142 DB:=by
 refine Has.ofE (fun _=>true) (fun _=>false) (fun _=>false) (l:=[]) trivial (fn:=Tryz.f142) Tryz.func142 rfl (by decide) (cH rfl) ?_
 rintro (k:Int) _ (hp:vg k)
 show vc _ _ _ _ (entry [.int k] []) _
 refine ⟨fun w1=>?_,fun w2=>⟨fun w3=>?_,fun w4=>?_⟩⟩
 all_goals first|refine au ?_|refine aw ?_|exact sa|exact sb|skip
 all_goals
  refine ⟨[],[],_,_,_,rfl,rp,(),tv,?_,?_,rfl⟩
  ·(show _=u5 k);unfold u5;first |((simp only [kl, *];rfl)) |rfl
  ·rfl
def kg (a:Int) (b:Int):Prop:=0≤a∧a≤1000000∧0 < b∧b≤1000000
def rz (a:Int) (b:Int):AV:=.int (ba a b)
def OO (a:Int) (b:Int):List AV:=[]
def lq:Con where
 A:=[.s .int, .s .int]
 B:=[]
 pre:=fun x b=>kg (x.1) (x.2)
 α:=fun _ _=>Unit
 φ:=fun _ _ _=>True
 r:=fun x b _=>rz (x.1) (x.2)
 o:=fun x b _=>OO (x.1) (x.2)
 nf:=0
set_option maxRecDepth 100000 in
theorem DY:Has Tryz.prog 141 lq:=by
 refine Has.ofE (fun _=>true) (fun _=>false) (fun _=>false) (l:=[]) trivial (fn:=Tryz.f141) Tryz.func141 rfl (by decide) (cH rfl) ?_
 rintro ⟨(a:Int),(b:Int)⟩ _ (hp:kg a b)
 show vc _ _ _ _ (entry [.int a, .int b] []) _
 obtain ⟨h1,h2,h3,h4⟩:=hp
 refine ⟨⟨?_,?_⟩,⟨⟨?_,?_⟩,⟨⟨?_,⟨?_,?_⟩⟩,?_⟩⟩⟩
 all_goals first|refine au ?_|refine aw ?_|exact sa|exact sb|skip
 refine ⟨[],[],_,_,_,rfl,rp,(),tv,?_,?_,rfl⟩
 ·(show _=rz a b);unfold rz;first |rfl
 ·rfl
def pX (k:Int) (s:Int):Prop:=True
def pF (k:Int) (s:Int):AV:=.int (bC k s)
def KW (k:Int) (s:Int):List AV:=[]
def uf:Con where
 A:=[.s .int, .s .int]
 B:=[]
 pre:=fun x b=>pX (x.1) (x.2)
 α:=fun _ _=>Unit
 φ:=fun _ _ _=>True
 r:=fun x b _=>pF (x.1) (x.2)
 o:=fun x b _=>KW (x.1) (x.2)
 nf:=0
set_option maxRecDepth 100000 in
theorem PL:Has Tryz.prog 116 uf:=by
 refine Has.ofE (fun _=>true) (fun _=>false) (fun _=>false) (l:=[(142,DB),(24,dy),(141,lq)]) ⟨abW,im,DY,trivial⟩ (fn:=Tryz.f116) Tryz.func116 rfl (by decide) (cH rfl) ?_
 rintro ⟨(k:Int),(s:Int)⟩ _ (hp:pX k s)
 show vc _ _ _ _ (entry [.int k, .int s] []) _
 have hE:=vQ k
 have hI:(!(ir s 0 (16 * kl k)))=false→0≤s∧s≤2048:=fun h=>by
  have:=cn.1 (cB h)
  omega
 refine ⟨⟨⟨tv,tv⟩,tv⟩,fun x1 w2=>⟨tv,fun w3=>?_,fun w4=>⟨⟨?_,?_⟩,⟨⟨tv,tv,tv,tv⟩,tv⟩,fun x5 w6=>⟨fun w7=>?_,fun w8=>⟨⟨⟨tv,tv,tv⟩,?_,?_,?_,?_⟩,fun x9 df=>?_⟩⟩⟩⟩⟩
 all_goals first|refine au ?_|refine aw ?_|exact sa|(dsimp only [DB,vg];omega)|(dsimp only [dy,gO];omega)|(dsimp only [lq,kg];omega)|exact sb|(have:=hI (by assumption);have:=ca (p:=kl k=0) (by assumption);dsimp only [lq,kg];omega)|skip
 all_goals
  refine ⟨[],[],_,_,_,rfl,rp,(),tv,?_,?_,rfl⟩
  ·(show _=pF k s);unfold pF;first |((simp only [bC, *];rfl)) |rfl
  ·rfl
theorem xA (k s:Int): -1≤bC k s∧bC k s≤16:=by
 unfold bC
 cases h:decide (kl k=0)|| !(ir s 0 (16 * kl k)) with
 |true=>simp
 |false=>
  simp only [Bool.or_eq_false_iff,decide_eq_false_iff_not] at h
  have h2:=cn.1 (cB h.2)
  simp only [cond_false,ba]
  rcases vQ k with e |e |e
  ·rw [e] at h2 ⊢;omega
  ·rw [e] at h2 ⊢;omega
  ·exact absurd e h.1
abbrev fl.root (n:fl):Pt:=(n.2.2.2.1,n.2.2.2.2.1,n.2.2.2.2.2.1,n.2.2.2.2.2.2.1,n.2.2.2.2.2.2.2.1)
abbrev fl.tree (n:fl):aZ:=n.2.2.2
def cm (n:fl):Bool:=
 bif decide (bC n.1 n.2.2.1 < 0)||(decide (n.2.2.2.2.2.2.2.2.2≠bC n.1 n.2.2.1)||(decide (n.2.2.2.2.2.2.2.2.1≠bb (bC n.1 n.2.2.1))|| !(aV n.root))) then false
 else ir n.2.1 1 (bif decide (n.1=2) then 1 else 9)&&(ar n.root||decide (n.2.2.2.2.2.2.2.1=n.2.2.2.2.2.2.2.2.1))
def pY (n:fl):Prop:=True
def yf (n:fl):AV:=.q (cm n)
def abC (n:fl):List AV:=[]
def qu:Con where
 A:=[.a [.int, .int, .int, .int, .int, .int, .int, .int, .int, .int]]
 B:=[]
 pre:=fun x b=>pY x
 α:=fun _ _=>Unit
 φ:=fun _ _ _=>True
 r:=fun x b _=>yf x
 o:=fun x b _=>abC x
 nf:=0
set_option maxRecDepth 100000 in
theorem IP:Has Tryz.prog 76 qu:=by
 refine Has.ofE (fun _=>true) (fun _=>false) (fun _=>false) (l:=[(116,uf),(27,dx),(25,cS),(26,bc),(24,dy)]) ⟨PL,jM,iq,cr,im,trivial⟩ (fn:=Tryz.f76) Tryz.func76 rfl (by decide) (cH rfl) ?_
 rintro ⟨(n1:Int),(n2:Int),(n3:Int),(n4:Int),(n5:Int),(n6:Int),(n7:Int),(n8:Int),(n9:Int),(ck:Int)⟩ _ (hp:pY (n1,n2,n3,n4,n5,n6,n7,n8,n9,ck))
 show vc _ _ _ _ (entry [.a [.int n1, .int n2, .int n3, .int n4, .int n5, .int n6, .int n7, .int n8, .int n9, .int ck]] []) _
 have hbd:=xA n1 n3
 refine ⟨⟨⟨tv,tv,tv⟩,tv⟩,fun x1 w2=>⟨[.s 3],[.s 10],rfl,[.s 10],[.s 11],rfl,[.s 11],[.s 12],rfl,tv,fun w3=>⟨[.s 12],[.s 13],rfl,[.s 12],[.s 14],rfl,[.s 12],[.s 15],rfl,[.s 12],[.s 16],rfl,[.s 12],[.s 17],rfl,[.s 12, .s 17],[.s 18],rfl,[.s 18],[.s 19],rfl,[.s 19],[.s 20],rfl,[.s 19],[.s 21],rfl,[.s 19],[.s 22],rfl,[.s 19],[.s 23],rfl,[.s 19],[.s 24],rfl,[.s 19],[.s 25],rfl,[.s 19, .s 25],[.s 26],rfl,[.s 26],[.s 27],rfl,[.s 27],[.s 28],rfl,[.s 27],[.s 29],rfl,[.s 27],[.s 30],rfl,[.s 27],[.s 31],rfl,[.s 27],[.s 32],rfl,[.s 27, .s 32],[.s 33],rfl,?_⟩,fun w4=>⟨[.s 12, .s 1],[.s 13],rfl,[.s 12, .s 13],[.s 14],rfl,[.s 12, .s 14, .b 1001],[.s 15],rfl,[.s 12, .s 3],[.s 16],rfl,[.s 12, .s 15, .s 16],[.s 17],rfl,[.s 12, .s 17],[.s 18],rfl,[.s 18],[.s 19],rfl,tv,fun w5=>⟨[.s 19],[.s 20],rfl,[.s 19],[.s 21],rfl,[.s 19],[.s 22],rfl,[.s 19],[.s 23],rfl,[.s 19],[.s 24],rfl,[.s 19],[.s 25],rfl,[.s 19, .s 25],[.s 26],rfl,[.s 26],[.s 27],rfl,[.s 27],[.s 28],rfl,[.s 27],[.s 29],rfl,[.s 27],[.s 30],rfl,[.s 27],[.s 31],rfl,[.s 27],[.s 32],rfl,[.s 27, .s 32],[.s 33],rfl,?_⟩,fun w6=>⟨[.s 19, .s 1],[.s 20],rfl,[.s 19, .s 20],[.s 21],rfl,[.s 19, .s 21, .b 1001],[.s 22],rfl,[.s 19, .s 3],[.s 23],rfl,[.s 19, .s 23],[.s 24],rfl,⟨⟨tv,tv⟩,tv⟩,?_,fun x7 w8=>⟨[.s 19, .s 22, .s 24],[.s 25],rfl,[.s 19, .s 25],[.s 26],rfl,[.s 26],[.s 27],rfl,tv,fun w9=>⟨[.s 27],[.s 28],rfl,[.s 27],[.s 29],rfl,[.s 27],[.s 30],rfl,[.s 27],[.s 31],rfl,[.s 27],[.s 32],rfl,[.s 27, .s 32],[.s 33],rfl,?_⟩,fun df=>⟨[.s 27, .s 1],[.s 28],rfl,[.s 27, .s 28],[.s 29],rfl,[.s 27, .s 29, .b 1001],[.s 30],rfl,[.s 27, .s 30],[.s 31],rfl,⟨⟨⟨tv,tv,tv,tv,tv,tv⟩,tv⟩,tv⟩,?_,fun kx dC=>⟨[.s 27, .s 31],[.s 32],rfl,[.s 27, .s 32],[.s 33],rfl,fun iA=>?_,fun gx=>⟨fun oU=>⟨⟨⟨tv,tv,tv,tv⟩,tv⟩,fun x16 wu=>⟨tv,fun qI=>⟨⟨⟨⟨tv,tv,tv,tv,tv,tv⟩,tv⟩,tv⟩,fun x19 um=>⟨tv,fun zg=>?_,fun zf=>?_⟩⟩,fun xv=>?_⟩⟩,fun rl=>⟨⟨⟨tv,tv,tv,tv⟩,tv⟩,fun x25 EL=>⟨tv,fun w27=>⟨⟨⟨⟨tv,tv,tv,tv,tv,tv⟩,tv⟩,tv⟩,fun x28 w29=>⟨tv,fun w30=>?_,fun w31=>?_⟩⟩,fun w32=>?_⟩⟩⟩⟩⟩⟩⟩⟩⟩⟩
 all_goals first|refine au ?_|refine aw ?_|exact sa|(dsimp only [uf,pX];omega)|(dsimp only [dx,eX];omega)|(dsimp only [cS,dS];omega)|(dsimp only [bc,bW];omega)|(dsimp only [dy,gO];omega)|exact sb|skip
 all_goals
  refine ⟨[],[],_,_,_,rfl,rp,(),tv,?_,?_,rfl⟩
  ·(show _=yf (n1,n2,n3,n4,n5,n6,n7,n8,n9,ck));unfold yf;first |((simp only [cm, *];rfl)) |((simp [cm, *]<;>rfl)) |rfl
  ·rfl
theorem o9 (n:Int):0≤bb n∧bb n≤2:=by
 unfold bb
 cases decide (n≤1)<;>cases decide (n≤4)<;>simp
theorem lh {n:fl} (h:cm n=true):(1≤n.1∧n.1≤2)∧(1≤n.2.1∧n.2.1≤9)∧(0≤n.2.2.1∧n.2.2.1≤2048)∧(0≤n.2.2.2.2.2.2.2.2.1∧n.2.2.2.2.2.2.2.2.1≤2)∧(0≤n.2.2.2.2.2.2.2.2.2∧n.2.2.2.2.2.2.2.2.2≤16)∧aV n.root=true∧
  n.2.2.2.2.2.2.2.2.2=bC n.1 n.2.2.1∧n.2.2.2.2.2.2.2.2.1=bb n.2.2.2.2.2.2.2.2.2∧(ar n.root=true∨n.2.2.2.2.2.2.2.1=n.2.2.2.2.2.2.2.2.1):=by
 unfold cm at h
 cases hb:decide (bC n.1 n.2.2.1 < 0)||(decide (n.2.2.2.2.2.2.2.2.2≠bC n.1 n.2.2.1)||(decide (n.2.2.2.2.2.2.2.2.1≠bb (bC n.1 n.2.2.1))|| !(aV n.root))) with
 |true=>rw [hb] at h;cases h
 |false=>
  rw [hb,cond_false] at h
  simp only [Bool.or_eq_false_iff,decide_eq_false_iff_not,Decidable.not_not,Bool.not_eq_false] at hb
  obtain ⟨h1,h2,h3,h4⟩:=hb
  have h4:=cB h4
  simp only [Bool.and_eq_true,Bool.or_eq_true,decide_eq_true_eq] at h
  have h5:=cn.1 h.1
  have h6:=xA n.1 n.2.2.1
  have h7:=o9 (bC n.1 n.2.2.1)
  have hk:(1≤n.1∧n.1≤2)∧(0≤n.2.2.1∧n.2.2.1≤2048):=by
   unfold bC at h1
   cases hc:decide (kl n.1=0)|| !(ir n.2.2.1 0 (16 * kl n.1)) with
   |true=>rw [hc] at h1;exact absurd (show (-1:Int) < 0 by decide) h1
   |false=>
    simp only [Bool.or_eq_false_iff,decide_eq_false_iff_not] at hc
    have h8:=cn.1 (cB hc.2)
    have h9:=vQ n.1
    refine ⟨?_,by omega⟩
    by_cases e1:n.1=1
    ·omega
    ·by_cases e2:n.1=2
     ·omega
     ·exact absurd (by unfold kl;rw [decide_eq_false e1,decide_eq_false e2];rfl) hc.1
  have h10:(bif decide (n.1=2) then (1:Int) else 9)≤9:=by cases decide (n.1=2)<;>simp
  refine ⟨hk.1,⟨h5.1,by omega⟩,hk.2,by omega,by omega,h4,by omega,?_,h.2⟩
  rw [show n.2.2.2.2.2.2.2.2.2=bC n.1 n.2.2.1 by omega];omega
def az (n:fl):ByteArray:=bif cm n then (cz [bQ n.1,bQ n.2.1,bQ n.2.2.1,aY n.root,bQ n.2.2.2.2.2.2.2.2.1,bQ n.2.2.2.2.2.2.2.2.2,⟨#[101,110,100]⟩]).1 else ⟨#[]⟩
def qU (n:fl):Prop:=True
def nI (n:fl):AV:=.str (az n)
def WW (n:fl):List AV:=[]
def sK:Con where
 A:=[.a [.int, .int, .int, .int, .int, .int, .int, .int, .int, .int]]
 B:=[]
 pre:=fun x b=>qU x
 α:=fun _ _=>Unit
 φ:=fun _ _ _=>True
 r:=fun x b _=>nI x
 o:=fun x b _=>WW x
 nf:=0
set_option maxRecDepth 100000 in
theorem ML:Has Tryz.prog 77 sK:=by
 refine Has.ofE (fun _=>true) (fun _=>false) (fun _=>false) (l:=[(76,qu),(117,jW),(118,qq),(114,jz)]) ⟨IP,wS,IL,vC,trivial⟩ (fn:=Tryz.f77) Tryz.func77 rfl (by decide) (cH rfl) ?_
 rintro ⟨(n1:Int),(n2:Int),(n3:Int),(n4:Int),(n5:Int),(n6:Int),(n7:Int),(n8:Int),(n9:Int),(ck:Int)⟩ _ (hp:qU (n1,n2,n3,n4,n5,n6,n7,n8,n9,ck))
 show vc _ _ _ _ (entry [.a [.int n1, .int n2, .int n3, .int n4, .int n5, .int n6, .int n7, .int n8, .int n9, .int ck]] []) _
 by_cases cq:cm (n1,n2,n3,n4,n5,n6,n7,n8,n9,ck)=true
 ·obtain ⟨b1,b2,b3,b4,b5,b6,_,_,_⟩:=lh cq
  dsimp only at b1 b2 b3 b4 b5 b6
  refine ⟨⟨⟨⟨tv,tv,tv,tv,tv,tv,tv,tv,tv,tv,tv⟩,tv⟩,tv⟩,fun x1 w2=>⟨fun w3=>?_,fun w4=>⟨[.s 1],[.s 9],rfl,[.s 9, .b 1001],[.s 10],rfl,[.s 10],[.s 11],rfl,⟨⟨tv,tv⟩,?_,?_⟩,?_,fun x5 w6=>⟨[.s 1],[.s 12],rfl,[.s 12, .b 1001],[.s 13],rfl,[.s 13],[.s 14],rfl,⟨⟨tv,tv⟩,?_,?_⟩,?_,fun x7 w8=>⟨[.s 1],[.s 15],rfl,[.s 15, .b 1001],[.s 16],rfl,[.s 16],[.s 17],rfl,⟨⟨tv,tv⟩,?_,?_⟩,?_,fun x9 df=>⟨[.s 1],[.s 18],rfl,[.s 18],[.s 19],rfl,[.s 19, .b 1001],[.s 20],rfl,[.s 20],[.s 21],rfl,⟨⟨⟨tv,tv,tv,tv,tv,tv⟩,tv⟩,tv⟩,?_,fun kx dC=>⟨[.s 1],[.s 22],rfl,[.s 22],[.s 23],rfl,[.s 23, .b 1001],[.s 24],rfl,[.s 24],[.s 25],rfl,⟨⟨tv,tv⟩,?_,?_⟩,?_,fun rP gx=>⟨[.s 1],[.s 26],rfl,[.s 26],[.s 27],rfl,[.s 27, .b 1001],[.s 28],rfl,[.s 28],[.s 29],rfl,⟨⟨tv,tv⟩,?_,?_⟩,?_,fun ku j9=>⟨[.s 11, .s 14, .s 17, .s 21, .s 25, .s 29, .b 1030],[.s 30, .b 1030],rfl,tv,[.s 30, .b 1030],[.s 31],rfl,⟨⟨⟨?_,?_⟩,tv⟩,tv⟩,?_,fun x17 qI=>⟨[.s 31],[.s 8],rfl,[.s 8],[.s 32],rfl,[.s 8],[.s 33],rfl,[.s 32],[.s 3],rfl,[.s 33],[.s 4],rfl,?_⟩⟩⟩⟩⟩⟩⟩⟩⟩⟩
  all_goals first|refine au ?_|refine aw ?_|exact sa|(dsimp only [qu,pY];omega)|(dsimp only [jW,mJ];omega)|(dsimp only [qq,pW];omega)|(dsimp only [jz,ki];omega)|exact sb|skip
  ·rw [cq] at *;contradiction
  ·have e:az (n1,n2,n3,n4,n5,n6,n7,n8,n9,ck)=(cz [bQ n1,bQ n2,bQ n3,aY (n4,n5,n6,n7,n8),bQ n9,bQ ck,⟨#[101,110,100]⟩]).1:=by unfold az;rw [cq];rfl
   refine ⟨[],[],_,_,_,rfl,rp,(),tv,?_,?_,rfl⟩
   ·(show _=nI (n1,n2,n3,n4,n5,n6,n7,n8,n9,ck));unfold nI;first |(rw [e];rfl) |rfl
   ·rfl
 ·have uy:cm (n1,n2,n3,n4,n5,n6,n7,n8,n9,ck)=false:=by simpa using cq
  refine ⟨⟨⟨⟨tv,tv,tv,tv,tv,tv,tv,tv,tv,tv,tv⟩,tv⟩,tv⟩,fun x1 w2=>⟨fun w3=>?_,fun w4=>⟨[.s 1],[.s 9],rfl,[.s 9, .b 1001],[.s 10],rfl,[.s 10],[.s 11],rfl,⟨⟨tv,tv⟩,?_,?_⟩,?_,fun x5 w6=>⟨[.s 1],[.s 12],rfl,[.s 12, .b 1001],[.s 13],rfl,[.s 13],[.s 14],rfl,⟨⟨tv,tv⟩,?_,?_⟩,?_,fun x7 w8=>⟨[.s 1],[.s 15],rfl,[.s 15, .b 1001],[.s 16],rfl,[.s 16],[.s 17],rfl,⟨⟨tv,tv⟩,?_,?_⟩,?_,fun x9 df=>⟨[.s 1],[.s 18],rfl,[.s 18],[.s 19],rfl,[.s 19, .b 1001],[.s 20],rfl,[.s 20],[.s 21],rfl,⟨⟨⟨tv,tv,tv,tv,tv,tv⟩,tv⟩,tv⟩,?_,fun kx dC=>⟨[.s 1],[.s 22],rfl,[.s 22],[.s 23],rfl,[.s 23, .b 1001],[.s 24],rfl,[.s 24],[.s 25],rfl,⟨⟨tv,tv⟩,?_,?_⟩,?_,fun rP gx=>⟨[.s 1],[.s 26],rfl,[.s 26],[.s 27],rfl,[.s 27, .b 1001],[.s 28],rfl,[.s 28],[.s 29],rfl,⟨⟨tv,tv⟩,?_,?_⟩,?_,fun ku j9=>⟨[.s 11, .s 14, .s 17, .s 21, .s 25, .s 29, .b 1030],[.s 30, .b 1030],rfl,tv,[.s 30, .b 1030],[.s 31],rfl,⟨⟨⟨?_,?_⟩,tv⟩,tv⟩,?_,fun x17 qI=>⟨[.s 31],[.s 8],rfl,[.s 8],[.s 32],rfl,[.s 8],[.s 33],rfl,[.s 32],[.s 3],rfl,[.s 33],[.s 4],rfl,?_⟩⟩⟩⟩⟩⟩⟩⟩⟩⟩
  all_goals first|exact absurd (cB (by assumption)) cq|skip
  ·have e:az (n1,n2,n3,n4,n5,n6,n7,n8,n9,ck)=⟨#[]⟩:=by unfold az;rw [uy];rfl
   refine ⟨[],[],_,_,_,rfl,rp,(),tv,?_,?_,rfl⟩
   ·(show _=nI (n1,n2,n3,n4,n5,n6,n7,n8,n9,ck));unfold nI;first |(rw [e];rfl) |rfl
   ·rfl
end GL
end Go.Proofs.YtbfgjadbfjkcdaaGreatDoor
