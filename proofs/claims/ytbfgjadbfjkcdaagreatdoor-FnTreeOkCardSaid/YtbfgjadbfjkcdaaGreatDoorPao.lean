/- FnTreeOk returns true for every code (its row lists package variables, tied by the card): part 15 of 39. -/
import Derived.Test.YtbfgjadbfjkcdaaGreatDoorPan
set_option maxHeartbeats 20000000
set_option linter.all false
namespace Go.Proofs.YtbfgjadbfjkcdaaGreatDoor
namespace GL
def egB (w:List ByteArray) (i:Nat):List ByteArray:=bf (nth aa w i) 61
def egF:Nat→List ByteArray→Nat→List eU→Option (List eU)
 |0,_,_,out=>some out
 |f+1,w,i,out=>bif decide ((i:Int)+1 < (w.length:Int)) then
   (bif decide (((egB w i).length:Int)≠2) then none else egF f w (i+1) (out++[(nth aa (egB w i) 0,(aA (nth aa (egB w i) 1)).1)])) else some out
def EC (s:ByteArray) (out:List eU):List eU×Bool:=bif !(ez out)||decide (dW out≠s) then ([],false) else (out,true)
def cK (s:ByteArray):List eU×Bool:=match egF ((bf s 59).length) (bf s 59) 0 [] with
 |none=>([],false)
 |some out=>EC s out
theorem ajH {f:Nat} {w:List ByteArray} {i:Nat} {out:List eU} (h:decide ((i:Int)+1 < (w.length:Int))=true) (h2:decide (((egB w i).length:Int)≠2)=true):egF (f+1) w i out=none:=by rw [egF,h,h2];rfl
theorem ajG {f:Nat} {w:List ByteArray} {i:Nat} {out:List eU} (h:decide ((i:Int)+1 < (w.length:Int))=true) (h2:decide (((egB w i).length:Int)≠2)=false):egF (f+1) w i out=egF f w (i+1) (out++[(nth aa (egB w i) 0,(aA (nth aa (egB w i) 1)).1)]):=by rw [egF,h,h2];rfl
theorem ae4 {f:Nat} {w:List ByteArray} {i:Nat} {out:List eU} (h:decide ((i:Int)+1 < (w.length:Int))=false):egF f w i out=some out:=by
 cases f with
 |zero=>rfl
 |succ f=>rw [egF,h];rfl
theorem xH {s:ByteArray} (h:egF ((bf s 59).length) (bf s 59) 0 []=none):cK s=([],false):=by unfold cK;rw [h]
theorem nw {s:ByteArray} {out:List eU} (h:egF ((bf s 59).length) (bf s 59) 0 []=some out):cK s=EC s out:=by unfold cK;rw [h]
theorem aav {s:ByteArray} {out:List eU} (h:(!(ez out))=true):EC s out=([],false):=by unfold EC;rw [h];rfl
theorem aau {s:ByteArray} {out:List eU} (h:decide (dW out≠s)=true):EC s out=([],false):=by unfold EC;rw [h,Bool.or_true];rfl
theorem aaw {s:ByteArray} {out:List eU} (h:(!(ez out))=false) (h2:decide (dW out≠s)=false):EC s out=(out,true):=by unfold EC;rw [h,h2];rfl
theorem aaq {l:List eU}:∀ {f i:Nat},z6 f l i=true→∀k,i≤k→k < i+f→j8 l k=false
 |0,i,_,k,h1,h2=>by omega
 |f+1,i,h,k,h1,h2=>by
  cases hb:j8 l i with
  |true=>rw [PY hb] at h;cases h
  |false=>
   rw [X4 hb] at h
   by_cases e:k=i
   ·rw [e];exact hb
   ·exact aaq h k (by omega) (by omega)
theorem xG {l:List eU} (h:ez l=true):l.length≤12∧∀e∈l,fv e.1=true∧1≤e.2∧e.2≤15:=by
 unfold ez at h
 simp only [Bool.and_eq_true,decide_eq_true_eq] at h
 refine ⟨by omega,fun e he=>?_⟩
 obtain ⟨k,hk,rfl⟩:=List.mem_iff_getElem.1 he
 have hb:=aaq h.1 k (Nat.zero_le _) (by omega)
 unfold j8 at hb
 simp only [Bool.or_eq_false_iff,Bool.not_eq_false',cn] at hb
 have hn:nth aG l k=l[k]:=by
  have:=oB (ek:=aG) hk
  rw [List.getElem?_eq_getElem hk] at this
  exact (Option.some.inj this).symm
 rw [hn] at hb
 exact ⟨hb.1,hb.2.1⟩
theorem DV {s:ByteArray} (h:fv s=true):1≤s.size∧s.size≤4:=by
 unfold fv at h
 simp only [Bool.and_eq_true,cn] at h
 omega
theorem acs.akz {l:List eU} (h:ez l=true):acs l:=by
 obtain ⟨h1,h2⟩:=xG h
 refine ⟨by omega,fun e he=>?_,fun e he=>?_⟩
 ·have:=DV (h2 e he).1;omega
 ·have:=(h2 e he).2;omega
def lS (s:ByteArray):Prop:=s.size≤1000000
def dZ (s:ByteArray):AV:=.t [.s (.xs 0 2 0 (cK s).1.length), .s (.q (cK s).2)]
def eR (s:ByteArray):List AV:=[.rs aG (cK s).1]
def ug:Con where
 A:=[.s .str]
 B:=[]
 pre:=fun x b=>lS x
 α:=fun _ _=>Unit
 φ:=fun _ _ _=>True
 r:=fun x b _=>dZ x
 o:=fun x b _=>eR x
 nf:=1
set_option maxRecDepth 100000 in
theorem PN:Has Tryz.prog 152 ug:=by
 refine Has.ofE (fun _=>true) (fun _=>false) (fun _=>false) (l:=[(115,iv),(74,jy),(166,oj),(129,qn)]) ⟨tF,vB,D0,II,trivial⟩ (fn:=Tryz.f152) Tryz.func152 rfl (by decide) (cH rfl) ?_
 rintro (s:ByteArray) _ (hp:lS s)
 show vc _ _ _ _ (entry [.str s] []) _
 unfold lS at hp
 have hcl:=tU s 59
 have j7:=ra (s:=s) (c:=59)
 refine ⟨tv,⟨⟨tv,tv,tv⟩,?_⟩,fun x1 w2=>?_⟩
 all_goals first|refine au ?_|refine aw ?_|exact sa|(dsimp only [iv,iJ];omega)|(dsimp only [jy,gB];omega)|(dsimp only [oj,nt];omega)|(dsimp only [qn,pS];omega)|exact sb|skip
 refine cI (l:=[(115,iv),(74,jy),(166,oj),(129,qn)]) (ex:=fun _=>true) (wr:=fun _=>false) (pt:=fun _=>false) ⟨tF,vB,D0,II,trivial⟩ [.s 0, .s 5, .b 130000] (fun y:Nat×Nat×List eU=>[(.s 4, .s (.xs 1010 2 0 y.2.2.length)),(.s 6, .int y.1),(.b 1010, .rs aG y.2.2)]) (fun y=>(y.1+y.2.1=(bf s 59).length∧1≤y.2.1)∧y.2.2.length=y.1∧(∀e∈y.2.2,e.1.size≤1000000)∧egF y.2.1 (bf s 59) y.1 y.2.2=egF (bf s 59).length (bf s 59) 0 []) (fun y=>y.2.1) (0,(bf s 59).length,[]) [] ⟨⟨Nat.zero_add _,hcl.1⟩,rfl,(fun _ h=>by cases h),rfl⟩ ru ?_
 rintro ⟨i,f,out⟩ ⟨⟨(hi:i+f=(bf s 59).length),(hf1:1≤f)⟩,(hlo:out.length=i),(hos:∀e∈out,e.1.size≤1000000),(hr:egF f (bf s 59) i out=egF (bf s 59).length (bf s 59) 0 [])⟩
 have bM:decide ((i:Int)+1 < ((bf s 59).length:Int))=true→i < (bf s 59).length:=fun h=>by have:=cw h;omega
 have hxs:i < (bf s 59).length→(nth aa (bf s 59) i).size≤1000000:=fun h=>Nat.le_trans (j7 _ (bS (ek:=aa) h)) hp
 have hbl:=tU (nth aa (bf s 59) i) 61
 refine ⟨⟨?_,?_⟩,fun w1=>⟨⟨?_,?_⟩,?_,⟨⟨tv,tv,tv⟩,?_⟩,fun x2 w3=>⟨fun w4=>⟨tv,?_⟩,fun w5=>⟨⟨?_,?_⟩,?_,⟨⟨tv,tv⟩,?_⟩,fun x6 w7=>⟨⟨?_,?_⟩,?_,tv,⟨⟨?_,?_⟩,?_,?_⟩,⟨?_,?_⟩,?_⟩⟩⟩⟩,fun w8=>⟨⟨⟨⟨?_,?_⟩,tv⟩,?_⟩,fun x9 df=>⟨tv,fun ka=>⟨tv,?_⟩,fun dC=>⟨⟨⟨⟨?_,?_⟩,tv⟩,?_⟩,fun rP gx=>⟨fun oU=>⟨tv,?_⟩,fun j9=>?_⟩⟩⟩⟩⟩
 all_goals first|refine au ?_|refine aw ?_|exact sa|(dsimp only [iv,iJ];omega)|(dsimp only [jy,gB];omega)|(dsimp only [oj,nt];omega)|(dsimp only [qn,pS];omega)|exact sb|exact bM w1|exact hxs (bM w1)|skip
 ·obtain ⟨g,rfl⟩:∃g,f=g+1:=⟨f - 1,by have:=bM w1;omega⟩
  have e:cK s=([],false):=xH (by rw [←hr];exact ajH w1 w4)
  refine ⟨[1028],[],_,_,_,rfl,rp,(),tv,?_,?_,rfl⟩
  ·(show _=dZ s);unfold dZ;first |(rw [e];rfl) |rfl
  ·(show _=eR s);unfold eR;first |(rw [e];rfl) |rfl
 ·have h2:(bf (nth aa (bf s 59) i) 61).length=2:=by have:=ca (p:=((bf (nth aa (bf s 59) i) 61).length:Int)≠2) w5;omega
  show (1:Int) < ((bf (nth aa (bf s 59) i) 61).length:Int);omega
 ·have h2:(bf (nth aa (bf s 59) i) 61).length=2:=by have:=ca (p:=((bf (nth aa (bf s 59) i) 61).length:Int)≠2) w5;omega
  show 1 < (bf (nth aa (bf s 59) i) 61).length;omega
 ·have h2:(bf (nth aa (bf s 59) i) 61).length=2:=by have:=ca (p:=((bf (nth aa (bf s 59) i) 61).length:Int)≠2) w5;omega
  have h3:(nth aa (bf (nth aa (bf s 59) i) 61) 1).size≤1000000:=Nat.le_trans (ra (s:=(nth aa (bf s 59) i)) (c:=61) _ (bS (ek:=aa) (l:=bf (nth aa (bf s 59) i) 61) (k:=1) (by omega))) (hxs (bM w1))
  show ((nth aa (bf (nth aa (bf s 59) i) 61) 1).size:Int)≤1000000000000;omega
 ·obtain ⟨g,rfl⟩:∃g,f=g+1:=⟨f - 1,by have:=bM w1;omega⟩
  have h2:(bf (nth aa (bf s 59) i) 61).length=2:=by have:=ca (p:=((bf (nth aa (bf s 59) i) 61).length:Int)≠2) w5;omega
  refine ⟨(i+1,g,out++[(nth aa (egB (bf s 59) i) 0,(aA (nth aa (egB (bf s 59) i) 1)).1)]),[(1010,1043)],?_,?_,?_⟩
  rotate_right
  ·exact rq
  ·refine ⟨⟨by show i+1+g=(bf s 59).length;omega,by show 1≤g;have:=cw (p:=(i:Int)+1 < ((bf s 59).length:Int)) w1;omega⟩,by show (out++[_]).length=i+1;rw [List.length_append,hlo];rfl,fun e he=>?_,by rw [←hr];exact (ajG w1 w5).symm⟩
   rcases List.mem_append.1 he with he |he
   ·exact hos e he
   ·rw [List.mem_singleton.1 he]
    exact Nat.le_trans (ra (s:=(nth aa (bf s 59) i)) (c:=61) _ (bS (ek:=aa) (l:=bf (nth aa (bf s 59) i) 61) (k:=0) (by omega))) (hxs (bM w1))
  ·exact Nat.lt_succ_self g
 ·exact (⟨by show out.length≤1000000;have:=ca (p:=(i:Int)+1 < ((bf s 59).length:Int)) w8;omega,hos⟩:afF out)
 ·have e0:egF (bf s 59).length (bf s 59) 0 []=some out:=by rw [←hr];exact ae4 w8
  have e:cK s=([],false):=by rw [nw e0];exact aav ka
  refine ⟨[1053],[],_,_,_,rfl,rp,(),tv,?_,?_,rfl⟩
  ·(show _=dZ s);unfold dZ;first |(rw [e];rfl) |rfl
  ·(show _=eR s);unfold eR;first |(rw [e];rfl) |rfl
 ·exact acs.akz (cB dC)
 ·have e0:egF (bf s 59).length (bf s 59) 0 []=some out:=by rw [←hr];exact ae4 w8
  have e:cK s=([],false):=by rw [nw e0];exact aau oU
  refine ⟨[1053],[],_,_,_,rfl,rp,(),tv,?_,?_,rfl⟩
  ·(show _=dZ s);unfold dZ;first |(rw [e];rfl) |rfl
  ·(show _=eR s);unfold eR;first |(rw [e];rfl) |rfl
 ·have e0:egF (bf s 59).length (bf s 59) 0 []=some out:=by rw [←hr];exact ae4 w8
  have e:cK s=(out,true):=by rw [nw e0];exact aaw dC j9
  refine ⟨[1010],[],_,_,_,rfl,rp,(),tv,?_,?_,rfl⟩
  ·(show _=dZ s);unfold dZ;first |(rw [e];rfl) |rfl
  ·(show _=eR s);unfold eR;first |(rw [e];rfl) |rfl
end GL
namespace GL
def cl (n:Nat):List Pt:=List.replicate n bL
def kY (n:Int):Prop:=0≤n∧n≤1000
def uX (n:Int):AV:=.s (.xs 0 5 0 (cl n.toNat).length)
def yv (n:Int):List AV:=[.rs ab (cl n.toNat)]
def jU:Con where
 A:=[.s .int]
 B:=[]
 pre:=fun x b=>kY x
 α:=fun _ _=>Unit
 φ:=fun _ _ _=>True
 r:=fun x b _=>uX x
 o:=fun x b _=>yv x
 nf:=1
set_option maxRecDepth 100000 in
theorem wQ:Has Tryz.prog 78 jU:=by
 refine Has.ofE (fun _=>true) (fun _=>false) (fun _=>false) (l:=[]) trivial (fn:=Tryz.f78) Tryz.func78 rfl (by decide) (cH rfl) ?_
 rintro (n:Int) _ (hp:kY n)
 show vc _ _ _ _ (entry [.int n] []) _
 obtain ⟨h1,h2⟩:=hp
 refine ⟨⟨?_,⟨?_,?_⟩⟩,?_⟩
 all_goals first|refine au ?_|refine aw ?_|exact sa|exact sb|skip
 refine ⟨[1004],[],_,_,_,rfl,rp,(),tv,?_,?_,rfl⟩
 ·(show _=uX n);unfold uX;first |(rw [show (cl n.toNat).length=n.toNat from List.length_replicate];rfl) |rfl
 ·(show _=yv n);unfold yv;first |(rw [show (cl n.toNat).length=n.toNat from List.length_replicate];rfl) |rfl
structure ax.rd (s:ax):Prop where
 len:s.rows.length=64
 sz:∀x∈s.rows,x.size≤1000000
theorem zu {s:ax} {p:Pt} (h:s.rd):(bA s p).1.size≤1000000:=by
 unfold bA
 cases ar p with
 |true=>exact Nat.zero_le _
 |false=>
  cases iP p (nth aa s.rows p.1.toNat) with
  |true=>
   show (nth aa s.rows p.1.toNat).size≤1000000
   by_cases hk:p.1.toNat < s.rows.length
   ·exact h.2 _ (bS (ek:=aa) hk)
   ·unfold nth;rw [List.getElem?_eq_none (by omega)];exact Nat.zero_le _
  |false=>exact Nat.zero_le _
def oE (p:Pt) (r:List Pt×Bool):List Pt×Bool:=bif r.1.any (fun q=>decide (q.2.1 > p.2.1)) then ([],false) else r
def a8 (s:ax) (p:Pt) (lv:Int):List Pt×Bool:=
 bif ar p then (cl 4,true) else
 bif !(aV p)||(decide (p.2.2.2.2≠lv)||decide (p.2.1 > s.bY)) then ([],false) else
 bif !(bA s p).2 then ([],false) else oE p (bd (bA s p).1)
theorem kq {s:ax} {p:Pt} {lv:Int} (h:ar p=true):a8 s p lv=(cl 4,true):=by unfold a8;rw [h];rfl
theorem KC {s:ax} {p:Pt} {lv:Int} (h:ar p=false) (h1:(!(aV p))=true):a8 s p lv=([],false):=by unfold a8;rw [h,h1];rfl
theorem wa {s:ax} {p:Pt} {lv:Int} (h:ar p=false) (h1:decide (p.2.2.2.2≠lv)=true):a8 s p lv=([],false):=by unfold a8;rw [h,h1,Bool.true_or,Bool.or_true];rfl
theorem AE {s:ax} {p:Pt} {lv:Int} (h:ar p=false) (h1:decide (p.2.1 > s.bY)=true):a8 s p lv=([],false):=by unfold a8;rw [h,h1,Bool.or_true,Bool.or_true];rfl
theorem v8 {s:ax} {p:Pt} {lv:Int} (h:ar p=false) (h1:(!(aV p))=false) (h2:decide (p.2.2.2.2≠lv)=false) (h3:decide (p.2.1 > s.bY)=false) (h4:(!(bA s p).2)=true):a8 s p lv=([],false):=by unfold a8;rw [h,h1,h2,h3,h4];rfl
theorem v7 {s:ax} {p:Pt} {lv:Int} (h:ar p=false) (h1:(!(aV p))=false) (h2:decide (p.2.2.2.2≠lv)=false) (h3:decide (p.2.1 > s.bY)=false) (h4:(!(bA s p).2)=false):a8 s p lv=oE p (bd (bA s p).1):=by unfold a8;rw [h,h1,h2,h3,h4];rfl
theorem vM (s:ByteArray):(bd s).1.length≤4∧((bd s).2=true→(bd s).1.length=4):=by
 unfold bd
 cases oh (bf s 44) [] false with
 |none=>exact ⟨Nat.zero_le _,fun h=>by cases h⟩
 |some r=>
  obtain ⟨o,sm⟩:=r
  show (l9 o sm).1.length≤4∧((l9 o sm).2=true→(l9 o sm).1.length=4)
  unfold l9
  cases hc:decide ((o.length:Int)≠4)|| !sm with
  |true=>exact ⟨Nat.zero_le _,fun h=>by cases h⟩
  |false=>
   simp only [Bool.or_eq_false_iff,decide_eq_false_iff_not,Decidable.not_not] at hc
   have:o.length=4:=by omega
   exact ⟨by show o.length≤4;omega,fun _=>this⟩
abbrev late (p:Pt):Pt→Bool:=fun q=>decide (q.2.1 > p.2.1)
theorem wb {p:Pt} {r:List Pt×Bool} (h:r.1.any (late p)=true):oE p r=([],false):=by unfold oE;rw [h];rfl
theorem sM {p:Pt} {r:List Pt×Bool} (h:r.1.any (late p)=false):oE p r=r:=by unfold oE;rw [h];rfl
theorem YN {l:List Pt} {f:Pt→Bool} {i:Nat} (hi:i < l.length) (hr:(l.drop i).any f=l.any f) (h:f (nth ab l i)=true):l.any f=true:=by
 rw [←hr,bP (ek:=ab) hi,List.any_cons,h];rfl
theorem afC {l:List Pt} {f:Pt→Bool} {i:Nat} (hi:i < l.length) (hr:(l.drop i).any f=l.any f) (h:f (nth ab l i)=false):(l.drop (i+1)).any f=l.any f:=by
 rw [←hr,bP (ek:=ab) hi,List.any_cons,h];rfl
theorem YO {l:List Pt} {f:Pt→Bool} {i:Nat} (hi:¬i < l.length) (hr:(l.drop i).any f=l.any f):l.any f=false:=by
 rw [←hr,List.drop_eq_nil_of_le (by omega)];rfl
def fx (S:ax) (p:Pt) (lv:Int):Prop:=S.rd
def dh (S:ax) (p:Pt) (lv:Int):AV:=.t [.s (.xs 0 5 0 (a8 S p lv).1.length), .s (.q (a8 S p lv).2)]
def dP (S:ax) (p:Pt) (lv:Int):List AV:=[.rs ab (a8 S p lv).1]
def dU:Con where
 A:=[.a xw, .a [.int, .int, .int, .int, .int], .s .int]
 B:=[]
 pre:=fun x b=>fx (x.1) (x.2.1) (x.2.2)
 α:=fun _ _=>Unit
 φ:=fun _ _ _=>True
 r:=fun x b _=>dh (x.1) (x.2.1) (x.2.2)
 o:=fun x b _=>dP (x.1) (x.2.1) (x.2.2)
 nf:=1
set_option maxRecDepth 100000 in
theorem lk:Has Tryz.prog 56 dU:=by
 refine Has.ofE (fun _=>true) (fun _=>false) (fun _=>false) (l:=[(26,bc),(78,jU),(25,cS),(29,et),(89,vZ)]) ⟨cr,wQ,iq,lZ,TR,trivial⟩ (fn:=Tryz.f56) Tryz.func56 rfl (by decide) (cH rfl) ?_
 rintro ⟨⟨(ai:List ByteArray),(aj:List Int),(ak:List Int),(an:Int),(ag:List Pt),(ao:Int),(ah:List Pt),(aq:Bool)⟩,⟨(p1:Int),(p2:Int),(p3:Int),(p4:Int),(p5:Int)⟩,(lv:Int)⟩ _ (hp:fx (ai,aj,ak,an,ag,ao,ah,aq) (p1,p2,p3,p4,p5) lv)
 show vc _ _ _ _ (entry [.a [.vz aa ai, .vz ae aj, .vz ae ak, .int an, .vz ab ag, .int ao, .vz ab ah, .q aq], .a [.int p1, .int p2, .int p3, .int p4, .int p5], .int lv] []) _
 have dA:ax.rd (ai,aj,ak,an,ag,ao,ah,aq):=hp
 have hlen:ai.length=64:=dA.1
 have db:∀q,(bA (ai,aj,ak,an,ag,ao,ah,aq) q).1.size≤1000000:=fun q=>zu dA
 have xE:ar (p1,p2,p3,p4,p5)=false→(!(aV (p1,p2,p3,p4,p5)))=false→0≤p1∧p1 < 64:=fun h h1=>by
  have:=pJ (cB h1);dsimp only at this;omega
 refine ⟨⟨⟨⟨tv,tv,tv,tv,tv,tv⟩,tv⟩,tv⟩,fun x1 w2=>⟨fun w3=>⟨⟨⟨tv,tv⟩,?_,?_⟩,fun x4 w5=>?_⟩,fun w6=>⟨⟨⟨⟨tv,tv,tv,tv,tv,tv⟩,tv⟩,tv⟩,fun x7 w8=>⟨tv,fun w9=>⟨tv,?_⟩,fun df=>⟨tv,fun ka=>⟨tv,?_⟩,fun dC=>⟨fun iA=>⟨tv,?_⟩,fun gx=>⟨⟨⟨⟨tv,tv,tv,tv,tv,tv,tv,tv,tv⟩,⟨tv,tv,tv,tv,tv,tv⟩,tv⟩,fun ku j9=>?_,?_,?_⟩,fun x17 qI=>⟨fun ot=>⟨tv,?_⟩,fun um=>⟨⟨⟨tv,tv⟩,?_⟩,fun x21 zf=>?_⟩⟩⟩⟩⟩⟩⟩⟩⟩
 all_goals first|refine au ?_|refine aw ?_|exact sa|(dsimp only [bc,bW];omega)|(dsimp only [jU,kY];omega)|(dsimp only [cS,dS];omega)|(dsimp only [et,fN];omega)|(dsimp only [vZ,pZ];omega)|exact sb|exact dA.2 _ (by assumption)|exact (xE w6 df).1|(have:=(xE w6 df).2;show p1 < (ai.length:Int);omega)|skip
 ·refine ⟨[160000],[],_,_,_,rfl,rp,(),tv,?_,?_,rfl⟩
  ·(show _=dh (ai,aj,ak,an,ag,ao,ah,aq) (p1,p2,p3,p4,p5) lv);unfold dh;first |(rw [kq w3];rfl) |rfl
  ·(show _=dP (ai,aj,ak,an,ag,ao,ah,aq) (p1,p2,p3,p4,p5) lv);unfold dP;first |(rw [kq w3];rfl) |rfl
 ·refine ⟨[1032],[],_,_,_,rfl,rp,(),tv,?_,?_,rfl⟩
  ·(show _=dh (ai,aj,ak,an,ag,ao,ah,aq) (p1,p2,p3,p4,p5) lv);unfold dh;first |(rw [KC w6 w9];rfl) |rfl
  ·(show _=dP (ai,aj,ak,an,ag,ao,ah,aq) (p1,p2,p3,p4,p5) lv);unfold dP;first |(rw [KC w6 w9];rfl) |rfl
 ·refine ⟨[1032],[],_,_,_,rfl,rp,(),tv,?_,?_,rfl⟩
  ·(show _=dh (ai,aj,ak,an,ag,ao,ah,aq) (p1,p2,p3,p4,p5) lv);unfold dh;first |(rw [wa w6 ka];rfl) |rfl
  ·(show _=dP (ai,aj,ak,an,ag,ao,ah,aq) (p1,p2,p3,p4,p5) lv);unfold dP;first |(rw [wa w6 ka];rfl) |rfl
 ·refine ⟨[1032],[],_,_,_,rfl,rp,(),tv,?_,?_,rfl⟩
  ·(show _=dh (ai,aj,ak,an,ag,ao,ah,aq) (p1,p2,p3,p4,p5) lv);unfold dh;first |(rw [AE w6 iA];rfl) |rfl
  ·(show _=dP (ai,aj,ak,an,ag,ao,ah,aq) (p1,p2,p3,p4,p5) lv);unfold dP;first |(rw [AE w6 iA];rfl) |rfl
 ·refine ⟨[1041],[],_,_,_,rfl,rp,(),tv,?_,?_,rfl⟩
  ·(show _=dh (ai,aj,ak,an,ag,ao,ah,aq) (p1,p2,p3,p4,p5) lv);unfold dh;first |(rw [v8 (s:=(ai,aj,ak,an,ag,ao,ah,aq)) (p:=(p1,p2,p3,p4,p5)) w6 df dC gx ot];rfl) |rfl
  ·(show _=dP (ai,aj,ak,an,ag,ao,ah,aq) (p1,p2,p3,p4,p5) lv);unfold dP;first |(rw [v8 (s:=(ai,aj,ak,an,ag,ao,ah,aq)) (p:=(p1,p2,p3,p4,p5)) w6 df dC gx ot];rfl) |rfl
 ·exact db _
 ·have hB:=v7 (s:=(ai,aj,ak,an,ag,ao,ah,aq)) (p:=(p1,p2,p3,p4,p5)) (lv:=lv) w6 df dC gx um
  have hF:=(vM (bA (ai,aj,ak,an,ag,ao,ah,aq) (p1,p2,p3,p4,p5)).1).1
  refine cI (l:=[(26,bc),(78,jU),(25,cS),(29,et),(89,vZ)]) (ex:=fun _=>true) (wr:=fun _=>false) (pt:=fun _=>false) ⟨cr,wQ,iq,lZ,TR,tv⟩ [.s 4, .b 1004, .s 10, .s 11, .b 450000] (fun i:Nat=>[(.s 12, .int i)]) (fun i=>i≤(bd (bA (ai,aj,ak,an,ag,ao,ah,aq) (p1,p2,p3,p4,p5)).1).1.length∧((bd (bA (ai,aj,ak,an,ag,ao,ah,aq) (p1,p2,p3,p4,p5)).1).1.drop i).any (late (p1,p2,p3,p4,p5))=(bd (bA (ai,aj,ak,an,ag,ao,ah,aq) (p1,p2,p3,p4,p5)).1).1.any (late (p1,p2,p3,p4,p5))) (fun i=>(bd (bA (ai,aj,ak,an,ag,ao,ah,aq) (p1,p2,p3,p4,p5)).1).1.length - i) 0 [] ⟨Nat.zero_le _,rfl⟩ ru ?_
  rintro i ⟨hi,hr⟩
  have cg:decide ((i:Int) < ((bd (bA (ai,aj,ak,an,ag,ao,ah,aq) (p1,p2,p3,p4,p5)).1).1.length:Int))=true→i < (bd (bA (ai,aj,ak,an,ag,ao,ah,aq) (p1,p2,p3,p4,p5)).1).1.length:=fun h=>by have:=cw h;omega
  have ob:decide ((i:Int) < ((bd (bA (ai,aj,ak,an,ag,ao,ah,aq) (p1,p2,p3,p4,p5)).1).1.length:Int))=false→¬i < (bd (bA (ai,aj,ak,an,ag,ao,ah,aq) (p1,p2,p3,p4,p5)).1).1.length:=fun h=>by have:=ca h;omega
  refine ⟨fun w1=>⟨[.s 10],[.s 53],rfl,[.s 12],[.s 54],rfl,[.s 53, .s 54],[.s 55],rfl,⟨?_,?_⟩,[.s 55],[.s 56],rfl,[.s 56, .b 450000],[.s 57],rfl,?_,[.s 4],[.s 58],rfl,[.s 58, .b 1004],[.s 59],rfl,[.s 57, .s 59],[.s 60],rfl,fun w2=>⟨tv,?_⟩,fun w3=>⟨⟨?_,?_⟩,?_⟩⟩,fun w4=>?_⟩
  all_goals first|refine au ?_|refine aw ?_|exact sa|(dsimp only [bc,bW];omega)|(dsimp only [jU,kY];omega)|(dsimp only [cS,dS];omega)|(dsimp only [et,fN];omega)|(dsimp only [vZ,pZ];omega)|exact sb|exact cg w1|exact cw w1|skip
  ·refine ⟨[1061],[],_,_,_,rfl,rp,(),tv,?_,?_,rfl⟩
   ·(show _=dh (ai,aj,ak,an,ag,ao,ah,aq) (p1,p2,p3,p4,p5) lv);unfold dh;first |(rw [hB,wb (YN (cg w1) hr w2)];rfl) |rfl
   ·(show _=dP (ai,aj,ak,an,ag,ao,ah,aq) (p1,p2,p3,p4,p5) lv);unfold dP;first |(rw [hB,wb (YN (cg w1) hr w2)];rfl) |rfl
  ·refine ⟨(i+1),[],?_,?_,?_⟩
   rotate_right
   ·exact rq
   ·exact ⟨cg w1,afC (cg w1) hr w3⟩
   ·show (bd (bA (ai,aj,ak,an,ag,ao,ah,aq) (p1,p2,p3,p4,p5)).1).1.length - (i+1) < (bd (bA (ai,aj,ak,an,ag,ao,ah,aq) (p1,p2,p3,p4,p5)).1).1.length - i;have:=cg w1;omega
  ·refine ⟨[450000],[],_,_,_,rfl,rp,(),tv,?_,?_,rfl⟩
   ·(show _=dh (ai,aj,ak,an,ag,ao,ah,aq) (p1,p2,p3,p4,p5) lv);unfold dh;first |(rw [hB,sM (YO (ob w4) hr)];rfl) |rfl
   ·(show _=dP (ai,aj,ak,an,ag,ao,ah,aq) (p1,p2,p3,p4,p5) lv);unfold dP;first |(rw [hB,sM (YO (ob w4) hr)];rfl) |rfl
end GL
namespace GL
def fo (s:ax) (lv:Int):List Pt→List Pt→Option (List Pt)
 |[],acc=>some acc
 |p::l,acc=>bif (a8 s p lv).2 then fo s lv l (acc++(a8 s p lv).1) else none
def tE (s:ax):Nat→Int→List Pt→List Pt×Bool
 |0,_,l=>(l,true)
 |f+1,lv,l=>bif decide (lv > 0) then (match fo s lv l [] with
  |none=>([],false)
  |some n=>tE s f (lv - 1) n) else (l,true)
abbrev aZ.root (t:aZ):Pt:=(t.1,t.2.1,t.2.2.1,t.2.2.2.1,t.2.2.2.2.1)
abbrev aZ.depth (t:aZ):Int:=t.2.2.2.2.2.1
abbrev aZ.many (t:aZ):Int:=t.2.2.2.2.2.2
def bn (s:ax) (t:aZ):List Pt×Bool:=tE s 3 t.depth [t.root]
theorem H4 {s:ax} {f:Nat} {lv:Int} {l:List Pt} (h:decide (lv > 0)=true) (h2:fo s lv l []=none):tE s (f+1) lv l=([],false):=by rw [tE,h,h2];rfl
theorem CD {s:ax} {f:Nat} {lv:Int} {l n:List Pt} (h:decide (lv > 0)=true) (h2:fo s lv l []=some n):tE s (f+1) lv l=tE s f (lv - 1) n:=by rw [tE,h,h2];rfl
theorem vu {s:ax} {f:Nat} {lv:Int} {l:List Pt} (h:decide (lv > 0)=false):tE s (f+1) lv l=(l,true):=by rw [tE,h];rfl
theorem N0 {s:ax} {lv:Int} {p:Pt} {l acc:List Pt} (h:(!(a8 s p lv).2)=true):fo s lv (p::l) acc=none:=by rw [fo,xk h];rfl
theorem NZ {s:ax} {lv:Int} {p:Pt} {l acc:List Pt} (h:(!(a8 s p lv).2)=false):fo s lv (p::l) acc=fo s lv l (acc++(a8 s p lv).1):=by rw [fo,cB h];rfl
theorem iz (s:ax) (p:Pt) (lv:Int):(a8 s p lv).1.length≤4∧((a8 s p lv).2=true→(a8 s p lv).1.length=4):=by
 have h0:([]:List Pt).length≤4∧(false=true→([]:List Pt).length=4):=⟨Nat.zero_le _,fun h=>by cases h⟩
 unfold a8
 cases ar p with
 |true=>exact ⟨Nat.le_refl _,fun _=>rfl⟩
 |false=>
  cases !(aV p)||(decide (p.2.2.2.2≠lv)||decide (p.2.1 > s.bY)) with
  |true=>exact h0
  |false=>
   cases !(bA s p).2 with
   |true=>exact h0
   |false=>
    show (oE p (bd (bA s p).1)).1.length≤4∧((oE p (bd (bA s p).1)).2=true→(oE p (bd (bA s p).1)).1.length=4)
    unfold oE
    cases (bd (bA s p).1).1.any (late p) with
    |true=>exact h0
    |false=>exact vM _
theorem rT {s:ax} {lv:Int}:∀ {l acc n:List Pt},fo s lv l acc=some n→n.length=acc.length+4 * l.length
 |[],acc,n,h=>by cases h;rfl
 |p::l,acc,n,h=>by
  unfold fo at h
  cases hb:(a8 s p lv).2 with
  |true=>
   rw [hb,cond_true] at h
   rw [rT h,List.length_append,(iz s p lv).2 hb,List.length_cons];omega
  |false=>rw [hb] at h;cases h
def ah4 (lv:Int) (n:Nat):Prop:=n≤16∧(1≤lv→n≤4)∧(2≤lv→n≤1)
def lM (S:ax) (t:aZ):Prop:=S.rd∧t.depth≤2
def lD (S:ax) (t:aZ):AV:=.t [.s (.xs 0 5 0 (bn S t).1.length), .s (.q (bn S t).2)]
def nR (S:ax) (t:aZ):List AV:=[.rs ab (bn S t).1]
def kP:Con where
 A:=[.a xw, .a [.int, .int, .int, .int, .int, .int, .int]]
 B:=[]
 pre:=fun x b=>lM (x.1) (x.2)
 α:=fun _ _=>Unit
 φ:=fun _ _ _=>True
 r:=fun x b _=>lD (x.1) (x.2)
 o:=fun x b _=>nR (x.1) (x.2)
 nf:=1
set_option maxRecDepth 100000 in
theorem yK:Has Tryz.prog 28 kP:=by
 refine Has.ofE (fun _=>true) (fun _=>false) (fun _=>false) (l:=[(56,dU)]) ⟨lk,trivial⟩ (fn:=Tryz.f28) Tryz.func28 rfl (by decide) (cH rfl) ?_
 rintro ⟨⟨(ai:List ByteArray),(aj:List Int),(ak:List Int),(an:Int),(ag:List Pt),(ao:Int),(ah:List Pt),(aq:Bool)⟩,⟨(t1:Int),(t2:Int),(t3:Int),(t4:Int),(t5:Int),(t6:Int),(t7:Int)⟩⟩ _ (hp:lM (ai,aj,ak,an,ag,ao,ah,aq) (t1,t2,t3,t4,t5,t6,t7))
 show vc _ _ _ _ (entry [.a [.vz aa ai, .vz ae aj, .vz ae ak, .int an, .vz ab ag, .int ao, .vz ab ah, .q aq], .a [.int t1, .int t2, .int t3, .int t4, .int t5, .int t6, .int t7]] []) _
 obtain ⟨dA,(ala:t6≤2)⟩:=hp
 have dA:ax.rd (ai,aj,ak,an,ag,ao,ah,aq):=dA
 refine ⟨tv,?_⟩
 all_goals first|refine au ?_|refine aw ?_|exact sa|(dsimp only [dU,fx];omega)|exact sb|skip
 refine cI (l:=[(56,dU)]) (ex:=fun _=>true) (wr:=fun _=>false) (pt:=fun _=>false) ⟨lk,trivial⟩ [.s 2, .b 1002] (fun y:Int×List Pt×Nat=>[(.s 6, .s (.xs 1014 5 0 y.2.1.length)),(.s 7, .int y.1),(.b 1014, .rs ab y.2.1)]) (fun y=>y.1≤2∧ah4 y.1 y.2.1.length∧y.1 < y.2.2∧tE (ai,aj,ak,an,ag,ao,ah,aq) y.2.2 y.1 y.2.1=bn (ai,aj,ak,an,ag,ao,ah,aq) (t1,t2,t3,t4,t5,t6,t7)) (fun y=>y.1.toNat) (t6,[(t1,t2,t3,t4,t5)],3) [] ⟨ala,⟨by show 1≤16;omega,fun _=>by show 1≤4;omega,fun _=>Nat.le_refl _⟩,by show t6 < (3:Nat);omega,rfl⟩ ru ?_
 rintro ⟨lv,l,f⟩ ⟨(FH:lv≤2),(TY:ah4 lv l.length),(hf:lv < (f:Int)),(hr:tE (ai,aj,ak,an,ag,ao,ah,aq) f lv l=bn (ai,aj,ak,an,ag,ao,ah,aq) (t1,t2,t3,t4,t5,t6,t7))⟩
 refine ⟨fun w1=>⟨tv,?_⟩,fun w2=>?_⟩
 all_goals first|refine au ?_|refine aw ?_|exact sa|(dsimp only [dU,fx];omega)|exact sb|skip
 ·have mV:decide (lv > 0)=true:=w1
  have h1:lv > 0:=cw w1
  obtain ⟨g,rfl⟩:∃g,f=g+1:=⟨f - 1,by omega⟩
  refine cI (l:=[(56,dU)]) (ex:=fun _=>true) (wr:=fun _=>false) (pt:=fun _=>false) ⟨lk,tv⟩ [.s 2, .b 1002, .s 6, .s 7, .b 1014] (fun y:Nat×List Pt=>[(.s 8, .s (.xs 1021 5 0 y.2.length)),(.s 9, .int y.1),(.b 1021, .rs ab y.2)]) (fun y=>y.1≤l.length∧y.2.length=4 * y.1∧fo (ai,aj,ak,an,ag,ao,ah,aq) lv (l.drop y.1) y.2=fo (ai,aj,ak,an,ag,ao,ah,aq) lv l []) (fun y=>l.length - y.1) (0,[]) [] ⟨Nat.zero_le _,rfl,rfl⟩ ru ?_
  rintro ⟨i,acc⟩ ⟨(hi:i≤l.length),(ab7:acc.length=4 * i),(hs:fo (ai,aj,ak,an,ag,ao,ah,aq) lv (l.drop i) acc=fo (ai,aj,ak,an,ag,ao,ah,aq) lv l [])⟩
  have cg:decide ((i:Int) < (l.length:Int))=true→i < l.length:=fun h=>by have:=cw h;omega
  have alq:=TY.2.1 (by omega)
  have hlen:=(iz (ai,aj,ak,an,ag,ao,ah,aq) (nth ab l i) lv).1
  have cJ:i < l.length→l.drop i=nth ab l i::l.drop (i+1):=fun h=>bP (ek:=ab) h
  refine ⟨fun w1=>⟨[.s 2, .b 1002],[.s 29],rfl,[.s 6],[.s 30],rfl,[.s 9],[.s 31],rfl,[.s 30, .s 31],[.s 32],rfl,⟨?_,?_⟩,[.s 32, .b 1014],[.s 33],rfl,?_,[.s 7],[.s 34],rfl,[.s 29, .s 33, .s 34, .b 360000],[.s 35, .b 360000],rfl,⟨⟨⟨tv,tv,tv,tv,tv,tv,tv,tv,tv⟩,⟨tv,tv,tv,tv,tv,tv⟩,tv,tv⟩,?_⟩,?_,fun x2 w3=>⟨[.s 35],[.s 28],rfl,[.s 28],[.s 36],rfl,[.s 28],[.s 37],rfl,[.s 36],[.s 10],rfl,[.s 37],[.s 11],rfl,fun w4=>⟨tv,?_⟩,fun w5=>⟨⟨⟨?_,?_⟩,?_,?_⟩,⟨?_,?_⟩,?_⟩⟩⟩,fun w6=>⟨⟨?_,?_⟩,?_⟩⟩
  all_goals first|refine au ?_|refine aw ?_|exact sa|(dsimp only [dU,fx];omega)|exact sb|exact dA|(show acc.length+(a8 (ai,aj,ak,an,ag,ao,ah,aq) (nth ab l i) lv).1.length≤1048576;omega)|skip
  ·have e:fo (ai,aj,ak,an,ag,ao,ah,aq) lv l []=none:=by rw [←hs,cJ (cg w1),N0 (s:=(ai,aj,ak,an,ag,ao,ah,aq)) (lv:=lv) (p:=nth ab l i) w4]
   refine ⟨[1040],[],_,_,_,rfl,rp,(),tv,?_,?_,rfl⟩
   ·(show _=lD (ai,aj,ak,an,ag,ao,ah,aq) (t1,t2,t3,t4,t5,t6,t7));unfold lD;first |(rw [←hr,H4 mV e];rfl) |rfl
   ·(show _=nR (ai,aj,ak,an,ag,ao,ah,aq) (t1,t2,t3,t4,t5,t6,t7));unfold nR;first |(rw [←hr,H4 mV e];rfl) |rfl
  ·refine ⟨(i+1,acc++(a8 (ai,aj,ak,an,ag,ao,ah,aq) (nth ab l i) lv).1),[(1021,1043)],?_,?_,?_⟩
   rotate_right
   ·exact rq
   ·exact ⟨cg w1,by show List.length (_++_)=_;rw [List.length_append];show acc.length+_=4 * (i+1);rw [(iz (ai,aj,ak,an,ag,ao,ah,aq) (nth ab l i) lv).2 (cB w5)];omega,by rw [←hs,cJ (cg w1),NZ (s:=(ai,aj,ak,an,ag,ao,ah,aq)) (lv:=lv) (p:=nth ab l i) w5]⟩
   ·show l.length - (i+1) < l.length - i;have:=cg w1;omega
  ·have FJ:¬i < l.length:=by have:=ca (p:=(i:Int) < (l.length:Int)) w6;omega
   have e:fo (ai,aj,ak,an,ag,ao,ah,aq) lv l []=some acc:=by rw [←hs,List.drop_eq_nil_of_le (by omega)];rfl
   have hl2:=rT e
   refine ⟨(lv - 1,acc,g),[(1014,1021)],?_,?_,?_⟩
   rotate_right
   ·exact rq
   ·refine ⟨by show lv - 1≤2;omega,⟨?_,fun h=>?_,fun h=>?_⟩,by show lv - 1 < (g:Int);omega,by rw [←hr,CD mV e]⟩
    ·show acc.length≤16;rw [hl2];show 0+4 * l.length≤16;omega
    ·have h:1≤lv - 1:=h
     have:=TY.2.2 (by omega)
     show acc.length≤4;rw [hl2];show 0+4 * l.length≤4;omega
    ·have h:2≤lv - 1:=h
     omega
   ·show (lv - 1).toNat < lv.toNat;omega
 ·have e:bn (ai,aj,ak,an,ag,ao,ah,aq) (t1,t2,t3,t4,t5,t6,t7)=(l,true):=by
   rw [←hr]
   cases f with
   |zero=>rfl
   |succ g=>exact vu w2
  refine ⟨[1014],[],_,_,_,rfl,rp,(),tv,?_,?_,rfl⟩
  ·(show _=lD (ai,aj,ak,an,ag,ao,ah,aq) (t1,t2,t3,t4,t5,t6,t7));unfold lD;first |(rw [e];rfl) |rfl
  ·(show _=nR (ai,aj,ak,an,ag,ao,ah,aq) (t1,t2,t3,t4,t5,t6,t7));unfold nR;first |(rw [e];rfl) |rfl
end GL
namespace GL
theorem G6 (s:ByteArray):aV (bJ s).1=true:=by
 have h0:aV bL=true:=by decide
 unfold bJ
 cases decide (s=⟨#[45]⟩) with
 |true=>exact h0
 |false=>
  cases decide (((bf s 46).length:Int)≠5) with
  |true=>exact h0
  |false=>
   show aV (qM (bf s 46)).1=true
   unfold qM
   cases lg (bf s 46) [] with
   |none=>exact h0
   |some n=>
    show aV (pK n).1=true
    unfold pK
    cases hc: !(aV (lH n))||ar (lH n) with
    |true=>exact h0
    |false=>
     simp only [Bool.or_eq_false_iff] at hc
     exact cB hc.1
theorem aap:∀ {l:List ByteArray} {out o:List Pt} {sm m:Bool},oh l out sm=some (o,m)→(∀p∈out,aV p=true)→∀p∈o,aV p=true
 |[],out,o,sm,m,h,ho=>by cases h;exact ho
 |t::l,out,o,sm,m,h,ho=>by
  unfold oh at h
  cases hb:(bJ t).2 with
  |true=>
   rw [hb,cond_true] at h
   refine aap h fun p hp=>?_
   rcases List.mem_append.1 hp with hp |hp
   ·exact ho p hp
   ·simp only [List.mem_cons,List.not_mem_nil,or_false] at hp
    subst hp;exact G6 t
  |false=>rw [hb] at h;cases h
theorem XZ (s:ByteArray):∀p∈(bd s).1,aV p=true:=by
 unfold bd
 cases hf:oh (bf s 44) [] false with
 |none=>intro p hp;cases hp
 |some r=>
  obtain ⟨o,sm⟩:=r
  have:=aap hf (fun p hp=>by cases hp)
  show∀p∈(l9 o sm).1,_
  unfold l9
  cases decide ((o.length:Int)≠4)|| !sm with
  |true=>intro p hp;cases hp
  |false=>exact this
theorem wV (n:Nat):∀p∈cl n,aV p=true:=by
 intro p hp
 rw [(List.mem_replicate.1 hp).2];decide
theorem sL (s:ax) (p:Pt) (lv:Int):∀q∈(a8 s p lv).1,aV q=true:=by
 have h0:∀q∈([]:List Pt),aV q=true:=fun q h=>by cases h
 unfold a8
 cases ar p with
 |true=>exact wV 4
 |false=>
  cases !(aV p)||(decide (p.2.2.2.2≠lv)||decide (p.2.1 > s.bY)) with
  |true=>exact h0
  |false=>
   cases !(bA s p).2 with
   |true=>exact h0
   |false=>
    show∀q∈(oE p (bd (bA s p).1)).1,aV q=true
    unfold oE
    cases (bd (bA s p).1).1.any (late p) with
    |true=>exact h0
    |false=>exact XZ _
theorem QR {s:ax} {lv:Int}:∀ {l acc n:List Pt},fo s lv l acc=some n→(∀q∈acc,aV q=true)→∀q∈n,aV q=true
 |[],acc,n,h,ha=>by cases h;exact ha
 |p::l,acc,n,h,ha=>by
  unfold fo at h
  cases hb:(a8 s p lv).2 with
  |true=>
   rw [hb,cond_true] at h
   refine QR h fun q hq=>?_
   rcases List.mem_append.1 hq with hq |hq
   ·exact ha q hq
   ·exact sL s p lv q hq
  |false=>rw [hb] at h;cases h
theorem ZT {s:ax}:∀ {f:Nat} {lv:Int} {l:List Pt},(∀q∈l,aV q=true)→∀q∈(tE s f lv l).1,aV q=true
 |0,lv,l,h=>h
 |f+1,lv,l,h=>by
  unfold tE
  cases decide (lv > 0) with
  |false=>exact h
  |true=>
   simp only [cond_true]
   cases hs:fo s lv l [] with
   |none=>intro q hq;cases hq
   |some n=>exact ZT (QR hs (fun q hq=>by cases hq))
theorem S8 {s:ax}:∀ {f:Nat} {lv:Int} {l:List Pt},lv≤2→ah4 lv l.length→(tE s f lv l).1.length≤16
 |0,lv,l,h,hf=>hf.1
 |f+1,lv,l,h,hf=>by
  unfold tE
  cases hc:decide (lv > 0) with
  |false=>exact hf.1
  |true=>
   have h1:lv > 0:=cw hc
   simp only [cond_true]
   cases hs:fo s lv l [] with
   |none=>exact Nat.zero_le _
   |some n=>
    have hl:n.length=0+4 * l.length:=rT hs
    have h4:=hf.2.1 (by omega)
    refine S8 (by omega) ⟨by omega,fun h2=>?_,fun h2=>by omega⟩
    have:=hf.2.2 (by omega)
    omega
structure aZ.rd (t:aZ):Prop where
 dep:t.depth≤2
 ok:aV t.root=true
theorem qX {s:ax} {t:aZ} (h:t.rd):(bn s t).1.length≤16:=
 S8 h.dep ⟨by show 1≤16;omega,fun _=>by show 1≤4;omega,fun _=>Nat.le_refl _⟩
theorem H8 {s:ax} {t:aZ} (h:t.rd):∀q∈(bn s t).1,aV q=true:=
 ZT fun q hq=>by
  simp only [List.mem_cons,List.not_mem_nil,or_false] at hq
  subst hq;exact h.ok
def ay (s:ax) (t:aZ):List Pt:=(bn s t).1++cl ((16:Int) - (bn s t).1.length).toNat
theorem fW {s:ax} {t:aZ} (h:t.rd):(ay s t).length=16:=by
 have:=qX (s:=s) h
 rw [ay,List.length_append,cl,List.length_replicate];omega
theorem lz {s:ax} {t:aZ} (h:t.rd):∀q∈ay s t,aV q=true:=by
 intro q hq
 rcases List.mem_append.1 hq with hq |hq
 ·exact H8 h q hq
 ·exact wV _ q hq
theorem oA {l:List Pt} (h:∀q∈l,aV q=true) (k:Nat):aV (nth ab l k)=true:=by
 by_cases hk:k < l.length
 ·exact h _ (bS (ek:=ab) hk)
 ·unfold nth;rw [List.getElem?_eq_none (by omega)];decide
theorem nT {p:Pt} (h:aV p=true):0≤p.1∧p.1 < 64:=by
 have:=pJ h;omega
def fM (S:ax) (t:aZ):Prop:=S.rd∧t.rd
def xX (S:ax) (t:aZ):AV:=.s (.xs 0 5 0 (ay S t).length)
def B2 (S:ax) (t:aZ):List AV:=[.rs ab (ay S t)]
def en:Con where
 A:=[.a xw, .a [.int, .int, .int, .int, .int, .int, .int]]
 B:=[]
 pre:=fun x b=>fM (x.1) (x.2)
 α:=fun _ _=>Unit
 φ:=fun _ _ _=>True
 r:=fun x b _=>xX (x.1) (x.2)
 o:=fun x b _=>B2 (x.1) (x.2)
 nf:=1
set_option maxRecDepth 100000 in
theorem lX:Has Tryz.prog 47 en:=by
 refine Has.ofE (fun _=>true) (fun _=>false) (fun _=>false) (l:=[(28,kP),(78,jU)]) ⟨yK,wQ,trivial⟩ (fn:=Tryz.f47) Tryz.func47 rfl (by decide) (cH rfl) ?_
 rintro ⟨⟨(ai:List ByteArray),(aj:List Int),(ak:List Int),(an:Int),(ag:List Pt),(ao:Int),(ah:List Pt),(aq:Bool)⟩,⟨(t1:Int),(t2:Int),(t3:Int),(t4:Int),(t5:Int),(t6:Int),(t7:Int)⟩⟩ _ (hp:fM (ai,aj,ak,an,ag,ao,ah,aq) (t1,t2,t3,t4,t5,t6,t7))
 show vc _ _ _ _ (entry [.a [.vz aa ai, .vz ae aj, .vz ae ak, .int an, .vz ab ag, .int ao, .vz ab ah, .q aq], .a [.int t1, .int t2, .int t3, .int t4, .int t5, .int t6, .int t7]] []) _
 obtain ⟨dA,sP⟩:=hp
 have dA:ax.rd (ai,aj,ak,an,ag,ao,ah,aq):=dA
 have sP:aZ.rd (t1,t2,t3,t4,t5,t6,t7):=sP
 have hl:=qX (s:=(ai,aj,ak,an,ag,ao,ah,aq)) sP
 refine ⟨⟨⟨⟨tv,tv,tv,tv,tv,tv,tv,tv,tv⟩,⟨tv,tv,tv,tv,tv,tv,tv,tv⟩,tv⟩,?_,?_⟩,fun x1 w2=>⟨tv,⟨⟨?_,?_⟩,?_,?_⟩,⟨?_,?_⟩,⟨⟨tv,tv⟩,?_,?_⟩,fun x3 w4=>⟨⟨⟨?_,?_⟩,?_,?_⟩,?_⟩⟩⟩
 all_goals first|refine au ?_|refine aw ?_|exact sa|(dsimp only [kP,lM];omega)|(dsimp only [jU,kY];omega)|exact sb|exact dA|exact sP.dep|(show 0+(bn (ai,aj,ak,an,ag,ao,ah,aq) (t1,t2,t3,t4,t5,t6,t7)).1.length≤1048576;omega)|(show ((bn (ai,aj,ak,an,ag,ao,ah,aq) (t1,t2,t3,t4,t5,t6,t7)).1).length+(cl ((16:Int) - ((bn (ai,aj,ak,an,ag,ao,ah,aq) (t1,t2,t3,t4,t5,t6,t7)).1.length:Int)).toNat).length≤1048576;rw [cl,List.length_replicate];omega)|skip
 refine ⟨[1020],[],_,_,_,rfl,rp,(),tv,?_,?_,rfl⟩
 ·(show _=xX (ai,aj,ak,an,ag,ao,ah,aq) (t1,t2,t3,t4,t5,t6,t7));unfold xX;first |(rw [ay,List.length_append];rfl) |(rw [ay];rfl) |rfl
 ·(show _=B2 (ai,aj,ak,an,ag,ao,ah,aq) (t1,t2,t3,t4,t5,t6,t7));unfold B2;first |(rw [ay,List.length_append];rfl) |(rw [ay];rfl) |rfl
def getM (s:ax) (t:aZ) (k:Nat):ByteArray:=(bA s (nth ab (ay s t) k)).1
def BY (S:ax) (t:aZ) (k:Int):Prop:=S.rd∧t.rd∧0≤k∧k < 16
def A8 (S:ax) (t:aZ) (k:Int):AV:=.str (getM S t k.toNat)
def ade (S:ax) (t:aZ) (k:Int):List AV:=[]
def P2:Con where
 A:=[.a xw, .a [.int, .int, .int, .int, .int, .int, .int], .s .int]
 B:=[]
 pre:=fun x b=>BY (x.1) (x.2.1) (x.2.2)
 α:=fun _ _=>Unit
 φ:=fun _ _ _=>True
 r:=fun x b _=>A8 (x.1) (x.2.1) (x.2.2)
 o:=fun x b _=>ade (x.1) (x.2.1) (x.2.2)
 nf:=0
set_option maxRecDepth 100000 in
theorem af6:Has Tryz.prog 154 P2:=by
 refine Has.ofE (fun _=>true) (fun _=>false) (fun _=>false) (l:=[(47,en),(29,et)]) ⟨lX,lZ,trivial⟩ (fn:=Tryz.f154) Tryz.func154 rfl (by decide) (cH rfl) ?_
 rintro ⟨⟨(ai:List ByteArray),(aj:List Int),(ak:List Int),(an:Int),(ag:List Pt),(ao:Int),(ah:List Pt),(aq:Bool)⟩,⟨(t1:Int),(t2:Int),(t3:Int),(t4:Int),(t5:Int),(t6:Int),(t7:Int)⟩,(k:Int)⟩ _ (hp:BY (ai,aj,ak,an,ag,ao,ah,aq) (t1,t2,t3,t4,t5,t6,t7) k)
 show vc _ _ _ _ (entry [.a [.vz aa ai, .vz ae aj, .vz ae ak, .int an, .vz ab ag, .int ao, .vz ab ah, .q aq], .a [.int t1, .int t2, .int t3, .int t4, .int t5, .int t6, .int t7], .int k] []) _
 obtain ⟨dA,sP,h1,h2⟩:=hp
 have dA:ax.rd (ai,aj,ak,an,ag,ao,ah,aq):=dA
 have sP:aZ.rd (t1,t2,t3,t4,t5,t6,t7):=sP
 have hl:=fW (s:=(ai,aj,ak,an,ag,ao,ah,aq)) sP
 have ha:=nT (oA (lz (s:=(ai,aj,ak,an,ag,ao,ah,aq)) sP) k.toNat)
 have hr:ai.length=64:=dA.len
 refine ⟨⟨⟨⟨tv,tv,tv,tv,tv,tv,tv,tv,tv⟩,⟨tv,tv,tv,tv,tv,tv,tv,tv⟩,tv⟩,?_,?_⟩,fun x1 w2=>⟨[.s 3, .b 1003],[.s 14],rfl,[.s 7],[.s 15],rfl,[.s 2],[.s 16],rfl,[.s 15, .s 16],[.s 17],rfl,⟨?_,?_⟩,[.s 17, .b 130000],[.s 18],rfl,?_,[.s 14, .s 18],[.s 19],rfl,⟨⟨⟨tv,tv,tv,tv,tv,tv,tv,tv,tv⟩,⟨tv,tv,tv,tv,tv,tv⟩,tv⟩,fun x3 w4=>?_,?_,?_⟩,?_,fun x5 w6=>⟨[.s 19],[.s 13],rfl,[.s 13],[.s 20],rfl,[.s 13],[.s 21],rfl,[.s 20],[.s 8],rfl,[.s 21],[.s 9],rfl,?_⟩⟩⟩
 all_goals first|refine au ?_|refine aw ?_|exact sa|(dsimp only [en,fM];omega)|(dsimp only [et,fN];omega)|exact sb|exact dA|exact sP|exact dA.sz _ (by assumption)|exact ha.1|(show _ < (ai.length:Int);rw [hr];exact ha.2)|(show k < ((ay (ai,aj,ak,an,ag,ao,ah,aq) (t1,t2,t3,t4,t5,t6,t7)).length:Int);omega)|(show k.toNat < (ay (ai,aj,ak,an,ag,ao,ah,aq) (t1,t2,t3,t4,t5,t6,t7)).length;omega)|skip
 refine ⟨[],[],_,_,_,rfl,rp,(),tv,?_,?_,rfl⟩
 ·(show _=A8 (ai,aj,ak,an,ag,ao,ah,aq) (t1,t2,t3,t4,t5,t6,t7) k);unfold A8;first |rfl
 ·rfl
def sT (s:ax) (l:List Pt):List ByteArray:=l.map fun p=>(bA s p).1
def bg (s:ax) (t:aZ):List ByteArray:=sT s ((ay s t).take t.many.toNat)
theorem F9 {l:List Pt} {i:Nat} (h:i < l.length):l.take (i+1)=l.take i++[nth ab l i]:=by
 have h1:=oB (ek:=ab) h
 rw [List.take_add_one,h1];rfl
def eA (S:ax) (t:aZ):Prop:=S.rd∧t.rd∧0≤t.many∧t.many≤16
def uW (S:ax) (t:aZ):AV:=.s (.xs 0 1 0 (bg S t).length)
def yu (S:ax) (t:aZ):List AV:=[.rs aa (bg S t)]
def c6:Con where
 A:=[.a xw, .a [.int, .int, .int, .int, .int, .int, .int]]
 B:=[]
 pre:=fun x b=>eA (x.1) (x.2)
 α:=fun _ _=>Unit
 φ:=fun _ _ _=>True
 r:=fun x b _=>uW (x.1) (x.2)
 o:=fun x b _=>yu (x.1) (x.2)
 nf:=1
set_option maxRecDepth 100000 in
theorem iK:Has Tryz.prog 45 c6:=by
 refine Has.ofE (fun _=>true) (fun _=>false) (fun _=>false) (l:=[(47,en),(29,et)]) ⟨lX,lZ,trivial⟩ (fn:=Tryz.f45) Tryz.func45 rfl (by decide) (cH rfl) ?_
 rintro ⟨⟨(ai:List ByteArray),(aj:List Int),(ak:List Int),(an:Int),(ag:List Pt),(ao:Int),(ah:List Pt),(aq:Bool)⟩,⟨(t1:Int),(t2:Int),(t3:Int),(t4:Int),(t5:Int),(t6:Int),(t7:Int)⟩⟩ _ (hp:eA (ai,aj,ak,an,ag,ao,ah,aq) (t1,t2,t3,t4,t5,t6,t7))
 show vc _ _ _ _ (entry [.a [.vz aa ai, .vz ae aj, .vz ae ak, .int an, .vz ab ag, .int ao, .vz ab ah, .q aq], .a [.int t1, .int t2, .int t3, .int t4, .int t5, .int t6, .int t7]] []) _
 obtain ⟨dA,sP,(h0:0≤t7),(h1:t7≤16)⟩:=hp
 have dA:ax.rd (ai,aj,ak,an,ag,ao,ah,aq):=dA
 have sP:aZ.rd (t1,t2,t3,t4,t5,t6,t7):=sP
 have hl:=fW (s:=(ai,aj,ak,an,ag,ao,ah,aq)) sP
 have hr:ai.length=64:=dA.len
 refine ⟨tv,⟨⟨⟨tv,tv,tv,tv,tv,tv,tv,tv,tv⟩,⟨tv,tv,tv,tv,tv,tv,tv,tv⟩,tv⟩,?_,?_⟩,fun x1 w2=>?_⟩
 all_goals first|refine au ?_|refine aw ?_|exact sa|(dsimp only [en,fM];omega)|(dsimp only [et,fN];omega)|exact sb|exact dA|exact sP|skip
 refine cI (l:=[(47,en),(29,et)]) (ex:=fun _=>true) (wr:=fun _=>false) (pt:=fun _=>false) ⟨lX,lZ,tv⟩ [.s 2, .b 1002, .s 3, .b 1003, .s 6, .b 140000] (fun y:Nat×List ByteArray=>[(.s 5, .s (.xs 1010 1 0 y.2.length)),(.s 7, .int y.1),(.b 1010, .rs aa y.2)]) (fun y=>(y.1:Int)≤t7∧y.2.length=y.1∧y.2=sT (ai,aj,ak,an,ag,ao,ah,aq) ((ay (ai,aj,ak,an,ag,ao,ah,aq) (t1,t2,t3,t4,t5,t6,t7)).take y.1)) (fun y=>t7.toNat - y.1) (0,[]) [] ⟨h0,rfl,rfl⟩ ru ?_
 rintro ⟨i,out⟩ ⟨(hi:(i:Int)≤t7),(hlo:out.length=i),(he:out=sT (ai,aj,ak,an,ag,ao,ah,aq) ((ay (ai,aj,ak,an,ag,ao,ah,aq) (t1,t2,t3,t4,t5,t6,t7)).take i))⟩
 have ha:=nT (oA (lz (s:=(ai,aj,ak,an,ag,ao,ah,aq)) sP) i)
 have bM:decide ((i:Int) < t7)=true→i < (ay (ai,aj,ak,an,ag,ao,ah,aq) (t1,t2,t3,t4,t5,t6,t7)).length:=fun h=>by have:=cw h;omega
 refine ⟨fun w1=>⟨[.s 2, .b 1002],[.s 21],rfl,[.s 6],[.s 22],rfl,[.s 7],[.s 23],rfl,[.s 22, .s 23],[.s 24],rfl,⟨?_,?_⟩,[.s 24, .b 140000],[.s 25],rfl,?_,[.s 21, .s 25],[.s 26],rfl,⟨⟨⟨tv,tv,tv,tv,tv,tv,tv,tv,tv⟩,⟨tv,tv,tv,tv,tv,tv⟩,tv⟩,fun x2 w3=>?_,?_,?_⟩,?_,fun x4 w5=>⟨[.s 26],[.s 20],rfl,[.s 20],[.s 27],rfl,[.s 20],[.s 28],rfl,[.s 27],[.s 8],rfl,[.s 28],[.s 9],rfl,tv,⟨⟨?_,?_⟩,?_,?_⟩,⟨?_,?_⟩,?_⟩⟩,fun w6=>?_⟩
 all_goals first|refine au ?_|refine aw ?_|exact sa|(dsimp only [en,fM];omega)|(dsimp only [et,fN];omega)|exact sb|exact dA|exact sP|exact dA.sz _ (by assumption)|exact ha.1|(show _ < (ai.length:Int);rw [hr];exact ha.2)|exact bM (by assumption)|(show (i:Int) < ((ay (ai,aj,ak,an,ag,ao,ah,aq) (t1,t2,t3,t4,t5,t6,t7)).length:Int);have:=bM w1;omega)|skip
 ·have e:sT (ai,aj,ak,an,ag,ao,ah,aq) ((ay (ai,aj,ak,an,ag,ao,ah,aq) (t1,t2,t3,t4,t5,t6,t7)).take (i+1))=out++[(bA (ai,aj,ak,an,ag,ao,ah,aq) (nth ab (ay (ai,aj,ak,an,ag,ao,ah,aq) (t1,t2,t3,t4,t5,t6,t7)) i)).1]:=by
   rw [F9 (bM w1),sT,List.map_append,←sT,←he];rfl
  refine ⟨(i+1,out++[(bA (ai,aj,ak,an,ag,ao,ah,aq) (nth ab (ay (ai,aj,ak,an,ag,ao,ah,aq) (t1,t2,t3,t4,t5,t6,t7)) i)).1]),[(1010,1032)],?_,?_,?_⟩
  rotate_right
  ·exact rq
  ·exact ⟨by have:=cw w1;show ((i+1:Nat):Int)≤t7;omega,by show List.length (_++_)=_;rw [List.length_append,hlo];rfl,e.symm⟩
  ·show t7.toNat - (i+1) < t7.toNat - i;have:=cw (p:=(i:Int) < t7) w1;omega
 ·have hi2:i=t7.toNat:=by have:=ca (p:=(i:Int) < t7) (by assumption);omega
  have e:bg (ai,aj,ak,an,ag,ao,ah,aq) (t1,t2,t3,t4,t5,t6,t7)=out:=by rw [bg,he,hi2]
  refine ⟨[1010],[],_,_,_,rfl,rp,(),tv,?_,?_,rfl⟩
  ·(show _=uW (ai,aj,ak,an,ag,ao,ah,aq) (t1,t2,t3,t4,t5,t6,t7));unfold uW;first |(rw [e];rfl) |rfl
  ·(show _=yu (ai,aj,ak,an,ag,ao,ah,aq) (t1,t2,t3,t4,t5,t6,t7));unfold yu;first |(rw [e];rfl) |rfl
end GL
end Go.Proofs.YtbfgjadbfjkcdaaGreatDoor
