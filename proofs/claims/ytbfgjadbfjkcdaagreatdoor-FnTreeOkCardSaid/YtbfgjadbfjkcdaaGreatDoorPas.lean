/- FnTreeOk returns true for every code (its row lists package variables, tied by the card): part 19 of 39. -/
import Derived.Test.YtbfgjadbfjkcdaaGreatDoorPan
import Derived.Test.YtbfgjadbfjkcdaaGreatDoorPaq
import Derived.Test.YtbfgjadbfjkcdaaGreatDoorPar
set_option maxHeartbeats 20000000
set_option linter.all false
namespace Go.Proofs.YtbfgjadbfjkcdaaGreatDoor
namespace GL
def bq (s:ByteArray):List ByteArray:=bif decide (s=⟨#[47]⟩) then [] else (bf s 47).drop 1
theorem S0 {s:ByteArray} (h:decide (s=⟨#[47]⟩)=true):bq s=[]:=by unfold bq;rw [h];rfl
theorem adG {s:ByteArray} (h:decide (s=⟨#[47]⟩)=false):bq s=(bf s 47).drop 1:=by unfold bq;rw [h];rfl
theorem CB {s:ByteArray}:∀x∈bq s,x.size≤s.size:=by
 intro x hx
 unfold bq at hx
 cases h:decide (s=⟨#[47]⟩) with
 |true=>rw [h] at hx;cases hx
 |false=>rw [h] at hx;exact ra x (List.mem_of_mem_drop hx)
theorem qc {s:ByteArray}:(bq s).length≤s.size:=by
 unfold bq
 cases h:decide (s=⟨#[47]⟩) with
 |true=>exact Nat.zero_le _
 |false=>have:=tU s 47;simp only [cond_false,List.length_drop];omega
def fu (s:ByteArray):Prop:=s.size≤1000000
def lF (s:ByteArray):AV:=.s (.vw aa (bq s))
def R8 (s:ByteArray):List AV:=[]
def eL:Con where
 A:=[.s .str]
 B:=[]
 pre:=fun x b=>fu x
 α:=fun _ _=>Unit
 φ:=fun _ _ _=>True
 r:=fun x b _=>lF x
 o:=fun x b _=>R8 x
 nf:=0
set_option maxRecDepth 100000 in
theorem mU:Has Tryz.prog 111 eL:=by
 refine Has.ofE (fun _=>true) (fun _=>false) (fun _=>false) (l:=[(115,iv)]) ⟨tF,trivial⟩ (fn:=Tryz.f111) Tryz.func111 rfl (by decide) (cH rfl) ?_
 rintro (s:ByteArray) _ (hp:fu s)
 show vc _ _ _ _ (entry [.str s] []) _
 unfold fu at hp
 have hb:=tU s 47
 have hv:(((bf s 47).drop (0+1)).take ((bf s 47).length - 1))=(bf s 47).drop 1:=List.take_of_length_le (by rw [List.length_drop];omega)
 refine ⟨fun w1=>⟨tv,?_⟩,fun w2=>⟨⟨⟨tv,tv,tv⟩,?_⟩,fun x3 w4=>⟨⟨?_,?_,?_⟩,?_⟩⟩⟩
 all_goals first|refine au ?_|refine aw ?_|exact sa|(dsimp only [iv,iJ];omega)|exact sb|skip
 ·refine ⟨[],[],_,_,_,rfl,rr,(),tv,?_,?_,rfl⟩
  ·(show _=lF s);unfold lF;first |(rw [S0 w1];rfl) |rfl
  ·rfl
 ·refine ⟨[],[],_,_,_,rfl,rr,(),tv,?_,?_,rfl⟩
  ·(show _=lF s);unfold lF;first |(rw [adG w2,←hv];rfl) |rfl
  ·rfl
def G8:Nat→List ByteArray→Nat→Bool
 |0,_,_=>true
 |f+1,l,i=>bif fv (nth aa l i) then G8 f l (i+1) else false
def tn (l:List ByteArray):Bool:=G8 l.length l 0&&decide ((l.length:Int)≤4)
def fT (s:ByteArray):Bool:=bif decide (s=⟨#[47]⟩) then true else bif decide (s=⟨#[]⟩)||decide (bG s 0≠47) then false else tn (bq s)
theorem ahr {f:Nat} {l:List ByteArray} {i:Nat} (h:(!(fv (nth aa l i)))=true):G8 (f+1) l i=false:=by rw [G8,xk h];rfl
theorem ahq {f:Nat} {l:List ByteArray} {i:Nat} (h:(!(fv (nth aa l i)))=false):G8 (f+1) l i=G8 f l (i+1):=by rw [G8,cB h];rfl
theorem abb {s:ByteArray} (h:decide (s=⟨#[47]⟩)=true):fT s=true:=by unfold fT;rw [h];rfl
theorem aba {s:ByteArray} (h:decide (s=⟨#[47]⟩)=false) (h2:decide (s=⟨#[]⟩)=true):fT s=false:=by unfold fT;rw [h,h2];rfl
theorem aa9 {s:ByteArray} (h:decide (s=⟨#[47]⟩)=false) (h2:decide (bG s 0≠47)=true):fT s=false:=by unfold fT;rw [h,h2,Bool.or_true];rfl
theorem aa8 {s:ByteArray} (h:decide (s=⟨#[47]⟩)=false) (h2:decide (s=⟨#[]⟩)=false) (h3:decide (bG s 0≠47)=false):fT s=tn (bq s):=by unfold fT;rw [h,h2,h3];rfl
def mN (s:ByteArray):Prop:=s.size≤1000000
def fK (s:ByteArray):AV:=.s (.q (fT s))
def abA (s:ByteArray):List AV:=[]
def qt:Con where
 A:=[.s .str]
 B:=[]
 pre:=fun x b=>mN x
 α:=fun _ _=>Unit
 φ:=fun _ _ _=>True
 r:=fun x b _=>fK x
 o:=fun x b _=>abA x
 nf:=0
set_option maxRecDepth 100000 in
theorem IN:Has Tryz.prog 72 qt:=by
 refine Has.ofE (fun _=>true) (fun _=>false) (fun _=>false) (l:=[(111,eL),(112,oi)]) ⟨mU,zN,trivial⟩ (fn:=Tryz.f72) Tryz.func72 rfl (by decide) (cH rfl) ?_
 rintro (s:ByteArray) _ (hp:mN s)
 show vc _ _ _ _ (entry [.str s] []) _
 unfold mN at hp
 have hnl:=qc (s:=s)
 have hns:=CB (s:=s)
 have mV:decide (s=⟨#[]⟩)=false→0 < (s.size:Int):=fun h=>by have:=size_pos (ca h);omega
 refine ⟨fun w1=>?_,fun w2=>⟨tv,fun w3=>?_,fun w4=>⟨⟨?_,?_⟩,fun w5=>?_,fun w6=>⟨⟨⟨tv,tv⟩,?_⟩,fun x7 w8=>?_⟩⟩⟩⟩
 all_goals first|refine au ?_|refine aw ?_|exact sa|(dsimp only [eL,fu];omega)|(dsimp only [oi,mO];omega)|exact sb|exact mV w4|skip
 ·refine ⟨[],[],_,_,_,rfl,rp,(),tv,?_,?_,rfl⟩
  ·(show _=fK s);unfold fK;first |(rw [abb w1];rfl) |rfl
  ·rfl
 ·refine ⟨[],[],_,_,_,rfl,rp,(),tv,?_,?_,rfl⟩
  ·(show _=fK s);unfold fK;first |(rw [aba w2 w3];rfl) |rfl
  ·rfl
 ·refine ⟨[],[],_,_,_,rfl,rp,(),tv,?_,?_,rfl⟩
  ·(show _=fK s);unfold fK;first |(rw [aa9 w2 w5];rfl) |rfl
  ·rfl
 ·have hM:=aa8 w2 w4 w6
  refine cI (l:=[(111,eL),(112,oi)]) (ex:=fun _=>true) (wr:=fun _=>false) (pt:=fun _=>false) ⟨mU,zN,tv⟩ [.s 0, .s 3] (fun y:Nat×Nat=>[(.s 4, .int y.1)]) (fun y=>y.1+y.2=(bq s).length∧G8 y.2 (bq s) y.1=G8 (bq s).length (bq s) 0) (fun y=>y.2) (0,(bq s).length) [] ⟨Nat.zero_add _,rfl⟩ ru ?_
  rintro ⟨k,f⟩ ⟨(hk:k+f=(bq s).length),(he:G8 f (bq s) k=G8 (bq s).length (bq s) 0)⟩
  have bM:decide ((k:Int) < ((bq s).length:Int))=true→k < (bq s).length:=fun h=>by have:=cw h;omega
  have db:k < (bq s).length→(nth aa (bq s) k).size≤1000000:=fun h=>Nat.le_trans (hns _ (bS (ek:=aa) h)) hp
  refine ⟨fun w1=>⟨⟨?_,?_⟩,⟨⟨tv,tv⟩,?_⟩,fun x2 w3=>⟨fun w4=>?_,fun w5=>⟨⟨?_,?_⟩,?_⟩⟩⟩,fun w6=>?_⟩
  all_goals first|refine au ?_|refine aw ?_|exact sa|(dsimp only [eL,fu];omega)|(dsimp only [oi,mO];omega)|exact sb|exact bM w1|exact db (bM w1)|skip
  ·obtain ⟨g,rfl⟩:∃g,f=g+1:=⟨f - 1,by have:=bM w1;omega⟩
   have e:tn (bq s)=false:=by unfold tn;rw [←he,ahr (show (!(fv (nth aa (bq s) k)))=true from w4)];rfl
   refine ⟨[],[],_,_,_,rfl,rp,(),tv,?_,?_,rfl⟩
   ·(show _=fK s);unfold fK;first |(rw [hM,e];rfl) |rfl
   ·rfl
  ·obtain ⟨g,rfl⟩:∃g,f=g+1:=⟨f - 1,by have:=bM w1;omega⟩
   refine ⟨(k+1,g),[],?_,?_,?_⟩
   rotate_right
   ·exact rq
   ·exact ⟨by show k+1+g=(bq s).length;omega,by rw [←he];exact (ahq w5).symm⟩
   ·exact Nat.lt_succ_self g
  ·have hf:f=0:=by have:=ca (p:=(k:Int) < ((bq s).length:Int)) w6;omega
   subst hf
   have e:tn (bq s)=decide (((bq s).length:Int)≤4):=by unfold tn;rw [←he];rfl
   refine ⟨[],[],_,_,_,rfl,rp,(),tv,?_,?_,rfl⟩
   ·(show _=fK s);unfold fK;first |(rw [hM,e];rfl) |rfl
   ·rfl
def bO (s:ByteArray):List ByteArray×Bool:=bif !(fT s) then ([],false) else (bq s,true)
theorem OK {s:ByteArray} (h:(!(fT s))=true):bO s=([],false):=by unfold bO;rw [h];rfl
theorem OJ {s:ByteArray} (h:(!(fT s))=false):bO s=(bq s,true):=by unfold bO;rw [h];rfl
def nr (s:ByteArray):Prop:=s.size≤1000000
def ke (s:ByteArray):AV:=.t [.s (.vw aa (bO s).1), .s (.q (bO s).2)]
def OS (s:ByteArray):List AV:=[]
def vX:Con where
 A:=[.s .str]
 B:=[]
 pre:=fun x b=>nr x
 α:=fun _ _=>Unit
 φ:=fun _ _ _=>True
 r:=fun x b _=>ke x
 o:=fun x b _=>OS x
 nf:=0
set_option maxRecDepth 100000 in
theorem TP:Has Tryz.prog 136 vX:=by
 refine Has.ofE (fun _=>true) (fun _=>false) (fun _=>false) (l:=[(72,qt),(111,eL)]) ⟨IN,mU,trivial⟩ (fn:=Tryz.f136) Tryz.func136 rfl (by decide) (cH rfl) ?_
 rintro (s:ByteArray) _ (hp:nr s)
 show vc _ _ _ _ (entry [.str s] []) _
 unfold nr at hp
 have hnl:=qc (s:=s)
 refine ⟨⟨⟨tv,tv⟩,?_⟩,fun x1 w2=>⟨fun w3=>⟨tv,?_⟩,fun w4=>⟨tv,⟨⟨tv,tv⟩,?_⟩,fun x5 w6=>⟨⟨⟨?_,?_⟩,tv⟩,?_⟩⟩⟩⟩
 all_goals first|refine au ?_|refine aw ?_|exact sa|(dsimp only [qt,mN];omega)|(dsimp only [eL,fu];omega)|exact sb|skip
 ·refine ⟨[],[],_,_,_,rfl,rr,(),tv,?_,?_,rfl⟩
  ·(show _=ke s);unfold ke;first |(rw [OK w3];rfl) |rfl
  ·rfl
 ·have hv:([]++bq s)=bq s:=List.nil_append _
  refine ⟨[],[],_,_,_,rfl,rr,(),tv,?_,?_,rfl⟩
  ·(show _=ke s);unfold ke;first |(show AV.t [A0.s (SV.vw aa (List.take (([]:List ByteArray).length+(bq s).length) (List.drop 0 ([]++bq s)))),A0.s (SV.q true)]=_;simp only [List.nil_append,List.drop_zero,List.length_nil,Nat.zero_add,List.take_length,OJ w4]) |rfl
  ·rfl
def jg (o x:ByteArray):ByteArray:=o++⟨#[47]⟩++x
def oN (l:List ByteArray):ByteArray:=bif decide (l.foldl jg ⟨#[]⟩=⟨#[]⟩) then ⟨#[47]⟩ else l.foldl jg ⟨#[]⟩
theorem abd {l:List ByteArray} {o:ByteArray} (h:l.foldl jg ⟨#[]⟩=o) (h2:decide (o=⟨#[]⟩)=true):oN l=⟨#[47]⟩:=by unfold oN;rw [h,h2];rfl
theorem abc {l:List ByteArray} {o:ByteArray} (h:l.foldl jg ⟨#[]⟩=o) (h2:decide (o=⟨#[]⟩)=false):oN l=o:=by unfold oN;rw [h,h2];rfl
def BZ (l:List ByteArray):Prop:=l.length≤1000∧∀x∈l,x.size≤1000000
def rX (l:List ByteArray):AV:=.s (.str (oN l))
def adj (l:List ByteArray):List AV:=[]
def P4:Con where
 A:=[.s (.vz aa)]
 B:=[]
 pre:=fun x b=>BZ x
 α:=fun _ _=>Unit
 φ:=fun _ _ _=>True
 r:=fun x b _=>rX x
 o:=fun x b _=>adj x
 nf:=0
set_option maxRecDepth 100000 in
theorem af7:Has Tryz.prog 137 P4:=by
 refine Has.ofE (fun _=>true) (fun _=>false) (fun _=>false) (l:=[]) trivial (fn:=Tryz.f137) Tryz.func137 rfl (by decide) (cH rfl) ?_
 rintro (l:List ByteArray) _ (hp:BZ l)
 show vc _ _ _ _ (entry [.s (.vz aa l)] []) _
 obtain ⟨hlen,db⟩:=hp
 refine ?_
 all_goals first|refine au ?_|refine aw ?_|exact sa|exact sb|skip
 refine cI (l:=[]) (ex:=fun _=>true) (wr:=fun _=>false) (pt:=fun _=>false) trivial [.s 0] (fun y:Nat×ByteArray=>[(.s 3, .str y.2),(.s 4, .int y.1)]) (fun y=>y.1≤l.length∧y.2.size≤1000001 * y.1∧(l.drop y.1).foldl jg y.2=l.foldl jg ⟨#[]⟩) (fun y=>l.length - y.1) (0,⟨#[]⟩) [] ⟨Nat.zero_le _,Nat.zero_le _,rfl⟩ ru ?_
 rintro ⟨i,out⟩ ⟨(hi:i≤l.length),(ho:out.size≤1000001 * i),(hr:(l.drop i).foldl jg out=l.foldl jg ⟨#[]⟩)⟩
 have bM:decide ((i:Int) < (l.length:Int))=true→i < l.length:=fun h=>by have:=cw h;omega
 have hx:i < l.length→(nth aa l i).size≤1000000:=fun h=>db _ (bS (ek:=aa) h)
 refine ⟨fun w1=>⟨?_,⟨⟨?_,?_⟩,⟨?_,⟨⟨?_,?_⟩,?_⟩⟩⟩⟩,fun w2=>⟨fun w3=>?_,fun w4=>?_⟩⟩
 all_goals first|refine au ?_|refine aw ?_|exact sa|exact sb|exact bM w1|(unfold imax;simp only [ByteArray.size_append,Int.toNat_natCast,sz1];have:=hx (bM w1);omega)|skip
 ·have mo:=bM w1
  refine ⟨(i+1,jg out (nth aa l i)),[],?_,?_,?_⟩
  rotate_right
  ·exact rq
  ·refine ⟨mo,?_,by rw [←hr,bP (ek:=aa) mo];rfl⟩
   show (out++⟨#[47]⟩++nth aa l i).size≤1000001 * (i+1)
   have a1:=hx mo
   simp only [ByteArray.size_append]
   rw [show (⟨#[47]⟩:ByteArray).size=1 from rfl];omega
  ·show l.length - (i+1) < l.length - i;omega
 ·have e:l.foldl jg ⟨#[]⟩=out:=by rw [←hr,List.drop_eq_nil_of_le (by have:=ca (p:=(i:Int) < (l.length:Int)) w2;omega)];rfl
  refine ⟨[],[],_,_,_,rfl,rp,(),tv,?_,?_,rfl⟩
  ·(show _=rX l);unfold rX;first |(rw [abd e w3];rfl) |rfl
  ·rfl
 ·have e:l.foldl jg ⟨#[]⟩=out:=by rw [←hr,List.drop_eq_nil_of_le (by have:=ca (p:=(i:Int) < (l.length:Int)) w2;omega)];rfl
  refine ⟨[],[],_,_,_,rfl,rp,(),tv,?_,?_,rfl⟩
  ·(show _=rX l);unfold rX;first |(rw [abc e w4];rfl) |rfl
  ·rfl
def pg (s top:ByteArray):Bool:=
 bif !(bO s).2||(!(bO top).2||decide (((bO s).1.length:Int) < ((bO top).1.length:Int))) then false
 else decide (oN ((bO s).1.take (bO top).1.length)=oN (bO top).1)
theorem xz (s:ByteArray):(bO s).1.length≤4∧∀x∈(bO s).1,x.size≤s.size:=by
 unfold bO
 cases h: !(fT s) with
 |true=>exact ⟨Nat.zero_le _,fun x hx=>by cases hx⟩
 |false=>
  refine ⟨?_,CB⟩
  have h:=cB h
  show (bq s).length≤4
  unfold fT at h
  cases h1:decide (s=⟨#[47]⟩) with
  |true=>rw [S0 h1];exact Nat.zero_le _
  |false=>
   rw [h1] at h
   simp only [cond_false] at h
   cases h2:decide (s=⟨#[]⟩)||decide (bG s 0≠47) with
   |true=>rw [h2] at h;cases h
   |false=>
    rw [h2] at h
    simp only [cond_false] at h
    unfold tn at h
    simp only [Bool.and_eq_true,decide_eq_true_eq] at h
    omega
def rC (s:ByteArray) (top:ByteArray):Prop:=s.size≤1000000∧top.size≤1000000
def eO (s:ByteArray) (top:ByteArray):AV:=.s (.q (pg s top))
def OR (s:ByteArray) (top:ByteArray):List AV:=[]
def vW:Con where
 A:=[.s .str, .s .str]
 B:=[]
 pre:=fun x b=>rC (x.1) (x.2)
 α:=fun _ _=>Unit
 φ:=fun _ _ _=>True
 r:=fun x b _=>eO (x.1) (x.2)
 o:=fun x b _=>OR (x.1) (x.2)
 nf:=0
set_option maxRecDepth 100000 in
theorem TO:Has Tryz.prog 108 vW:=by
 refine Has.ofE (fun _=>true) (fun _=>false) (fun _=>false) (l:=[(136,vX),(137,P4)]) ⟨TP,af7,trivial⟩ (fn:=Tryz.f108) Tryz.func108 rfl (by decide) (cH rfl) ?_
 rintro ⟨(s:ByteArray),(top:ByteArray)⟩ _ (hp:rC s top)
 show vc _ _ _ _ (entry [.str s, .str top] []) _
 obtain ⟨h1,h2⟩:=hp
 have hb:=xz s
 have hc:=xz top
 have hT:((bO s).1.take (((some ((bO top).1.length:Int)).getD (bO s).1.length).toNat - (((none:Option Int).getD 0).toNat)))=(bO s).1.take (bO top).1.length:=rfl
 have hm:∀x∈(bO s).1.take (bO top).1.length,x.size≤1000000:=fun x hx=>Nat.le_trans (hb.2 x (List.mem_of_mem_take hx)) h1
 refine ⟨⟨⟨tv,tv⟩,?_⟩,fun x1 w2=>⟨⟨⟨tv,tv⟩,?_⟩,fun x3 w4=>⟨tv,fun w5=>?_,fun w6=>⟨tv,fun w7=>?_,fun w8=>⟨fun w9=>?_,fun df=>⟨⟨?_,?_,?_⟩,⟨⟨tv,tv⟩,?_,fun kx dC=>?_⟩,fun rP gx=>⟨⟨⟨tv,tv⟩,?_,fun ku j9=>?_⟩,fun x17 qI=>?_⟩⟩⟩⟩⟩⟩⟩
 all_goals first|refine au ?_|refine aw ?_|exact sa|(dsimp only [vX,nr];omega)|(dsimp only [P4,BZ];omega)|exact sb|(show ((bO s).1.take (bO top).1.length).length≤1000;rw [List.length_take];omega)|exact hm _ dC|exact Nat.le_trans (hc.2 _ j9) h2|skip
 ·have e:pg s top=false:=by unfold pg;rw [w5];rfl
  refine ⟨[],[],_,_,_,rfl,rp,(),tv,?_,?_,rfl⟩
  ·(show _=eO s top);unfold eO;first |(rw [e];rfl) |rfl
  ·rfl
 ·have e:pg s top=false:=by unfold pg;rw [w6,w7];rfl
  refine ⟨[],[],_,_,_,rfl,rp,(),tv,?_,?_,rfl⟩
  ·(show _=eO s top);unfold eO;first |(rw [e];rfl) |rfl
  ·rfl
 ·have e:pg s top=false:=by unfold pg;rw [w6,w8,w9];rfl
  refine ⟨[],[],_,_,_,rfl,rp,(),tv,?_,?_,rfl⟩
  ·(show _=eO s top);unfold eO;first |(rw [e];rfl) |rfl
  ·rfl
 ·have e:pg s top=decide (oN ((bO s).1.take (bO top).1.length)=oN (bO top).1):=by unfold pg;rw [w6,w8,df];rfl
  refine ⟨[],[],_,_,_,rfl,rp,(),tv,?_,?_,rfl⟩
  ·(show _=eO s top);unfold eO;first |(rw [e];rfl) |rfl
  ·rfl
def k7 (s:ByteArray):Prop:=s.size≤1000000∧1≤(bq s).length
def uZ (s:ByteArray):AV:=.s (.str (nth aa (bq s) ((bq s).length - 1)))
def WC (s:ByteArray):List AV:=[]
def jX:Con where
 A:=[.s .str]
 B:=[]
 pre:=fun x b=>k7 x
 α:=fun _ _=>Unit
 φ:=fun _ _ _=>True
 r:=fun x b _=>uZ x
 o:=fun x b _=>WC x
 nf:=0
set_option maxRecDepth 100000 in
theorem wT:Has Tryz.prog 101 jX:=by
 refine Has.ofE (fun _=>true) (fun _=>false) (fun _=>false) (l:=[(111,eL)]) ⟨mU,trivial⟩ (fn:=Tryz.f101) Tryz.func101 rfl (by decide) (cH rfl) ?_
 rintro (s:ByteArray) _ (hp:k7 s)
 show vc _ _ _ _ (entry [.str s] []) _
 obtain ⟨h1,h2⟩:=hp
 have hnl:=qc (s:=s)
 refine ⟨⟨⟨tv,tv⟩,?_⟩,fun x1 w2=>⟨⟨?_,?_⟩,⟨?_,?_⟩,?_⟩⟩
 all_goals first|refine au ?_|refine aw ?_|exact sa|(dsimp only [eL,fu];omega)|exact sb|(unfold imax;omega)|skip
 refine ⟨[],[],_,_,_,rfl,rp,(),tv,?_,?_,rfl⟩
 ·(show _=uZ s);unfold uZ;first |(exact congrArg (fun k:Nat=>AV.s (SV.str (nth aa (bq s) k))) (show ((bq s).length - 1:Int).toNat=(bq s).length - 1 by omega)) |rfl
 ·rfl
def SI (o:Opr):Bool:=decide (o.1=6)||decide (o.1=7)
def ahC (o:Opr):Bool:=decide (o.1=3)||decide (o.1=4)
def SJ (tw a:Bool) (o:Opr):Bool:=
 bif !(ir o.1 1 7)||(!(fT o.2.1)||((tw&& !(fT o.2.2.1))||(!tw&&decide (o.2.2.1≠⟨#[]⟩)))) then false
 else bif (decide (o.1≠3)&&decide (o.2.2.2.2≠⟨#[]⟩))||decide ((o.2.2.2.2.size:Int) > 24) then false
 else decide (o.2.2.2.1=0)||(a&&ir o.2.2.2.1 0 192)
def ZH (o:Opr):Bool:=SJ (SI o) (ahC o) o
def vk (o:Opr):Prop:=o.2.1.size≤1000000∧o.2.2.1.size≤1000000
def GV (o:Opr):AV:=.s (.q (ZH o))
def afO (o:Opr):List AV:=[]
def za:Con where
 A:=[.a [.int, .str, .str, .int, .str]]
 B:=[]
 pre:=fun x b=>vk x
 α:=fun _ _=>Unit
 φ:=fun _ _ _=>True
 r:=fun x b _=>GV x
 o:=fun x b _=>afO x
 nf:=0
set_option maxRecDepth 100000 in
theorem XK:Has Tryz.prog 44 za:=by
 refine Has.ofP 3 (fun _=>true) (fun _=>false) (fun _=>false) (l:=[(24,dy),(72,qt)]) ⟨im,IN,trivial⟩ (fn:=Tryz.f44) Tryz.func44 rfl (by decide) (cH rfl) ?_
 rintro ⟨(o1:Int),(o2:ByteArray),(o3:ByteArray),(o4:Int),(o5:ByteArray)⟩ _ (hp:vk (o1,o2,o3,o4,o5))
 show vcP _ _ _ _ 3 _ (entry [.a [.int o1, .str o2, .str o3, .int o4, .str o5]] [])
 obtain ⟨(h1:o2.size≤1000000),(h2:o3.size≤1000000)⟩:=hp
 refine zh (l:=[(24,dy),(72,qt)]) (ex:=fun _=>true) (wr:=fun _=>false) (pt:=fun _=>false) ⟨im,IN,tv⟩ (fun y:Bool×Bool=>[(.s 1, .s (.bp 1001 0)),(.s 3, .s (.q y.1)),(.s 4, .s (.q y.2)),(.b 1001, .a [.int o1, .str o2, .str o3, .int o4, .str o5])]) (fun y=>y.1=SI (o1,o2,o3,o4,o5)∧y.2=ahC (o1,o2,o3,o4,o5)) (xd 3 (J9 Tryz.f44)) ?_ (fun tail=>?_)
 ·rintro ⟨tw,at'⟩ ⟨(h3:tw=SI (o1,o2,o3,o4,o5)),(h4:at'=ahC (o1,o2,o3,o4,o5))⟩
  have e:ZH (o1,o2,o3,o4,o5)=SJ tw at' (o1,o2,o3,o4,o5):=by rw [h3,h4];rfl
  clear h3 h4
  show vc _ _ _ _ (DT.ap [(.s 1, .s (.bp 1001 0)),(.s 3, .s (.q tw)),(.s 4, .s (.q at')),(.b 1001, .a [.int o1, .str o2, .str o3, .int o4, .str o5])]) _
  refine ⟨⟨⟨tv,tv,tv,tv⟩,tv⟩,fun x1 w2=>⟨tv,fun w3=>?_,fun w4=>⟨⟨⟨tv,tv⟩,?_⟩,fun x5 w6=>⟨tv,fun w7=>?_,fun w8=>⟨tv,fun w9=>⟨⟨⟨tv,tv⟩,?_⟩,fun x10 ka=>⟨tv,fun dC=>?_,fun iA=>⟨tv,fun gx=>⟨fun oU=>?_,fun j9=>⟨tv,fun wu=>⟨tv,fun qI=>?_,fun ot=>⟨fun um=>?_,fun zg=>⟨tv,fun zf=>?_,fun xv=>⟨tv,fun rl=>⟨⟨⟨tv,tv,tv,tv⟩,tv⟩,fun x25 EL=>?_⟩,fun w27=>?_⟩⟩⟩⟩,fun w28=>⟨fun w29=>?_,fun w30=>⟨tv,fun w31=>?_,fun w32=>⟨tv,fun w33=>⟨⟨⟨tv,tv,tv,tv⟩,tv⟩,fun x34 w35=>?_⟩,fun w36=>?_⟩⟩⟩⟩⟩,fun w37=>⟨tv,fun w38=>⟨tv,fun w39=>?_,fun w40=>⟨fun w41=>?_,fun w42=>⟨tv,fun w43=>?_,fun w44=>⟨tv,fun w45=>⟨⟨⟨tv,tv,tv,tv⟩,tv⟩,fun x46 w47=>?_⟩,fun w48=>?_⟩⟩⟩⟩,fun w49=>⟨fun w50=>?_,fun w51=>⟨tv,fun w52=>?_,fun w53=>⟨tv,fun w54=>⟨⟨⟨tv,tv,tv,tv⟩,tv⟩,fun x55 w56=>?_⟩,fun w57=>?_⟩⟩⟩⟩⟩⟩⟩,fun w58=>⟨tv,fun w59=>⟨fun w60=>?_,fun w61=>⟨tv,fun w62=>⟨tv,fun w63=>?_,fun w64=>⟨fun w65=>?_,fun w66=>⟨tv,fun w67=>?_,fun w68=>⟨tv,fun w69=>⟨⟨⟨tv,tv,tv,tv⟩,tv⟩,fun x70 w71=>?_⟩,fun w72=>?_⟩⟩⟩⟩,fun w73=>⟨fun w74=>?_,fun w75=>⟨tv,fun w76=>?_,fun w77=>⟨tv,fun w78=>⟨⟨⟨tv,tv,tv,tv⟩,tv⟩,fun x79 w80=>?_⟩,fun w81=>?_⟩⟩⟩⟩⟩,fun w82=>⟨tv,fun w83=>⟨tv,fun w84=>?_,fun w85=>⟨fun w86=>?_,fun w87=>⟨tv,fun w88=>?_,fun w89=>⟨tv,fun w90=>⟨⟨⟨tv,tv,tv,tv⟩,tv⟩,fun x91 w92=>?_⟩,fun w93=>?_⟩⟩⟩⟩,fun w94=>⟨fun w95=>?_,fun w96=>⟨tv,fun w97=>?_,fun w98=>⟨tv,fun w99=>⟨⟨⟨tv,tv,tv,tv⟩,tv⟩,fun alr ako=>?_⟩,fun alX=>?_⟩⟩⟩⟩⟩⟩⟩⟩⟩⟩
  all_goals first|refine au ?_|refine aw ?_|exact sa|(dsimp only [dy,gO];omega)|(dsimp only [qt,mN];omega)|exact sb|exact h1|exact h2|skip
  all_goals
   refine ⟨[],[],_,_,_,rfl,rp,(),0,tv,?_,?_,rfl⟩
   ·(show _=GV (o1,o2,o3,o4,o5));unfold GV;first |((rw [e];simp only [SJ, *];rfl)) |((rw [e];simp [SJ, *]<;>rfl)) |((exfalso;clear e;simp_all)) |rfl
   ·rfl
 ·refine ⟨tv,fun w1=>⟨tv,fun w2=>?_,fun w3=>?_⟩,fun w4=>⟨tv,fun w5=>?_,fun w6=>?_⟩⟩
  all_goals first|refine au ?_|refine aw ?_|exact sa|(dsimp only [dy,gO];omega)|(dsimp only [qt,mN];omega)|exact sb|skip
  ·refine joinTail tail ((true,decide (o1=4))) [] ((⟨by show true=(decide (o1=6)||decide (o1=7));rw [w1];rfl,by show decide (o1=4)=(decide (o1=3)||decide (o1=4));rw [w3];rfl⟩)) ?_
   repeat' (first |exact trivial |rfl |exact rfl |exact fH List.length_append.symm |apply And.intro)
  ·refine joinTail tail ((decide (o1=7),true)) [] ((⟨by show decide (o1=7)=(decide (o1=6)||decide (o1=7));rw [w4];rfl,by show true=(decide (o1=3)||decide (o1=4));rw [w5];rfl⟩)) ?_
   repeat' (first |exact trivial |rfl |exact rfl |exact fH List.length_append.symm |apply And.intro)
  ·refine joinTail tail ((decide (o1=7),decide (o1=4))) [] ((⟨by show decide (o1=7)=(decide (o1=6)||decide (o1=7));rw [w4];rfl,by show decide (o1=4)=(decide (o1=3)||decide (o1=4));rw [w6];rfl⟩)) ?_
   repeat' (first |exact trivial |rfl |exact rfl |exact fH List.length_append.symm |apply And.intro)
end GL
namespace GL
theorem nD {b0 b1 b2 b3 b4:Nat} {s u:ax} (h:uk s u) (hs:s.wf):lA b0 b1 b2 b3 b4 s=lA b0 b1 b2 b3 b4 u:=by
 unfold lA
 rw [h.wf.n.1,h.wf.n.2.1,h.wf.n.2.2,hs.n.1,hs.n.2.1,hs.n.2.2,h.gone,h.dead,h.bY,h.bT,h.same]
def mI (S:ax) (t:aZ) (many:Int):Prop:=S.wf∧t.rd∧0≤many∧many≤16∧S.gone.length≤1046000∧S.dead.length≤1046000
def aa6 (S:ax) (t:aZ) (many:Int) (z:Bool):Prop:=z=(cA S t many).2.2
def mF (S:ax) (t:aZ) (many:Int) (z:Bool):AV:=match z with |true=>.t [.a (lA 0 1 2 5 6 (cA S t many).1),trA (cA S t many).2.1, .s (.q true)] |false=>.t [.a (lA 0 1 2 3 4 (cA S t many).1),trA (cA S t many).2.1, .s (.q false)]
def qa (S:ax) (t:aZ) (many:Int) (z:Bool):List AV:=match z with |true=>[.rs aa (cA S t many).1.rows, .rs ae (cA S t many).1.refs, .rs ae (cA S t many).1.last, .zz, .zz, .rs ab (cA S t many).1.gone, .rs ab (cA S t many).1.dead] |false=>GD (cA S t many).1++[.zz, .zz]
def mb:Con where
 A:=[.a (stB 0 1 2 3 4), .a [.int, .int, .int, .int, .int, .int, .int], .s .int]
 B:=[.r aa, .r ae, .r ae, .r ab, .r ab]
 pre:=fun x b=>whole x.1.1 x.1.2.1 x.1.2.2.1 x.1.2.2.2.2.1 x.1.2.2.2.2.2.2.1 (b.1) (b.2.1) (b.2.2.1) (b.2.2.2.1) (b.2.2.2.2)∧mI ((b.1,b.2.1,b.2.2.1,x.1.2.2.2.1,b.2.2.2.1,x.1.2.2.2.2.2.1,b.2.2.2.2,x.1.2.2.2.2.2.2.2)) (x.2.1) (x.2.2)
 α:=fun _ _=>Bool
 φ:=fun x b z=>aa6 ((b.1,b.2.1,b.2.2.1,x.1.2.2.2.1,b.2.2.2.1,x.1.2.2.2.2.2.1,b.2.2.2.2,x.1.2.2.2.2.2.2.2)) (x.2.1) (x.2.2) z
 r:=fun x b z=>mF ((b.1,b.2.1,b.2.2.1,x.1.2.2.2.1,b.2.2.2.1,x.1.2.2.2.2.2.1,b.2.2.2.2,x.1.2.2.2.2.2.2.2)) (x.2.1) (x.2.2) z
 o:=fun x b z=>qa ((b.1,b.2.1,b.2.2.1,x.1.2.2.2.1,b.2.2.2.1,x.1.2.2.2.2.2.1,b.2.2.2.2,x.1.2.2.2.2.2.2.2)) (x.2.1) (x.2.2) z
 nf:=2
 mv:=true
set_option maxRecDepth 100000 in
theorem zI:Has Tryz.prog 135 mb:=by
 refine Has.ofP 4 (fun _=>true) (fun _=>false) (fun _=>false) (l:=[(47,en),(49,jT),(50,cE)]) ⟨lX,wP,gl,trivial⟩ (fn:=Tryz.f135) Tryz.func135 rfl (by decide) (cH rfl) ?_
 rintro ⟨⟨(AS:Nat),(AR:Nat),(AQ:Nat),(an:Int),(AO:Nat),(ao:Int),(AN:Nat),(aq:Bool)⟩,⟨(t1:Int),(t2:Int),(t3:Int),(t4:Int),(t5:Int),(t6:Int),(t7:Int)⟩,(many:Int)⟩ ⟨(ai:List ByteArray),(aj:List Int),(ak:List Int),(ag:List Pt),(ah:List Pt)⟩ ⟨⟨(gr:AS=List.length ai),(gq:AR=List.length aj),(gp:AQ=List.length ak),(gn:AO=List.length ag),(gm:AN=List.length ah)⟩,(hp:mI (ai,aj,ak,an,ag,ao,ah,aq) (t1,t2,t3,t4,t5,t6,t7) many)⟩
 subst gr gq gp gn gm
 show vcP _ _ _ _ 4 _ (entry [.a [.xs 0 1 0 ai.length, .xs 1 1 0 aj.length, .xs 2 1 0 ak.length, .int an, .xs 3 5 0 ag.length, .int ao, .xs 4 5 0 ah.length, .q aq], .a [.int t1, .int t2, .int t3, .int t4, .int t5, .int t6, .int t7], .int many] [.rs aa ai, .rs ae aj, .rs ae ak, .rs ab ag, .rs ab ah])
 obtain ⟨oI,sP,CQ,hm1,(hg:ag.length≤1046000),(hd:ah.length≤1046000)⟩:=hp
 have oI:ax.wf (ai,aj,ak,an,ag,ao,ah,aq):=oI
 have sP:aZ.rd (t1,t2,t3,t4,t5,t6,t7):=sP
 have hwl:=fW (s:=(ai,aj,ak,an,ag,ao,ah,aq)) sP
 have hwo:=lz (s:=(ai,aj,ak,an,ag,ao,ah,aq)) sP
 have hly:=FD (t:=(t1,t2,t3,t4,t5,t6,t7)) (l:=ay (ai,aj,ak,an,ag,ao,ah,aq) (t1,t2,t3,t4,t5,t6,t7)) (many:=many) oI
 refine zh (l:=[(47,en),(49,jT),(50,cE)]) (ex:=fun _=>true) (wr:=fun _=>false) (pt:=fun _=>false) ⟨lX,wP,gl,tv⟩ (fun y:Unit=>[(.s 3, .s (.bp 1003 0)),(.s 4, .s (.bp 1004 0)),(.s 6, .s (.bp 1006 0)),(.s 7, .s (.bp 1007 0)),(.s 12, .s (.q false)),(.b 1003, .a (lA 0 1 2 3 4 (ai,aj,ak,an,ag,ao,ah,aq))),(.b 0, .rs aa (bK (ai,aj,ak,an,ag,ao,ah,aq) (t1,t2,t3,t4,t5,t6,t7) (ay (ai,aj,ak,an,ag,ao,ah,aq) (t1,t2,t3,t4,t5,t6,t7)) many).1.rows),(.b 1, .rs ae (bK (ai,aj,ak,an,ag,ao,ah,aq) (t1,t2,t3,t4,t5,t6,t7) (ay (ai,aj,ak,an,ag,ao,ah,aq) (t1,t2,t3,t4,t5,t6,t7)) many).1.refs),(.b 2, .rs ae (bK (ai,aj,ak,an,ag,ao,ah,aq) (t1,t2,t3,t4,t5,t6,t7) (ay (ai,aj,ak,an,ag,ao,ah,aq) (t1,t2,t3,t4,t5,t6,t7)) many).1.last),(.b 3, .rs ab (bK (ai,aj,ak,an,ag,ao,ah,aq) (t1,t2,t3,t4,t5,t6,t7) (ay (ai,aj,ak,an,ag,ao,ah,aq) (t1,t2,t3,t4,t5,t6,t7)) many).1.gone),(.b 4, .rs ab (bK (ai,aj,ak,an,ag,ao,ah,aq) (t1,t2,t3,t4,t5,t6,t7) (ay (ai,aj,ak,an,ag,ao,ah,aq) (t1,t2,t3,t4,t5,t6,t7)) many).1.dead),(.b 1004, .a [.int t1, .int t2, .int t3, .int t4, .int t5, .int t6, .int t7]),(.b 1006, .a (uG pj.zero)),(.b 1007, .a (uG sS.zero))]) (fun y=>decide (many=aZ.many (t1,t2,t3,t4,t5,t6,t7))=false∧(bK (ai,aj,ak,an,ag,ao,ah,aq) (t1,t2,t3,t4,t5,t6,t7) (ay (ai,aj,ak,an,ag,ao,ah,aq) (t1,t2,t3,t4,t5,t6,t7)) many).2.2=false) (xd 4 (J9 Tryz.f135)) ?_ (fun tail=>?_)
 ·rintro ⟨⟩ ⟨(fq:decide (many=aZ.many (t1,t2,t3,t4,t5,t6,t7))=false),(hz:(bK (ai,aj,ak,an,ag,ao,ah,aq) (t1,t2,t3,t4,t5,t6,t7) (ay (ai,aj,ak,an,ag,ao,ah,aq) (t1,t2,t3,t4,t5,t6,t7)) many).2.2=false)⟩
  have xl:=CG oI hz
  have e:(cA (ai,aj,ak,an,ag,ao,ah,aq) (t1,t2,t3,t4,t5,t6,t7) many)=((bK (ai,aj,ak,an,ag,ao,ah,aq) (t1,t2,t3,t4,t5,t6,t7) (ay (ai,aj,ak,an,ag,ao,ah,aq) (t1,t2,t3,t4,t5,t6,t7)) many).1,(t1,t2,t3,t4,t5,t6,t7),false):=afb fq (by rw [hz];rfl)
  refine ⟨fun w1=>⟨[.s 3, .b 1003],[.s 34],rfl,[.s 4, .b 1004],[.s 35],rfl,[.s 6, .s 34, .b 1006],[.b 1006],rfl,[.s 7, .s 35, .b 1007],[.b 1007],rfl,[],[.s 8],rfl,?_⟩,fun w2=>?_⟩
  all_goals first|refine au ?_|refine aw ?_|exact sa|(dsimp only [en,fM];omega)|(dsimp only [jT,kX];omega)|(dsimp only [cE,dD];omega)|exact sb|skip
  ·have es:lA 0 1 2 3 4 (ai,aj,ak,an,ag,ao,ah,aq)=lA 0 1 2 3 4 (bK (ai,aj,ak,an,ag,ao,ah,aq) (t1,t2,t3,t4,t5,t6,t7) (ay (ai,aj,ak,an,ag,ao,ah,aq) (t1,t2,t3,t4,t5,t6,t7)) many).1:=nD xl oI
   refine ⟨[],[],_,_,_,rfl,rp,false,2,(by show false=(cA (ai,aj,ak,an,ag,ao,ah,aq) (t1,t2,t3,t4,t5,t6,t7) many).2.2;rw [e]),?_,?_,rfl⟩
   ·(show _=mF (ai,aj,ak,an,ag,ao,ah,aq) (t1,t2,t3,t4,t5,t6,t7) many false);unfold mF;first |(rw [e];rfl) |(rw [e];exact congrArg (fun x=>AV.t [A0.a x,trA (t1,t2,t3,t4,t5,t6,t7),A0.s (SV.q false)]) es) |rfl
   ·(show _=qa (ai,aj,ak,an,ag,ao,ah,aq) (t1,t2,t3,t4,t5,t6,t7) many false);unfold qa;first |(rw [e];rfl) |(rw [e];exact congrArg (fun x=>AV.t [A0.a x,trA (t1,t2,t3,t4,t5,t6,t7),A0.s (SV.q false)]) es) |rfl
  ·exact absurd (show true=false from w2) Bool.noConfusion
 have aiD:=tail
 clear tail
 refine zh (l:=[(47,en),(49,jT),(50,cE)]) (ex:=fun _=>true) (wr:=fun _=>false) (pt:=fun _=>false) ⟨lX,wP,gl,tv⟩ (fun y:Unit=>[(.s 2, .int many),(.s 6, .s (.bp 1006 0)),(.s 7, .s (.bp 1007 0)),(.s 9, .s (.xs 230000 5 0 (ay (ai,aj,ak,an,ag,ao,ah,aq) (t1,t2,t3,t4,t5,t6,t7)).length)),(.s 10, .s (.bp 1010 0)),(.s 11, .s (.bp 1011 0)),(.s 12, .s (.q true)),(.b 1010, .a (lA 0 1 2 1000290000 1000290001 (bK (ai,aj,ak,an,ag,ao,ah,aq) (t1,t2,t3,t4,t5,t6,t7) (ay (ai,aj,ak,an,ag,ao,ah,aq) (t1,t2,t3,t4,t5,t6,t7)) many).1)),(.b 0, .rs aa (bK (ai,aj,ak,an,ag,ao,ah,aq) (t1,t2,t3,t4,t5,t6,t7) (ay (ai,aj,ak,an,ag,ao,ah,aq) (t1,t2,t3,t4,t5,t6,t7)) many).1.rows),(.b 1, .rs ae (bK (ai,aj,ak,an,ag,ao,ah,aq) (t1,t2,t3,t4,t5,t6,t7) (ay (ai,aj,ak,an,ag,ao,ah,aq) (t1,t2,t3,t4,t5,t6,t7)) many).1.refs),(.b 2, .rs ae (bK (ai,aj,ak,an,ag,ao,ah,aq) (t1,t2,t3,t4,t5,t6,t7) (ay (ai,aj,ak,an,ag,ao,ah,aq) (t1,t2,t3,t4,t5,t6,t7)) many).1.last),(.b 1000290000, .rs ab (bK (ai,aj,ak,an,ag,ao,ah,aq) (t1,t2,t3,t4,t5,t6,t7) (ay (ai,aj,ak,an,ag,ao,ah,aq) (t1,t2,t3,t4,t5,t6,t7)) many).1.gone),(.b 1000290001, .rs ab (bK (ai,aj,ak,an,ag,ao,ah,aq) (t1,t2,t3,t4,t5,t6,t7) (ay (ai,aj,ak,an,ag,ao,ah,aq) (t1,t2,t3,t4,t5,t6,t7)) many).1.dead),(.b 1011, .a [.int (bK (ai,aj,ak,an,ag,ao,ah,aq) (t1,t2,t3,t4,t5,t6,t7) (ay (ai,aj,ak,an,ag,ao,ah,aq) (t1,t2,t3,t4,t5,t6,t7)) many).2.1.1, .int (bK (ai,aj,ak,an,ag,ao,ah,aq) (t1,t2,t3,t4,t5,t6,t7) (ay (ai,aj,ak,an,ag,ao,ah,aq) (t1,t2,t3,t4,t5,t6,t7)) many).2.1.2.1, .int (bK (ai,aj,ak,an,ag,ao,ah,aq) (t1,t2,t3,t4,t5,t6,t7) (ay (ai,aj,ak,an,ag,ao,ah,aq) (t1,t2,t3,t4,t5,t6,t7)) many).2.1.2.2.1, .int (bK (ai,aj,ak,an,ag,ao,ah,aq) (t1,t2,t3,t4,t5,t6,t7) (ay (ai,aj,ak,an,ag,ao,ah,aq) (t1,t2,t3,t4,t5,t6,t7)) many).2.1.2.2.2.1, .int (bK (ai,aj,ak,an,ag,ao,ah,aq) (t1,t2,t3,t4,t5,t6,t7) (ay (ai,aj,ak,an,ag,ao,ah,aq) (t1,t2,t3,t4,t5,t6,t7)) many).2.1.2.2.2.2.1, .int (bK (ai,aj,ak,an,ag,ao,ah,aq) (t1,t2,t3,t4,t5,t6,t7) (ay (ai,aj,ak,an,ag,ao,ah,aq) (t1,t2,t3,t4,t5,t6,t7)) many).2.1.2.2.2.2.2.1, .int (bK (ai,aj,ak,an,ag,ao,ah,aq) (t1,t2,t3,t4,t5,t6,t7) (ay (ai,aj,ak,an,ag,ao,ah,aq) (t1,t2,t3,t4,t5,t6,t7)) many).2.1.2.2.2.2.2.2]),(.b 1006, .a (uG pj.zero)),(.b 1007, .a (uG sS.zero)),(.b 230000, .rs ab (ay (ai,aj,ak,an,ag,ao,ah,aq) (t1,t2,t3,t4,t5,t6,t7)))]) (fun y=>decide (many=aZ.many (t1,t2,t3,t4,t5,t6,t7))=false∧(bK (ai,aj,ak,an,ag,ao,ah,aq) (t1,t2,t3,t4,t5,t6,t7) (ay (ai,aj,ak,an,ag,ao,ah,aq) (t1,t2,t3,t4,t5,t6,t7)) many).2.2=true) (xd 4 (J9 Tryz.f135)) ?_ (fun tail=>?_)
 ·rintro ⟨⟩ ⟨(fq:decide (many=aZ.many (t1,t2,t3,t4,t5,t6,t7))=false),(hz:(bK (ai,aj,ak,an,ag,ao,ah,aq) (t1,t2,t3,t4,t5,t6,t7) (ay (ai,aj,ak,an,ag,ao,ah,aq) (t1,t2,t3,t4,t5,t6,t7)) many).2.2=true)⟩
  have e:(cA (ai,aj,ak,an,ag,ao,ah,aq) (t1,t2,t3,t4,t5,t6,t7) many)=(dq ((ay (ai,aj,ak,an,ag,ao,ah,aq) (t1,t2,t3,t4,t5,t6,t7)).drop many.toNat) (bK (ai,aj,ak,an,ag,ao,ah,aq) (t1,t2,t3,t4,t5,t6,t7) (ay (ai,aj,ak,an,ag,ao,ah,aq) (t1,t2,t3,t4,t5,t6,t7)) many).1,(bK (ai,aj,ak,an,ag,ao,ah,aq) (t1,t2,t3,t4,t5,t6,t7) (ay (ai,aj,ak,an,ag,ao,ah,aq) (t1,t2,t3,t4,t5,t6,t7)) many).2.1,true):=afa fq (by rw [hz];rfl)
  refine ⟨fun w1=>⟨[.s 3],[],rfl,?_⟩,fun w2=>?_⟩
  all_goals first|refine au ?_|refine aw ?_|exact sa|(dsimp only [en,fM];omega)|(dsimp only [jT,kX];omega)|(dsimp only [cE,dD];omega)|exact sb|skip
  ·exact absurd (show false=true from w1) Bool.noConfusion
  ·refine cI (l:=[(47,en),(49,jT),(50,cE)]) (ex:=fun _=>true) (wr:=fun _=>false) (pt:=fun _=>false) ⟨lX,wP,gl,trivial⟩ [.s 6, .s 7, .s 9, .s 10, .s 11, .b 1011, .b 1006, .b 1007, .b 230000] (fun y:Int×ax=>[(.s 13, .int y.1),(.b 1010, .a (lA 0 1 2 1000000001 1000000002 y.2)),(.b 0, .rs aa y.2.rows),(.b 1, .rs ae y.2.refs),(.b 2, .rs ae y.2.last),(.b 1000000001, .rs ab y.2.gone),(.b 1000000002, .rs ab y.2.dead)]) (fun y=>y.2.wf∧(0≤y.1∧y.1≤16)∧(y.2.gone.length≤1046005+y.1.toNat∧y.2.dead.length≤1046005+y.1.toNat)∧dq ((ay (ai,aj,ak,an,ag,ao,ah,aq) (t1,t2,t3,t4,t5,t6,t7)).drop y.1.toNat) y.2=dq ((ay (ai,aj,ak,an,ag,ao,ah,aq) (t1,t2,t3,t4,t5,t6,t7)).drop many.toNat) (bK (ai,aj,ak,an,ag,ao,ah,aq) (t1,t2,t3,t4,t5,t6,t7) (ay (ai,aj,ak,an,ag,ao,ah,aq) (t1,t2,t3,t4,t5,t6,t7)) many).1) (fun y=>16 - y.1.toNat) (many,(bK (ai,aj,ak,an,ag,ao,ah,aq) (t1,t2,t3,t4,t5,t6,t7) (ay (ai,aj,ak,an,ag,ao,ah,aq) (t1,t2,t3,t4,t5,t6,t7)) many).1) [(1000000001,1000290000),(1000000002,1000290001)] ⟨hly.1,⟨CQ,hm1⟩,⟨Nat.le_trans hly.2.1 (by have:ag.length≤1046000:=hg;show ag.length+5≤1046005+many.toNat;omega),Nat.le_trans hly.2.2.1 (by have:ah.length≤1046000:=hd;show ah.length+5≤1046005+many.toNat;omega)⟩,rfl⟩ ru ?_
   rintro ⟨i,u⟩ ⟨(hu:u.wf),⟨(hi0:0≤i),(hi:i≤16)⟩,⟨(hug:u.gone.length≤1046005+i.toNat),(hud:u.dead.length≤1046005+i.toNat)⟩,(j6:dq ((ay (ai,aj,ak,an,ag,ao,ah,aq) (t1,t2,t3,t4,t5,t6,t7)).drop i.toNat) u=dq ((ay (ai,aj,ak,an,ag,ao,ah,aq) (t1,t2,t3,t4,t5,t6,t7)).drop many.toNat) (bK (ai,aj,ak,an,ag,ao,ah,aq) (t1,t2,t3,t4,t5,t6,t7) (ay (ai,aj,ak,an,ag,ao,ah,aq) (t1,t2,t3,t4,t5,t6,t7)) many).1)⟩
   have hia:=nT (oA hwo i.toNat)
   have cg:decide (i < ((ay (ai,aj,ak,an,ag,ao,ah,aq) (t1,t2,t3,t4,t5,t6,t7)).length:Int))=true→i.toNat < (ay (ai,aj,ak,an,ag,ao,ah,aq) (t1,t2,t3,t4,t5,t6,t7)).length:=fun h=>by have:=cw h;omega
   refine ⟨fun w1=>⟨[.s 10, .b 1010],[.s 43],rfl,[.s 9],[.s 44],rfl,[.s 13],[.s 45],rfl,[.s 44, .s 45],[.s 46],rfl,⟨?_,?_⟩,[.s 46, .b 230000],[.s 47],rfl,?_,[.s 43, .s 47, .b 0, .b 1, .b 2, .b 1000000001, .b 1000000002, .b 1000490001, .b 1000490000],[.s 48, .b 0, .b 1, .b 2, .b 1000000001, .b 1000000002, .b 1000490000, .b 1000490001],rfl,⟨⟨⟨tv,tv,tv,tv,tv,tv,tv,tv,tv⟩,⟨tv,tv,tv,tv,tv,tv⟩,tv⟩,⟨?_,?_,?_,?_,?_⟩,⟨?_,?_,?_⟩,?_,?_,?_,?_⟩,?_,fun x2 w3=>⟨[.s 10, .s 48, .b 1010],[.b 1010],rfl,⟨?_,?_⟩,?_⟩⟩,fun w4=>⟨[.s 10, .b 1010],[.s 49],rfl,[.s 11, .b 1011],[.s 50],rfl,[.s 6, .s 49, .b 1006],[.b 1006],rfl,[.s 7, .s 50, .b 1007],[.b 1007],rfl,[],[.s 8],rfl,?_⟩⟩
   all_goals first|refine au ?_|refine aw ?_|exact sa|(dsimp only [en,fM];omega)|(dsimp only [jT,kX];omega)|(dsimp only [cE,dD];omega)|exact sb|exact cg w1|exact cw w1|exact hu.n.1|exact hu.n.2.1|exact hu.n.2.2|exact hia.1|exact hia.2|exact Nat.le_trans hug (by omega)|exact Nat.le_trans hud (by omega)|skip
   ·have hil:=cg w1
    have mo:=cw (p:=i < ((ay (ai,aj,ak,an,ag,ao,ah,aq) (t1,t2,t3,t4,t5,t6,t7)).length:Int)) w1
    have I2:=o6 u (nth ab (ay (ai,aj,ak,an,ag,ao,ah,aq) (t1,t2,t3,t4,t5,t6,t7)) i.toNat)
    have hnx:(i+1).toNat=i.toNat+1:=by omega
    refine ⟨(i+1,cG u (nth ab (ay (ai,aj,ak,an,ag,ao,ah,aq) (t1,t2,t3,t4,t5,t6,t7)) i.toNat)),[(1000000001,1000490000),(1000000002,1000490001)],?_,?_,?_⟩
    rotate_right
    ·exact rq
    ·refine ⟨qf hu,⟨by show 0≤i+1;omega,by show i+1≤16;omega⟩,⟨by show (cG u (nth ab (ay (ai,aj,ak,an,ag,ao,ah,aq) (t1,t2,t3,t4,t5,t6,t7)) i.toNat)).gone.length≤1046005+(i+1).toNat;omega,by show (cG u (nth ab (ay (ai,aj,ak,an,ag,ao,ah,aq) (t1,t2,t3,t4,t5,t6,t7)) i.toNat)).dead.length≤1046005+(i+1).toNat;omega⟩,?_⟩
     show dq ((ay (ai,aj,ak,an,ag,ao,ah,aq) (t1,t2,t3,t4,t5,t6,t7)).drop (i+1).toNat) _=_
     rw [←j6,bP (ek:=ab) hil,hnx];rfl
    ·show 16 - (i+1).toNat < 16 - i.toNat;omega
   ·have e2:dq ((ay (ai,aj,ak,an,ag,ao,ah,aq) (t1,t2,t3,t4,t5,t6,t7)).drop many.toNat) (bK (ai,aj,ak,an,ag,ao,ah,aq) (t1,t2,t3,t4,t5,t6,t7) (ay (ai,aj,ak,an,ag,ao,ah,aq) (t1,t2,t3,t4,t5,t6,t7)) many).1=u:=by
     rw [←j6,List.drop_eq_nil_of_le (by have:=ca (p:=i < ((ay (ai,aj,ak,an,ag,ao,ah,aq) (t1,t2,t3,t4,t5,t6,t7)).length:Int)) w4;omega)];rfl
    have e3:(cA (ai,aj,ak,an,ag,ao,ah,aq) (t1,t2,t3,t4,t5,t6,t7) many)=(u,(bK (ai,aj,ak,an,ag,ao,ah,aq) (t1,t2,t3,t4,t5,t6,t7) (ay (ai,aj,ak,an,ag,ao,ah,aq) (t1,t2,t3,t4,t5,t6,t7)) many).2.1,true):=by rw [e,e2]
    refine ⟨[1000000001,1000000002],[],_,_,_,rfl,rp,true,0,(by show true=(cA (ai,aj,ak,an,ag,ao,ah,aq) (t1,t2,t3,t4,t5,t6,t7) many).2.2;rw [e3]),?_,?_,rfl⟩
    ·(show _=mF (ai,aj,ak,an,ag,ao,ah,aq) (t1,t2,t3,t4,t5,t6,t7) many true);unfold mF;first |(rw [e3];rfl) |rfl
    ·(show _=qa (ai,aj,ak,an,ag,ao,ah,aq) (t1,t2,t3,t4,t5,t6,t7) many true);unfold qa;first |(rw [e3];rfl) |rfl
 ·refine ⟨fun w1=>⟨[.s 3, .b 1003],[.s 18],rfl,[.s 4, .b 1004],[.s 19],rfl,[.s 6, .s 18, .b 1006],[.b 1006],rfl,[.s 7, .s 19, .b 1007],[.b 1007],rfl,[],[.s 8],rfl,?_⟩,fun w2=>⟨⟨⟨⟨⟨?_,?_⟩,⟨?_,?_⟩,⟨?_,?_⟩,tv,⟨?_,?_⟩,tv,⟨?_,?_⟩,tv,tv⟩,⟨tv,tv,tv,tv,tv,tv,tv,tv⟩,tv⟩,?_,?_⟩,fun x3 w4=>⟨⟨⟨⟨tv,tv,tv,tv,tv,tv,tv,tv,tv⟩,⟨tv,tv,tv,tv,tv,tv,tv,tv⟩,⟨?_,?_⟩,tv,tv⟩,⟨?_,?_,?_,?_,?_⟩,?_,?_,?_,?_,?_,?_,?_⟩,fun |false=>fun w5=>?_ |true=>fun w6=>?_⟩⟩⟩
  all_goals first|refine au ?_|refine aw ?_|exact sa|(dsimp only [en,fM];omega)|(dsimp only [jT,kX];omega)|(dsimp only [cE,dD];omega)|exact sb|exact oI|exact oI.rd|exact sP|exact hwl|exact Nat.le_trans hg (by decide)|exact Nat.le_trans hd (by decide)|skip
  ·have e:(cA (ai,aj,ak,an,ag,ao,ah,aq) (t1,t2,t3,t4,t5,t6,t7) many)=((ai,aj,ak,an,ag,ao,ah,aq),(t1,t2,t3,t4,t5,t6,t7),true):=afc w1
   refine ⟨[3,4],[],_,_,_,rfl,rp,true,0,(by show true=(cA (ai,aj,ak,an,ag,ao,ah,aq) (t1,t2,t3,t4,t5,t6,t7) many).2.2;rw [e]),?_,?_,rfl⟩
   ·(show _=mF (ai,aj,ak,an,ag,ao,ah,aq) (t1,t2,t3,t4,t5,t6,t7) many true);unfold mF;first |(rw [e];rfl) |rfl
   ·(show _=qa (ai,aj,ak,an,ag,ao,ah,aq) (t1,t2,t3,t4,t5,t6,t7) many true);unfold qa;first |(rw [e];rfl) |rfl
  ·have hz:(bK (ai,aj,ak,an,ag,ao,ah,aq) (t1,t2,t3,t4,t5,t6,t7) (ay (ai,aj,ak,an,ag,ao,ah,aq) (t1,t2,t3,t4,t5,t6,t7)) many).2.2=false:=(show false=(bK (ai,aj,ak,an,ag,ao,ah,aq) (t1,t2,t3,t4,t5,t6,t7) (ay (ai,aj,ak,an,ag,ao,ah,aq) (t1,t2,t3,t4,t5,t6,t7)) many).2.2 from w5).symm
   refine joinTail aiD () [] (⟨w2,hz⟩) ?_
   repeat' (first |exact trivial |rfl |exact rfl |exact fH List.length_append.symm |apply And.intro)
  ·have hz:(bK (ai,aj,ak,an,ag,ao,ah,aq) (t1,t2,t3,t4,t5,t6,t7) (ay (ai,aj,ak,an,ag,ao,ah,aq) (t1,t2,t3,t4,t5,t6,t7)) many).2.2=true:=(show true=(bK (ai,aj,ak,an,ag,ao,ah,aq) (t1,t2,t3,t4,t5,t6,t7) (ay (ai,aj,ak,an,ag,ao,ah,aq) (t1,t2,t3,t4,t5,t6,t7)) many).2.2 from w6).symm
   refine joinTail tail ((())) [] ((⟨w2,hz⟩)) ?_
   repeat' (first |exact trivial |rfl |exact rfl |exact fH List.length_append.symm |apply And.intro)
end GL
end Go.Proofs.YtbfgjadbfjkcdaaGreatDoor
