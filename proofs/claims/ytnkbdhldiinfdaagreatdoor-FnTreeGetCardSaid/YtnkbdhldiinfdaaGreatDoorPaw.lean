/- A drawn law returns true for every code (its row lists package variables, tied by the card): part 23. -/
import Derived.Test.YtnkbdhldiinfdaaGreatDoorPar
import Derived.Test.YtnkbdhldiinfdaaGreatDoorPat
set_option maxHeartbeats 20000000
set_option maxRecDepth 100000
set_option linter.all false
namespace Go.Proofs.YtnkbdhldiinfdaaGreatDoor
namespace GL
def LU (s:ByteArray) (k:Nat):Bool:=decide (bL s k<97)||decide (bL s k>122)
def nmF:Nat→ByteArray→Nat→Bool
 |0,_,_=>true
 |f+1,s,k=>bif LU s k then false else nmF f s (k+1)
def fC (s:ByteArray):Bool:=nmF s.size s 0&&ik s.size 1 4
theorem agJ {f:Nat}{s:ByteArray}{k:Nat}(h:LU s k=true):nmF (f+1) s k=false:=by rw [nmF,h];rfl
theorem aiZ {f:Nat}{s:ByteArray}{k:Nat}(h:LU s k=false):nmF (f+1) s k=nmF f s (k+1):=by rw [nmF,h];rfl
theorem SR {s:ByteArray}(h:nmF s.size s 0=false):fC s=false:=by unfold fC;rw [h];rfl
theorem adz {s:ByteArray}(h:nmF s.size s 0=true):fC s=ik s.size 1 4:=by unfold fC;rw [h];rfl
def mP (s:ByteArray):Prop:=s.size≤1000000
def kH (s:ByteArray):AV:=.s (.q (fC s))
def abu (s:ByteArray):List AV:=[]
def oi:cn where
 A:=[.s .str]
 B:=[]
 pre:=fun x b=>mP x
 r:=fun x b _=>kH x
 o:=fun x b _=>abu x
theorem zM:Has Tryz.prog 188 oi:=by
 refine Has.fm zT zF zF (l:=[(35,hZ)]) ⟨iA,aa⟩ Tryz.func188 ?_
 rintro (s:ByteArray) _ (hp:mP s)
 show vc _ _ _ _ (entry [.str s] []) _
 unfold mP at hp
 refine cN (l:=[(35,hZ)]) (ex:=zT) (wr:=zF) (pt:=zF) ⟨iA,aa⟩ [.s 0] (fun y:Nat×Nat=>[(.s 3,.int y.1)]) (fun y=>y.1+y.2=s.size∧nmF y.2 s y.1=nmF s.size s 0) (fun y=>y.2) (0,s.size) [] ⟨ZA6 _,rfl⟩ dM ?_
 rintro⟨k,f⟩ ⟨(hk:k+f=s.size),(he:nmF f s k=nmF s.size s 0)⟩
 have hb:=xf s k
 have bU:decide ((k:Int)<s.size)=true→∃g,f=g+1:=fun h=>⟨f-1,by have:=aJ h;omega⟩
 refine⟨fun w1=>⟨⟨?_,?_⟩,aa,fun w2=>?_,fun w3=>⟨⟨?_,?_⟩,fun w4=>?_,fun w5=>⟨⟨?_,?_⟩,?_⟩⟩⟩,fun w6=>⟨⟨tv4,aa⟩,fun x7 w8=>?_⟩⟩
 all_goals first|refine aw ?_|refine ax ?_|exact a8|exact a7|skip
 ·obtain⟨g,rfl⟩:=bU w1
  have e:fC s=false:=SR (by rw [←he];exact agJ (by unfold LU;rw [show decide (bL s k<97)=true from w2];rfl))
  refine⟨[],[],_,_,_,rfl,az,(),aa,?_,?_,rfl⟩
  ·(show _=kH s);unfold kH;first|(rw [e];rfl)|rfl
  ·rfl
 ·obtain⟨g,rfl⟩:=bU w1
  have e:fC s=false:=SR (by rw [←he];exact agJ (by unfold LU;rw [show decide (bL s k>122)=true from w4,ZC4]))
  refine⟨[],[],_,_,_,rfl,az,(),aa,?_,?_,rfl⟩
  ·(show _=kH s);unfold kH;first|(rw [e];rfl)|rfl
  ·rfl
 ·obtain⟨g,rfl⟩:=bU w1
  refine⟨(k+1,g),[],?_,?_,?_⟩
  rotate_right
  ·exact bV
  ·exact⟨by show k+1+g=s.size;omega,by rw [←he];exact (aiZ (by unfold LU;rw [show decide (bL s k<97)=false from w3,show decide (bL s k>122)=false from w5];rfl)).symm⟩
  ·exact ZD9 g
 ·have hf:f=0:=by have:=aA (p:=(k:Int)<s.size) w6;omega
  subst hf
  have e:fC s=ik s.size 1 4:=adz (by rw [←he];rfl)
  refine⟨[],[],_,_,_,rfl,az,(),aa,?_,?_,rfl⟩
  ·(show _=kH s);unfold kH;first|(rw [e];rfl)|rfl
  ·rfl
def kf (l:List eU) (i:Nat):Bool:= !(fC (nth aK l i).1)||(!(ik (nth aK l i).2 1 15)||(decide ((i:Int)>0)&& !(Op.bytesLess (nth aK l ((i:Int)-1).toNat).1.toList (nth aK l i).1.toList)))
def z7:Nat→List eU→Nat→Bool
 |0,_,_=>true
 |f+1,l,i=>bif kf l i then false else z7 f l (i+1)
def eE (l:List eU):Bool:=z7 l.length l 0&&decide ((l.length:Int)≤12)
theorem PT {f:Nat}{l:List eU}{k:Nat}(h:kf l k=true):z7 (f+1) l k=false:=by rw [z7,h];rfl
theorem XU {f:Nat}{l:List eU}{k:Nat}(h:kf l k=false):z7 (f+1) l k=z7 f l (k+1):=by rw [z7,h];rfl
theorem vN {l:List eU}(h:z7 l.length l 0=false):eE l=false:=by unfold eE;rw [h];rfl
theorem UB {l:List eU}(h:z7 l.length l 0=true):eE l=decide ((l.length:Int)≤12):=by unfold eE;rw [h];rfl
theorem aeQ {l:List eU}{i:Nat}(h:(!(fC (nth aK l i).1))=true):kf l i=true:=by unfold kf;rw [h];rfl
theorem aeP {l:List eU}{i:Nat}(h:(!(ik (nth aK l i).2 1 15))=true):kf l i=true:=by unfold kf;rw [h,Bool.true_or,ZC4]
theorem aeO {l:List eU}{i:Nat}(h:decide ((i:Int)>0)=true) (h2:(!(Op.bytesLess (nth aK l ((i:Int)-1).toNat).1.toList (nth aK l i).1.toList))=true):kf l i=true:=by unfold kf;rw [h,h2,Bool.and_true,ZC4,ZC4]
theorem aeR {l:List eU}{i:Nat}(h1:(!(fC (nth aK l i).1))=false) (h2:(!(ik (nth aK l i).2 1 15))=false) (h3:decide ((i:Int)>0)=false):kf l i=false:=by unfold kf;rw [h1,h2,h3];rfl
theorem ab5 {l:List eU}{i:Nat}(h1:(!(fC (nth aK l i).1))=false) (h2:(!(ik (nth aK l i).2 1 15))=false) (h4:(!(Op.bytesLess (nth aK l ((i:Int)-1).toNat).1.toList (nth aK l i).1.toList))=false):kf l i=false:=by unfold kf;rw [h1,h2,h4,ZD7];rfl
structure afx (l:List eU):Prop where
 len:l.length≤1000000
 sz:∀e∈l,e.1.size≤1000000
theorem afx.at {l:List eU}(h:afx l) (k:Nat):(nth aK l k).1.size≤1000000:=by
 by_cases hk:k<l.length
 ·exact h.sz _ (bR (ek:=aK) hk)
 ·unfold nth;rw [ZD8 (by omega)];exact ZA7 _
def nt (l:List eU):Prop:=afx l
def eX (l:List eU):AV:=.s (.q (eE l))
def OT (l:List eU):List AV:=[]
def oj:cn where
 A:=[.s (.vz aK)]
 B:=[]
 pre:=fun x b=>nt x
 r:=fun x b _=>eX x
 o:=fun x b _=>OT x
theorem D4:Has Tryz.prog 246 oj:=by
 refine Has.fm zT zF zF (l:=[(35,hZ),(188,oi)]) ⟨iA,zM,aa⟩ Tryz.func246 ?_
 rintro (l:List eU) _ (hp:nt l)
 show vc _ _ _ _ (entry [.s (.vz aK l)] []) _
 have hE:afx l:=hp
 have hlen:=hE.len
 refine cN (l:=[(35,hZ),(188,oi)]) (ex:=zT) (wr:=zF) (pt:=zF) ⟨iA,zM,aa⟩ [.s 0] (fun y:Nat×Nat=>[(.s 3,.int y.1)]) (fun y=>y.1+y.2=l.length∧z7 y.2 l y.1=z7 l.length l 0) (fun y=>y.2) (0,l.length) [] ⟨ZA6 _,rfl⟩ dM ?_
 rintro⟨k,f⟩ ⟨(hk:k+f=l.length),(he:z7 f l k=z7 l.length l 0)⟩
 have bU:decide ((k:Int)<(l.length:Int))=true→k<l.length:=fun h=>by have:=aJ h;omega
 have hg:decide ((k:Int)<(l.length:Int))=true→∃g,f=g+1:=fun h=>⟨f-1,by have:=bU h;omega⟩
 refine⟨fun w1=>⟨Sq0,Sq10,rfl,Sq3,Sq11,rfl,[.s 10,.s 11],Sq12,rfl,⟨?_,?_⟩,Sq12,Sq13,rfl,Sq13,Sq14,rfl,Sq14,Sq15,rfl,⟨tv2,?_⟩,?_,fun x2 w3=>⟨Sq15,Sq16,rfl,Sq16,Sq17,rfl,aa,fun w4=>⟨Sq17,Sq18,rfl,Sq17,Sq19,rfl,Sq17,Sq20,rfl,Sq17,Sq21,rfl,Sq17,Sq22,rfl,Sq17,Sq23,rfl,Sq17,Sq24,rfl,[.s 17,.s 24],Sq25,rfl,Sq25,Sq26,rfl,Sq26,Sq27,rfl,Sq26,Sq28,rfl,Sq26,Sq29,rfl,Sq29,Sq30,rfl,Sq29,Sq31,rfl,Sq29,Sq32,rfl,Sq29,Sq33,rfl,Sq29,Sq34,rfl,Sq29,Sq35,rfl,Sq29,Sq36,rfl,Sq29,Sq37,rfl,Sq29,Sq38,rfl,Sq29,Sq39,rfl,Sq29,Sq40,rfl,Sq29,Sq41,rfl,Sq26,Sq42,rfl,[.s 26,.s 42],Sq43,rfl,?_⟩,fun w5=>⟨[.s 17,.s 0],Sq18,rfl,[.s 17,.s 3],Sq19,rfl,[.s 17,.s 18,.s 19],Sq20,rfl,⟨?_,?_⟩,[.s 17,.s 20],Sq21,rfl,[.s 17,.s 21],Sq22,rfl,[.s 17,.s 22],Sq23,rfl,⟨tv4,aa⟩,?_,fun x6 w7=>⟨[.s 17,.s 23],Sq24,rfl,[.s 17,.s 24],Sq25,rfl,Sq25,Sq26,rfl,aa,fun w8=>⟨Sq26,Sq27,rfl,Sq26,Sq28,rfl,Sq26,Sq29,rfl,Sq29,Sq30,rfl,Sq29,Sq31,rfl,Sq29,Sq32,rfl,Sq29,Sq33,rfl,Sq29,Sq34,rfl,Sq29,Sq35,rfl,Sq29,Sq36,rfl,Sq29,Sq37,rfl,Sq29,Sq38,rfl,Sq29,Sq39,rfl,Sq29,Sq40,rfl,Sq29,Sq41,rfl,Sq26,Sq42,rfl,[.s 26,.s 42],Sq43,rfl,?_⟩,fun w9=>⟨[.s 26,.s 3],Sq27,rfl,[.s 26,.s 27],Sq28,rfl,[.s 26,.s 28],Sq29,rfl,aa,fun dy=>⟨[.s 29,.s 0],Sq30,rfl,[.s 29,.s 3],Sq31,rfl,[.s 29,.s 31],Sq32,rfl,⟨?_,?_⟩,[.s 29,.s 30,.s 32],Sq33,rfl,⟨?_,?_⟩,[.s 29,.s 33],Sq34,rfl,[.s 29,.s 34],Sq35,rfl,[.s 29,.s 0],Sq36,rfl,[.s 29,.s 3],Sq37,rfl,[.s 29,.s 36,.s 37],Sq38,rfl,⟨?_,?_⟩,[.s 29,.s 38],Sq39,rfl,[.s 29,.s 39],Sq40,rfl,[.s 29,.s 35,.s 40],Sq41,rfl,[.s 26,.s 29,.s 41],Sq42,rfl,[.s 26,.s 42],Sq43,rfl,fun kA=>?_,fun dJ=>⟨⟨?_,?_⟩,?_⟩⟩,fun iU=>⟨Sq29,Sq30,rfl,Sq29,Sq31,rfl,Sq29,Sq32,rfl,Sq29,Sq33,rfl,Sq29,Sq34,rfl,Sq29,Sq35,rfl,Sq29,Sq36,rfl,Sq29,Sq37,rfl,Sq29,Sq38,rfl,Sq29,Sq39,rfl,Sq29,Sq40,rfl,Sq29,Sq41,rfl,[.s 26,.s 29,.s 41],Sq42,rfl,[.s 26,.s 42],Sq43,rfl,⟨?_,?_⟩,?_⟩⟩⟩⟩⟩⟩,fun gO=>?_⟩
 all_goals first|refine aw ?_|refine ax ?_|exact a8|(dsimp only [oi,mP];omega)|exact a7|exact hE.at _|exact bU w1|skip
 ·obtain⟨g,rfl⟩:=hg w1
  have e:eE l=false:=vN (by rw [←he];exact PT (aeQ (show (!(fC (nth aK l k).1))=true from w4)))
  refine⟨[],[],_,_,_,rfl,az,(),aa,?_,?_,rfl⟩
  ·(show _=eX l);unfold eX;first|(rw [e];rfl)|rfl
  ·rfl
 ·obtain⟨g,rfl⟩:=hg w1
  have e:eE l=false:=vN (by rw [←he];exact PT (aeP (show (!(ik (nth aK l k).2 1 15))=true from w8)))
  refine⟨[],[],_,_,_,rfl,az,(),aa,?_,?_,rfl⟩
  ·(show _=eX l);unfold eX;first|(rw [e];rfl)|rfl
  ·rfl
 ·obtain⟨g,rfl⟩:=hg w1
  have e:eE l=false:=vN (by rw [←he];exact PT (aeO dy kA))
  refine⟨[],[],_,_,_,rfl,az,(),aa,?_,?_,rfl⟩
  ·(show _=eX l);unfold eX;first|(rw [e];rfl)|rfl
  ·rfl
 ·obtain⟨g,rfl⟩:=hg w1
  refine⟨(k+1,g),[],?_,?_,?_⟩
  rotate_right
  ·exact bV
  ·exact⟨by show k+1+g=l.length;omega,by rw [←he];exact (XU (ab5 (show (!(fC (nth aK l k).1))=false from w5) (show (!(ik (nth aK l k).2 1 15))=false from w9) dJ)).symm⟩
  ·exact ZD9 g
 ·obtain⟨g,rfl⟩:=hg w1
  refine⟨(k+1,g),[],?_,?_,?_⟩
  rotate_right
  ·exact bV
  ·exact⟨by show k+1+g=l.length;omega,by rw [←he];exact (XU (aeR (show (!(fC (nth aK l k).1))=false from w5) (show (!(ik (nth aK l k).2 1 15))=false from w9) iU)).symm⟩
  ·exact ZD9 g
 ·have hf:f=0:=by have:=aA (p:=(k:Int)<(l.length:Int)) gO;omega
  subst hf
  have e:eE l=decide ((l.length:Int)≤12):=UB (by rw [←he];rfl)
  refine⟨[],[],_,_,_,rfl,az,(),aa,?_,?_,rfl⟩
  ·(show _=eX l);unfold eX;first|(rw [e];rfl)|rfl
  ·rfl
def ake (e:eU):ByteArray:=e.1++⟨#[61]⟩++bX e.2++⟨#[59]⟩
def rm (out:ByteArray) (e:eU):ByteArray:=out++e.1++⟨#[61]⟩++bX e.2++⟨#[59]⟩
def eh (l:List eU):ByteArray:=l.foldl rm ⟨#[]⟩
theorem szl {a b:ByteArray}(ha:a.size≤2001000100) (hb:b.size≤1000000):((a.size+b.size:Nat):Int)≤imax:=by
 unfold imax;omega
structure ach (l:List eU):Prop where
 len:l.length≤1000
 sz:∀e∈l,e.1.size≤1000000
 id:∀e∈l,0≤e.2∧e.2≤999999999
def p9 (l:List eU):Prop:=ach l
def xV (l:List eU):AV:=.s (.str (eh l))
def abh (l:List eU):List AV:=[]
def qz:cn where
 A:=[.s (.vz aK)]
 B:=[]
 pre:=fun x b=>p9 x
 r:=fun x b _=>xV x
 o:=fun x b _=>abh x
theorem IJ:Has Tryz.prog 205 qz:=by
 refine Has.fm zT zF zF (l:=[(161,j5)]) ⟨wR,aa⟩ Tryz.func205 ?_
 rintro (l:List eU) _ (hp:p9 l)
 show vc _ _ _ _ (entry [.s (.vz aK l)] []) _
 have hE:ach l:=hp
 have hlen:=hE.len
 refine ?_
 all_goals first|refine aw ?_|refine ax ?_|exact a8|(dsimp only [j5,mK];omega)|exact a7|skip
 refine cN (l:=[(161,j5)]) (ex:=zT) (wr:=zF) (pt:=zF) ⟨wR,aa⟩ [.s 0] (fun y:Nat×ByteArray=>[(.s 3,.str y.2),(.s 4,.int y.1)]) (fun y=>y.1≤l.length∧y.2.size≤2000000*y.1∧(l.drop y.1).foldl rm y.2=eh l) (fun y=>l.length-y.1) (0,⟨#[]⟩) [] ⟨ZA7 _,ZA7 _,rfl⟩ dM ?_
 rintro⟨i,out⟩ ⟨(hi:i≤l.length),(ho:out.size≤2000000*i),(hr:(l.drop i).foldl rm out=eh l)⟩
 have bU:decide ((i:Int)<(l.length:Int))=true→i<l.length:=fun h=>by have:=aJ h;omega
 have dj:i<l.length→(nth aK l i).1.size≤1000000:=fun h=>hE.sz _ (bR (ek:=aK) h)
 have hid:i<l.length→0≤(nth aK l i).2∧(nth aK l i).2≤999999999:=fun h=>hE.id _ (bR (ek:=aK) h)
 have ahT:i<l.length→(bX (nth aK l i).2).size≤12:=fun h=>db (ZE0 (hid h).2 (by omega))
 have hs1:i<l.length→(out++(nth aK l i).1).size≤2001000000:=fun h=>by rw [ZB2];have:=dj h;omega
 have hs2:i<l.length→(out++(nth aK l i).1++(⟨#[61]⟩:ByteArray)).size≤2001000001:=fun h=>by rw [ZB2,sz1];have:=hs1 h;omega
 have hs3:i<l.length→(out++(nth aK l i).1++(⟨#[61]⟩:ByteArray)++bX (nth aK l i).2).size≤2001000100:=fun h=>by rw [ZB2];have:=hs2 h;have:=ahT h;omega
 have hA:i<l.length→(0:Int)≤(nth aK l i).2:=fun h=>(hid h).1
 have hB:i<l.length→((nth aK l i).2:Int)≤999999999999:=fun h=>ZE0 (hid h).2 (by omega)
 refine⟨fun w1=>⟨Sq3,Sq11,rfl,Sq0,Sq12,rfl,Sq4,Sq13,rfl,[.s 12,.s 13],Sq14,rfl,⟨?_,?_⟩,Sq14,Sq15,rfl,Sq15,Sq16,rfl,[.s 11,.s 16],Sq17,rfl,?_,Sq17,Sq18,rfl,?_,Sq0,Sq19,rfl,Sq4,Sq20,rfl,[.s 19,.s 20],Sq21,rfl,⟨?_,?_⟩,Sq21,Sq22,rfl,Sq22,Sq23,rfl,Sq23,Sq24,rfl,⟨tv2,?_,?_⟩,?_,fun x2 w3=>⟨[.s 18,.s 24],Sq25,rfl,?_,Sq25,Sq26,rfl,?_,Sq26,Sq3,rfl,⟨?_,?_⟩,?_⟩⟩,fun w4=>?_⟩
 all_goals first|refine aw ?_|refine ax ?_|exact a8|(dsimp only [j5,mK];omega)|exact a7|exact bU w1|(unfold imax;simp only [ZB2,ZA5,sz1];have:=dj (bU w1);have:=ahT (bU w1);omega)|skip
 ·exact hB (bU w1)
 ·have mo:=bU w1
  refine⟨(i+1,rm out (nth aK l i)),[],?_,?_,?_⟩
  rotate_right
  ·exact bV
  ·refine⟨mo,?_,by rw [←hr,bW (ek:=aK) mo];rfl⟩
   show (out++(nth aK l i).1++⟨#[61]⟩++bX (nth aK l i).2++⟨#[59]⟩).size≤2000000*(i+1)
   have a1:=dj mo;have a2:=ahT mo
   simp only [ZB2]
   rw [show (⟨#[61]⟩:ByteArray).size=1 from rfl,show (⟨#[59]⟩:ByteArray).size=1 from rfl];omega
  ·show l.length-(i+1)<l.length-i;omega
 ·have FL:¬i<l.length:=by have:=aA (p:=(i:Int)<(l.length:Int)) (by assumption);omega
  have e:eh l=out:=by rw [←hr,ZB3 (by omega)];rfl
  refine⟨[],[],_,_,_,rfl,az,(),aa,?_,?_,rfl⟩
  ·(show _=xV l);unfold xV;first|(rw [e];rfl)|rfl
  ·rfl
def atF:Nat→List eU→Nat→ByteArray→Int
 |0,_,_,_=> -1
 |f+1,l,i,name=>bif decide ((nth aK l i).1=name) then (i:Int) else atF f l (i+1) name
def lu (l:List eU) (name:ByteArray):Int:=atF l.length l 0 name
theorem ag6 {f:Nat}{l:List eU}{i:Nat}{name:ByteArray}(h:decide ((nth aK l i).1=name)=true):atF (f+1) l i name=(i:Int):=by rw [atF,h];rfl
theorem ag7 {f:Nat}{l:List eU}{i:Nat}{name:ByteArray}(h:decide ((nth aK l i).1=name)=false):atF (f+1) l i name=atF f l (i+1) name:=by rw [atF,h];rfl
def o9 (l:List eU) (name:ByteArray):Prop:=l.length≤1000000
def r8 (l:List eU) (name:ByteArray):AV:=.s (.int (lu l name))
def ac9 (l:List eU) (name:ByteArray):List AV:=[]
def oZ:cn where
 A:=[.s (.vz aK),.s .str]
 B:=[]
 pre:=fun x b=>o9 (x.1) (x.2)
 r:=fun x b _=>r8 (x.1) (x.2)
 o:=fun x b _=>ac9 (x.1) (x.2)
theorem FG:Has Tryz.prog 182 oZ:=by
 refine Has.fm zT zF zF (l:=[]) trivial Tryz.func182 ?_
 rintro⟨(l:List eU),(name:ByteArray)⟩ _ (hp:o9 l name)
 show vc _ _ _ _ (entry [.s (.vz aK l),.str name] []) _
 have hlen:l.length≤1000000:=hp
 refine cN (l:=[]) (ex:=zT) (wr:=zF) (pt:=zF) trivial [.s 0,.s 1] (fun y:Nat×Nat=>[(.s 5,.int y.1)]) (fun y=>y.1+y.2=l.length∧atF y.2 l y.1 name=lu l name) (fun y=>y.2) (0,l.length) [] ⟨ZA6 _,rfl⟩ dM ?_
 rintro⟨k,f⟩ ⟨(hk:k+f=l.length),(he:atF f l k name=lu l name)⟩
 have bU:decide ((k:Int)<(l.length:Int))=true→k<l.length:=fun h=>by have:=aJ h;omega
 have hg:decide ((k:Int)<(l.length:Int))=true→∃g,f=g+1:=fun h=>⟨f-1,by have:=bU h;omega⟩
 refine⟨fun w1=>⟨⟨?_,?_⟩,⟨fun w2=>?_,fun w3=>⟨⟨?_,?_⟩,?_⟩⟩⟩,fun w4=>?_⟩
 all_goals first|refine aw ?_|refine ax ?_|exact a8|exact a7|exact bU w1|skip
 ·obtain⟨g,rfl⟩:=hg w1
  have e:lu l name=(k:Int):=by rw [←he];exact ag6 w2
  refine⟨[],[],_,_,_,rfl,az,(),aa,?_,?_,rfl⟩
  ·(show _=r8 l name);unfold r8;first|(rw [e];rfl)|rfl
  ·rfl
 ·obtain⟨g,rfl⟩:=hg w1
  refine⟨(k+1,g),[],?_,?_,?_⟩
  rotate_right
  ·exact bV
  ·exact⟨by show k+1+g=l.length;omega,by rw [←he];exact (ag7 w3).symm⟩
  ·exact ZD9 g
 ·have hf:f=0:=by have:=aA (p:=(k:Int)<(l.length:Int)) w4;omega
  subst hf
  have e:lu l name= -1:=by rw [←he];rfl
  refine⟨[],[],_,_,_,rfl,az,(),aa,?_,?_,rfl⟩
  ·(show _=r8 l name);unfold r8;first|(rw [e];rfl)|rfl
  ·rfl
def E2 (e x:eU) (done:Bool):Bool:= !done&& !(Op.bytesLess x.1.toList e.1.toList||x.1.toList==e.1.toList)
def xr:List eU→eU→Bool→List eU→List eU×Bool
 |[],_,done,out=>(out,done)
 |x::l,e,done,out=>bif E2 e x done then xr l e true (out++[e]++[x]) else xr l e done (out++[x])
def wi (e:eU) (r:List eU×Bool):List eU:=bif !r.2 then r.1++[e] else r.1
def qR (l:List eU) (e:eU):List eU:=wi e (xr l e false [])
theorem YE {x e:eU}{l out:List eU}{done:Bool}(h:E2 e x done=true):xr (x::l) e done out=xr l e true (out++[e]++[x]):=by rw [xr,h];rfl
theorem P3 {x e:eU}{l out:List eU}{done:Bool}(h:E2 e x done=false):xr (x::l) e done out=xr l e done (out++[x]):=by rw [xr,h];rfl
def qa (l:List eU) (e:eU):Prop:=l.length≤1000
def pJ (l:List eU) (e:eU):AV:=.s (.xs 0 2 0 (qR l e).length)
def sj (l:List eU) (e:eU):List AV:=[.rs aK (qR l e)]
def qA:cn where
 A:=[.s (.vz aK),.a [.str,.int]]
 B:=[]
 pre:=fun x b=>qa (x.1) (x.2)
 r:=fun x b _=>pJ (x.1) (x.2)
 o:=fun x b _=>sj (x.1) (x.2)
 nf:=1
theorem IK:Has Tryz.prog 176 qA:=by
 refine Has.fm zT zF zF (l:=[]) trivial Tryz.func176 ?_
 rintro⟨(l:List eU),⟨(e1:ByteArray),(e2:Int)⟩⟩ _ (hp:qa l (e1,e2))
 show vc _ _ _ _ (entry [.s (.vz aK l),.a [.str e1,.int e2]] []) _
 have hlen:l.length≤1000:=hp
 refine⟨aa,?_⟩
 all_goals first|refine aw ?_|refine ax ?_|exact a8|exact a7|skip
 refine cN (l:=[]) (ex:=zT) (wr:=zF) (pt:=zF) trivial [.s 0,.s 3,.b 1003] (fun y:Nat×List eU×Bool=>[(.s 5,.s (.xs 1008 2 0 y.2.1.length)),(.s 6,.s (.q y.2.2)),(.s 7,.int y.1),(.b 1008,.rs aK y.2.1)]) (fun y=>y.1≤l.length∧y.2.1.length≤2*y.1∧xr (l.drop y.1) (e1,e2) y.2.2 y.2.1=xr l (e1,e2) false []) (fun y=>l.length-y.1) (0,[],false) [] ⟨ZA7 _,ZA7 _,rfl⟩ dM ?_
 rintro⟨i,out,dn⟩ ⟨(hi:i≤l.length),(ho:out.length≤2*i),(hr:xr (l.drop i) (e1,e2) dn out=xr l (e1,e2) false [])⟩
 have bU:decide ((i:Int)<(l.length:Int))=true→i<l.length:=fun h=>by have:=aJ h;omega
 refine⟨fun w1=>⟨Sq6,Sq15,rfl,Sq15,Sq16,rfl,Sq16,Sq17,rfl,aa,fun w2=>⟨[.s 17,.s 0],Sq18,rfl,[.s 17,.s 7],Sq19,rfl,[.s 17,.s 18,.s 19],Sq20,rfl,⟨?_,?_⟩,[.s 17,.s 20],Sq21,rfl,[.s 17,.s 21],Sq22,rfl,[.s 17,.s 3],Sq23,rfl,[.s 17,.s 23,.b 1003],Sq24,rfl,[.s 17,.s 22,.s 24],Sq25,rfl,[.s 17,.s 25],Sq26,rfl,fun w3=>⟨aa,⟨⟨?_,?_⟩,?_,?_⟩,⟨?_,?_⟩,aa,⟨⟨?_,?_⟩,?_,?_⟩,⟨?_,?_⟩,?_⟩,fun w4=>⟨⟨?_,?_⟩,aa,⟨⟨?_,?_⟩,?_,?_⟩,⟨?_,?_⟩,?_⟩⟩,fun w5=>⟨Sq17,Sq18,rfl,Sq17,Sq19,rfl,Sq17,Sq20,rfl,Sq17,Sq21,rfl,Sq17,Sq22,rfl,Sq17,Sq23,rfl,Sq17,Sq24,rfl,Sq17,Sq25,rfl,[.s 17,.s 25],Sq26,rfl,⟨?_,?_⟩,aa,⟨⟨?_,?_⟩,?_,?_⟩,⟨?_,?_⟩,?_⟩⟩,fun w6=>⟨fun w7=>⟨aa,⟨⟨?_,?_⟩,?_,?_⟩,?_⟩,fun w8=>?_⟩⟩
 all_goals first|refine aw ?_|refine ax ?_|exact a8|exact a7|exact bU w1|skip
 ·have mo:=bU w1
  have hb:E2 (e1,e2) (nth aK l i) dn=true:=by unfold E2;rw [show (!dn)=true from w2,show (!(Op.bytesLess (nth aK l i).1.toList e1.toList||(nth aK l i).1.toList==e1.toList))=true from w3];rfl
  refine⟨(i+1,out++[(e1,e2)]++[nth aK l i],true),[(1008,1037)],?_,?_,?_⟩
  rotate_right
  ·exact bV
  ·refine⟨mo,by show (out++[(e1,e2)]++[nth aK l i]).length≤2*(i+1);rw [ZA0,ZA0];show out.length+1+1≤_;omega,?_⟩
   rw [←hr,bW (ek:=aK) mo,YE hb]
  ·show l.length-(i+1)<l.length-i;omega
 ·have mo:=bU w1
  have hb:E2 (e1,e2) (nth aK l i) dn=false:=by unfold E2;rw [show (!(Op.bytesLess (nth aK l i).1.toList e1.toList||(nth aK l i).1.toList==e1.toList))=false from w4,ZD7]
  refine⟨(i+1,out++[nth aK l i],dn),[(1008,1037)],?_,?_,?_⟩
  rotate_right
  ·exact bV
  ·refine⟨mo,by show (out++[nth aK l i]).length≤2*(i+1);rw [ZA0];show out.length+1≤_;omega,?_⟩
   rw [←hr,bW (ek:=aK) mo,P3 hb]
  ·show l.length-(i+1)<l.length-i;omega
 ·have mo:=bU w1
  have hb:E2 (e1,e2) (nth aK l i) dn=false:=by unfold E2;rw [show (!dn)=false from w5];rfl
  refine⟨(i+1,out++[nth aK l i],dn),[(1008,1037)],?_,?_,?_⟩
  rotate_right
  ·exact bV
  ·refine⟨mo,by show (out++[nth aK l i]).length≤2*(i+1);rw [ZA0];show out.length+1≤_;omega,?_⟩
   rw [←hr,bW (ek:=aK) mo,P3 hb]
  ·show l.length-(i+1)<l.length-i;omega
 ·have FL:¬i<l.length:=by have:=aA (p:=(i:Int)<(l.length:Int)) w6;omega
  have e:qR l (e1,e2)=out++[(e1,e2)]:=by unfold qR;rw [←hr,ZB3 (by omega)];show wi (e1,e2) (out,dn)=_;unfold wi;rw [show (!dn)=true from w7];rfl
  refine⟨[1043],[],_,_,_,rfl,az,(),aa,?_,?_,rfl⟩
  ·(show _=pJ l (e1,e2));unfold pJ;first|(rw [e,ZA0];rfl)|(rw [e];rfl)|rfl
  ·(show _=sj l (e1,e2));unfold sj;first|(rw [e,ZA0];rfl)|(rw [e];rfl)|rfl
 ·have FL:¬i<l.length:=by have:=aA (p:=(i:Int)<(l.length:Int)) w6;omega
  have e:qR l (e1,e2)=out:=by unfold qR;rw [←hr,ZB3 (by omega)];show wi (e1,e2) (out,dn)=_;unfold wi;rw [show (!dn)=false from w8];rfl
  refine⟨[1008],[],_,_,_,rfl,az,(),aa,?_,?_,rfl⟩
  ·(show _=pJ l (e1,e2));unfold pJ;first|(rw [e];rfl)|rfl
  ·(show _=sj l (e1,e2));unfold sj;first|(rw [e];rfl)|rfl
def ew (l:List eU) (i:Nat):List eU:=l.take i++l.drop (i+1)
def q6 (l:List eU) (i:Int):Prop:=l.length≤1000∧0≤i∧i<l.length
def u4 (l:List eU) (i:Int):AV:=.s (.xs 0 2 0 (ew l i.toNat).length)
def yp (l:List eU) (i:Int):List AV:=[.rs aK (ew l i.toNat)]
def sK:cn where
 A:=[.s (.vz aK),.s .int]
 B:=[]
 pre:=fun x b=>q6 (x.1) (x.2)
 r:=fun x b _=>u4 (x.1) (x.2)
 o:=fun x b _=>yp (x.1) (x.2)
 nf:=1
theorem MD:Has Tryz.prog 181 sK:=by
 refine Has.fm zT zF zF (l:=[]) trivial Tryz.func181 ?_
 rintro⟨(l:List eU),(i:Int)⟩ _ (hp:q6 l i)
 show vc _ _ _ _ (entry [.s (.vz aK l),.int i] []) _
 obtain⟨h1,h2,h3⟩:=hp
 have e:ew l i.toNat=l.take (i.toNat-0)++l.drop (i+1).toNat:=by unfold ew;rw [Nat.sub_zero,show (i+1).toNat=i.toNat+1 by omega]
 have hl1:(l.take (i.toNat-0)).length≤1000:=by rw [ZB9];omega
 have hl2:((l.drop (i+1).toNat).take (l.length-(i+1).toNat)).length≤1000:=by rw [ZB9,ZC8];omega
 refine⟨[.b 1005],[.s 5,.b 1005],rfl,aa,Sq0,Sq6,rfl,Sq1,Sq7,rfl,[.s 6,.s 7],Sq8,rfl,⟨?_,?_,?_⟩,[.s 5,.s 8,.b 1005,.b 1009],[.s 9,.b 1009,.b 1005],rfl,⟨⟨?_,?_⟩,aa⟩,Sq0,Sq10,rfl,Sq1,Sq11,rfl,Sq11,Sq12,rfl,⟨?_,?_⟩,[.s 10,.s 12],Sq13,rfl,⟨?_,?_,?_⟩,[.s 9,.s 13,.b 1009,.b 1014],[.s 14,.b 1014,.b 1009],rfl,⟨⟨?_,?_⟩,aa⟩,Sq14,Sq4,rfl,?_⟩
 all_goals first|refine aw ?_|refine ax ?_|exact a8|exact a7|(show 0+(l.take (i.toNat-0)).length≤1048576;omega)|(show ([]++l.take (i.toNat-0)).length+((l.drop (i+1).toNat).take (l.length-(i+1).toNat)).length≤1048576;rw [ZD0];omega)|skip
 ·have e2:(ew l i.toNat).length=([]++l.take (i.toNat-0)).length+((l.drop (i+1).toNat).take (l.length-(i+1).toNat)).length:=by rw [e,ZA0,ZD0,ZD1 (l:=l.drop _) (by rw [ZC8];omega)]
  have e3:ew l i.toNat=([]++l.take (i.toNat-0))++((l.drop (i+1).toNat).take (l.length-(i+1).toNat)):=by rw [e,ZD0,ZD1 (l:=l.drop _) (by rw [ZC8];omega)]
  refine⟨[1014],[],_,_,_,rfl,az,(),aa,?_,?_,rfl⟩
  ·(show _=u4 l i);unfold u4;first|(rw [e2];rfl)|(rw [e3];rfl)|rfl
  ·(show _=yp l i);unfold yp;first|(rw [e2];rfl)|(rw [e3];rfl)|rfl
end GL
namespace GL
def j8:List Pt→ay→ay
 |[],s=>s
 |p::l,s=>j8 l (gf s p.1.toNat)
def ai0 (u:ay):ay:=(u.rows,u.refs,u.last,u.cg+1,[],u.bZ,u.dead,u.same)
def ij (s:ay):ay:=ai0 (j8 s.gone s)
structure ay.gk (s:ay):Prop where
 n:s.n64
 len:s.gone.length≤1000000
 ok:∀p∈s.gone,0≤p.1∧p.1<64
 cg: -1000000≤s.cg∧s.cg≤1000000
def jk (S:ay):Prop:=S.gk
def xU (S:ay):AV:=.a (kW 0 1 2 5 4 (ij S))
def B8 (S:ay):List AV:=[.rs ab (ij S).rows,.rs ag (ij S).refs,.rs ag (ij S).last,.rs ae S.gone,.rs ae (ij S).dead,.rs ae []]
def gZ:cn where
 A:=[.a (stB 0 1 2 3 4)]
 B:=[.r ab,.r ag,.r ag,.r ae,.r ae]
 pre:=fun x b=>stW x b∧jk (gP x b)
 r:=fun x b _=>xU (gP x b)
 o:=fun x b _=>B8 (gP x b)
 nf:=1
theorem sB:Has Tryz.prog 62 gZ:=by
 refine Has.fm zT zF zF (l:=[(96,qx)]) ⟨IG,aa⟩ Tryz.func62 ?_
 rintro⟨(AU:Nat),(AT:Nat),(AS:Nat),(ao:Int),(AR:Nat),(aq:Int),(AQ:Nat),(ar:Bool)⟩ ⟨(aj:List ByteArray),(ak:List Int),(an:List Int),(ah:List Pt),(ai:List Pt)⟩ ⟨⟨(gC:AU=List.length aj),(gB:AT=List.length ak),(gA:AS=List.length an),(gz:AR=List.length ah),(gy:AQ=List.length ai)⟩,(hp:jk (aj,ak,an,ao,ah,aq,ai,ar))⟩
 subst gC gB gA gz gy
 show vc _ _ _ _ (entry [.a [.xs 0 1 0 aj.length,.xs 1 1 0 ak.length,.xs 2 1 0 an.length,.int ao,.xs 3 5 0 ah.length,.int aq,.xs 4 5 0 ai.length,.q ar]] [.rs ab aj,.rs ag ak,.rs ag an,.rs ae ah,.rs ae ai]) _
 let g':=(aj,ak,an,ao,ah,aq,ai,ar)
 have hgk:ay.gk g':=hp
 have hgl:ah.length≤1000000:=hgk.len
 have hn:aj.length=64∧ak.length=64∧an.length=64:=hgk.n
 refine ?_
 all_goals first|refine aw ?_|refine ax ?_|exact a8|(dsimp only [qx,pW,gP];omega)|exact a7|skip
 refine cN (l:=[(96,qx)]) (ex:=zT) (wr:=zF) (pt:=zF) ⟨IG,aa⟩ [.s 1,.s 2,.b 1002,.b 3,.b 4] (fun y:Nat×List ByteArray×List Int×List Int=>[(.s 3,.int y.1),(.b 1001,.a (kW 0 1 2 3 4 (y.2.1,y.2.2.1,y.2.2.2,ao,ah,aq,ai,ar))),(.b 0,.rs ab y.2.1),(.b 1,.rs ag y.2.2.1),(.b 2,.rs ag y.2.2.2)]) (fun y=>y.1≤ah.length∧(y.2.1.length=64∧y.2.2.1.length=64∧y.2.2.2.length=64)∧j8 (ah.drop y.1) (y.2.1,y.2.2.1,y.2.2.2,ao,ah,aq,ai,ar)=j8 ah g') (fun y=>ah.length-y.1) (0,aj,ak,an) [] ⟨ZA7 _,hn,rfl⟩ dM ?_
 rintro⟨i,ro,rf,la⟩ ⟨(hi:i≤ah.length),⟨(h1:ro.length=64),(h2:rf.length=64),(h3:la.length=64)⟩,(hr:j8 (ah.drop i) (ro,rf,la,ao,ah,aq,ai,ar)=j8 ah g')⟩
 have bU:decide ((i:Int)<(ah.length:Int))=true→i<ah.length:=fun h=>by have:=aJ h;omega
 have xD:i<ah.length→0≤(nth ae ah i).1∧(nth ae ah i).1<64:=fun h=>hgk.ok _ (bR (ek:=ae) h)
 have htx:=hgk.cg
 have akQ: -1000000≤ao:=htx.1
 have amc:ao≤1000000:=htx.2
 refine⟨fun w1=>⟨[.s 1,.b 1001],Sq11,rfl,Sq1,Sq12,rfl,[.s 12,.b 1001],Sq13,rfl,Sq3,Sq14,rfl,[.s 13,.s 14],Sq15,rfl,⟨?_,?_⟩,Sq15,Sq16,rfl,[.s 16,.b 3],Sq17,rfl,?_,[.s 11,.s 17,.b 0,.b 1,.b 2,.b 3,.b 4],[.s 18,.b 0,.b 1,.b 2,.b 3,.b 4],rfl,⟨⟨tv9,tv2⟩,⟨?_,?_,?_,?_,?_⟩,⟨?_,?_,?_⟩,?_,?_⟩,?_,fun x2 w3=>⟨[.s 1,.s 18,.b 1001],[.b 1001],rfl,⟨?_,?_⟩,?_⟩⟩,fun w4=>⟨aa,⟨?_,?_⟩,?_⟩⟩
 all_goals first|refine aw ?_|refine ax ?_|exact a8|(dsimp only [qx,pW,gP];omega)|exact a7|(simp only [gK,imax];omega)|exact bU w1|skip
 ·exact (xD (bU w1)).1
 ·exact (xD (bU w1)).2
 ·have mo:=bU w1
  have hdl:=xd (ro,rf,la,ao,ah,aq,ai,ar) (nth ae ah i).1.toNat
  refine⟨(i+1,(gf (ro,rf,la,ao,ah,aq,ai,ar) (nth ae ah i).1.toNat).1,(gf (ro,rf,la,ao,ah,aq,ai,ar) (nth ae ah i).1.toNat).2.1,(gf (ro,rf,la,ao,ah,aq,ai,ar) (nth ae ah i).1.toNat).2.2.1),[],?_,?_,?_⟩
  rotate_right
  ·exact bV
  ·refine⟨mo,⟨hdl.1.trans h1,hdl.2.1.trans h2,hdl.2.2.trans h3⟩,?_⟩
   rw [←hr,bW (ek:=ae) mo];rfl
  ·show ah.length-(i+1)<ah.length-i;omega
 ·show gK≤ao+1;simp only [gK];omega
 ·show ao+1≤imax;simp only [imax];omega
 ·have FL:¬i<ah.length:=by have:=aA (p:=(i:Int)<(ah.length:Int)) w4;omega
  have e:ij g'=(ro,rf,la,ao+1,[],aq,ai,ar):=by
   unfold ij
   rw [show j8 (ay.gone g') g'=(ro,rf,la,ao,ah,aq,ai,ar) by
    rw [ZB3 (by omega)] at hr;exact hr.symm]
   rfl
  refine⟨[1019],[],_,_,_,rfl,az,(),aa,?_,?_,rfl⟩
  ·(show _=xU g');unfold xU;first|(rw [e];rfl)|rfl
  ·(show _=B8 g');unfold B8;first|(rw [e];rfl)|rfl
def j7:Nat→ay→List Pt→List Pt→Option (List Pt)
 |0,_,_,_=>none
 |_+1,_,[],out=>some out
 |f+1,s,p::l,out=>bif au p then j7 f s l out else bif decide (p.2.2.2.2>0) then j7 f s ((bg s p p.2.2.2.2).1++l) (out++[p]) else j7 f s l (out++[p])
def allM (s:ay) (t:bf):List Pt:=(j7 40 s [t.root] []).getD []
def NC (s:ay) (t:bf):Bool:=(j7 40 s [t.root] []).isSome
def wE (S:ay) (t:bf):Prop:=S.rd∧NC S t=true
def BE (S:ay) (t:bf):AV:=.s (.xs 0 5 0 (allM S t).length)
def HH (S:ay) (t:bf):List AV:=[.rs ae (allM S t)]
def AB:cn where
 A:=[.a xv,.a [.int,.int,.int,.int,.int,.int,.int]]
 B:=[]
 pre:=fun x b=>wE (x.1) (x.2)
 r:=fun x b _=>BE (x.1) (x.2)
 o:=fun x b _=>HH (x.1) (x.2)
 nf:=1
theorem ZT:Has Tryz.prog 209 AB:=by
 refine Has.fm zT zF (fun d=>Nat.beq d 23) (l:=[(81,cx),(154,ef)]) ⟨cz,lk,aa⟩ Tryz.func209 ?_
 rintro⟨⟨(aj:List ByteArray),(ak:List Int),(an:List Int),(ao:Int),(ah:List Pt),(aq:Int),(ai:List Pt),(ar:Bool)⟩,⟨(t1:Int),(t2:Int),(t3:Int),(t4:Int),(t5:Int),(t6:Int),(t7:Int)⟩⟩ _ (hp:wE (aj,ak,an,ao,ah,aq,ai,ar) (t1,t2,t3,t4,t5,t6,t7))
 show vc _ _ _ _ (entry [.a [.vz ab aj,.vz ag ak,.vz ag an,.int ao,.vz ae ah,.int aq,.vz ae ai,.q ar],.a [.int t1,.int t2,.int t3,.int t4,.int t5,.int t6,.int t7]] []) _
 let g':=(aj,ak,an,ao,ah,aq,ai,ar)
 let A':=(t1,t2,t3,t4,t5,t6,t7)
 obtain⟨dF,hen⟩:=hp
 have dF:ay.rd g':=dF
 obtain⟨al,hal⟩:=Option.isSome_iff_exists.1 hen
 have hal:j7 40 g' [bf.root A'] []=some al:=hal
 have hM:allM g' A'=al:=by unfold allM;rw [hal];rfl
 refine⟨aa,aa,?_⟩
 all_goals first|refine aw ?_|refine ax ?_|exact a8|(dsimp only [ef,fF];omega)|exact a7|exact dF|skip
 refine cN (l:=[(81,cx),(154,ef)]) (ex:=zT) (wr:=zF) (pt:=fun d=>Nat.beq d 23) ⟨cz,lk,trivial⟩ [.s 2,.s 3,.s 4,.b 1002,.b 1003] (fun y:Nat×List Pt×List Pt=>[(.s 5,.s (.xs 1010 5 0 y.2.2.length)),(.s 6,.s (.xs 1013 5 0 y.2.1.length)),(.b 1010,.rs ae y.2.2),(.b 1013,.rs ae y.2.1)]) (fun y=>y.1≤40∧y.2.1.length+4*y.1≤161∧y.2.2.length+y.1≤40∧j7 y.1 g' y.2.1 y.2.2=some al) (fun y=>y.1) (40,[bf.root A'],[]) [] ⟨ZB5 _,by show 1+4*40≤161;omega,by show 0+40≤40;omega,hal⟩ dM ?_
 rintro⟨f,td,out⟩ ⟨(hf:f≤40),(htd:td.length+4*f≤161),(ob:out.length+f≤40),(hr:j7 f g' td out=some al)⟩
 have bU:decide ((td.length:Int)>0)=true→0<td.length:=fun h=>by have:=aJ h;omega
 have hbl:=(iG g' (nth ae td 0) (nth ae td 0).2.2.2.2).1
 have ZX:decide ((td.length:Int)>0)=true→∃l,td=nth ae td 0::l:=fun h=>by
  have:=bU h
  cases td with
  |nil=>simp at this
  |cons p l=>exact⟨l,rfl⟩
 have af2:∃g,f=g+1:=by
  cases f with
  |zero=>cases hr
  |succ g=>exact⟨g,rfl⟩
 refine⟨fun w1=>⟨⟨?_,?_⟩,?_,aa,⟨?_,?_,?_⟩,⟨⟨?_,?_⟩,?_⟩,⟨⟨tv6,aa⟩,aa⟩,fun x2 w3=>⟨fun w4=>?_,fun w5=>⟨aa,⟨⟨?_,?_⟩,?_,?_⟩,fun w6=>⟨⟨⟨tv9,tv6,tv2⟩,?_⟩,fun x7 w8=>⟨aa,⟨⟨?_,?_⟩,?_,?_⟩,⟨⟨?_,?_⟩,?_,?_⟩,?_⟩⟩,fun w9=>?_⟩⟩⟩,fun dy=>?_⟩
 all_goals first|refine aw ?_|refine ax ?_|exact a8|(dsimp only [ef,fF];omega)|exact a7|exact bU w1|exact dF|(show 0+(td.drop 1).length≤1048576;rw [ZC8];omega)|(show 0+((td.drop 1).take (td.length-1)).length≤1048576;rw [ZB9,ZC8];omega)|skip
 ·
  obtain⟨l,rT⟩:=ZX w1
  have eT:(([]:List Pt)++(td.drop 1).take (td.length-1))=l:=by rw [rT];simp
  obtain⟨g,rfl⟩:∃g,f=g+1:=af2
  have hll:l.length+1=td.length:=by rw [rT];rfl
  have hh:au (nth ae td 0)=true:=w4
  rw [rT,j7,hh] at hr
  refine⟨(g,(([]:List Pt)++(td.drop 1).take (td.length-1)),out),[(1013,1023)],?_,?_,?_⟩
  rotate_right
  ·exact bV
  ·exact⟨by show g≤40;omega,by show ((([]:List Pt)++(td.drop 1).take (td.length-1))).length+4*g≤161;rw [eT];omega,by show out.length+g≤40;omega,by show j7 g g' (([]:List Pt)++(td.drop 1).take (td.length-1)) out=some al;rw [eT];exact hr⟩
  ·exact ZD9 g
 ·show ([]:List Pt).length+(bg g' (nth ae td 0) (nth ae td 0).2.2.2.2).1.length≤1048576;have:=hbl;show 0+_≤_;omega
 ·obtain⟨l,rT⟩:=ZX w1
  have eT:(([]:List Pt)++(td.drop 1).take (td.length-1))=l:=by rw [rT];simp
  have hll:l.length+1=td.length:=by rw [rT];rfl
  show (([]:List Pt)++(bg g' (nth ae td 0) (nth ae td 0).2.2.2.2).1).length+(([]:List Pt)++(td.drop 1).take (td.length-1)).length≤1048576
  rw [eT,ZD0];omega
 ·
  obtain⟨l,rT⟩:=ZX w1
  have eT:(([]:List Pt)++(td.drop 1).take (td.length-1))=l:=by rw [rT];simp
  obtain⟨g,rfl⟩:∃g,f=g+1:=af2
  have hll:l.length+1=td.length:=by rw [rT];rfl
  have hh:au (nth ae td 0)=false:=w5
  rw [rT,j7,hh,show decide ((nth ae td 0).2.2.2.2>0)=true from w6] at hr
  refine⟨(g,(([]:List Pt)++(bg g' (nth ae td 0) (nth ae td 0).2.2.2.2).1)++(([]:List Pt)++(td.drop 1).take (td.length-1)),out++[(nth ae td 0)]),[(1013,1045),(1010,1029)],?_,?_,?_⟩
  rotate_right
  ·exact bV
  ·refine⟨by show g≤40;omega,?_,?_,?_⟩
   ·show ((([]:List Pt)++(bg g' (nth ae td 0) (nth ae td 0).2.2.2.2).1)++(([]:List Pt)++(td.drop 1).take (td.length-1))).length+4*g≤161;rw [eT,ZD0,ZA0];omega
   ·show (out++[(nth ae td 0)]).length+g≤40;rw [ZA0];show out.length+1+g≤40;omega
   ·show j7 g g' ((([]:List Pt)++(bg g' (nth ae td 0) (nth ae td 0).2.2.2.2).1)++(([]:List Pt)++(td.drop 1).take (td.length-1))) (out++[(nth ae td 0)])=some al;rw [eT,ZD0];exact hr
  ·exact ZD9 g
 ·
  obtain⟨l,rT⟩:=ZX w1
  have eT:(([]:List Pt)++(td.drop 1).take (td.length-1))=l:=by rw [rT];simp
  obtain⟨g,rfl⟩:∃g,f=g+1:=af2
  have hll:l.length+1=td.length:=by rw [rT];rfl
  have hh:au (nth ae td 0)=false:=w5
  rw [rT,j7,hh,show decide ((nth ae td 0).2.2.2.2>0)=false from w9] at hr
  refine⟨(g,(([]:List Pt)++(td.drop 1).take (td.length-1)),out++[(nth ae td 0)]),[(1013,1023),(1010,1029)],?_,?_,?_⟩
  rotate_right
  ·exact bV
  ·refine⟨by show g≤40;omega,?_,?_,?_⟩
   ·show ((([]:List Pt)++(td.drop 1).take (td.length-1))).length+4*g≤161;rw [eT];omega
   ·show (out++[(nth ae td 0)]).length+g≤40;rw [ZA0];show out.length+1+g≤40;omega
   ·show j7 g g' (([]:List Pt)++(td.drop 1).take (td.length-1)) (out++[(nth ae td 0)])=some al;rw [eT];exact hr
  ·exact ZD9 g
 ·have h0:td=[]:=by cases td with
   |nil=>rfl
   |cons p l=>exact absurd (aA dy) (by simp)
  obtain⟨g,rfl⟩:∃g,f=g+1:=af2
  rw [h0,j7] at hr
  have e:allM g' A'=out:=by rw [hM];exact (ZG8 hr).symm
  refine⟨[1010],[],_,_,_,rfl,az,(),aa,?_,?_,rfl⟩
  ·(show _=BE g' A');unfold BE;first|(rw [e];rfl)|rfl
  ·(show _=HH g' A');unfold HH;first|(rw [e];rfl)|rfl
end GL
end Go.Proofs.YtnkbdhldiinfdaaGreatDoor
