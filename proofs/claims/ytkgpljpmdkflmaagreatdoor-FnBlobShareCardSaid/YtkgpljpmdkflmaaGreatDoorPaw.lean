/- A drawn law returns true for every code (its row lists package variables, tied by the card): part 23. -/
import Derived.Test.YtkgpljpmdkflmaaGreatDoorPar
import Derived.Test.YtkgpljpmdkflmaaGreatDoorPat
set_option maxHeartbeats 20000000
set_option maxRecDepth 100000
set_option linter.all false
namespace Go.Proofs.YtkgpljpmdkflmaaGreatDoor
namespace GL
def LR (s:ByteArray) (k:Nat):Bool:=decide (bM s k<97)||decide (bM s k>122)
def nmF:Nat→ByteArray→Nat→Bool
 |0,_,_=>true
 |f+1,s,k=>bif LR s k then false else nmF f s (k+1)
def fD (s:ByteArray):Bool:=nmF s.size s 0&&iB s.size 1 4
theorem agD {f:Nat}{s:ByteArray}{k:Nat}(h:LR s k=true):nmF (f+1) s k=false:=by rw [nmF,h];rfl
theorem aiU {f:Nat}{s:ByteArray}{k:Nat}(h:LR s k=false):nmF (f+1) s k=nmF f s (k+1):=by rw [nmF,h];rfl
theorem SN {s:ByteArray}(h:nmF s.size s 0=false):fD s=false:=by unfold fD;rw [h];rfl
theorem adv {s:ByteArray}(h:nmF s.size s 0=true):fD s=iB s.size 1 4:=by unfold fD;rw [h];rfl
def mS (s:ByteArray):Prop:=s.size≤1000000
def kJ (s:ByteArray):AV:=.s (.q (fD s))
def abq (s:ByteArray):List AV:=[]
def oq:ct where
 A:=[.s .str]
 B:=[]
 pre:=fun x b=>mS x
 r:=fun x b _=>kJ x
 o:=fun x b _=>abq x
theorem zN:Has Tryz.prog 232 oq:=by
 refine Has.fu zT zF zF (l:=[(95,dE)]) ⟨iz,aa⟩ Tryz.func232 ?_
 rintro (s:ByteArray) _ (hp:mS s)
 show vc _ _ _ _ (entry [.str s] []) _
 unfold mS at hp
 refine cO (l:=[(95,dE)]) (ex:=zT) (wr:=zF) (pt:=zF) ⟨iz,aa⟩ [.s 0] (fun y:Nat×Nat=>[(.s 3,.int y.1)]) (fun y=>y.1+y.2=s.size∧nmF y.2 s y.1=nmF s.size s 0) (fun y=>y.2) (0,s.size) [] ⟨ZA6 _,rfl⟩ dN ?_
 rintro⟨k,f⟩ ⟨(hk:k+f=s.size),(he:nmF f s k=nmF s.size s 0)⟩
 have hb:=xi s k
 have bV:decide ((k:Int)<s.size)=true→∃g,f=g+1:=fun h=>⟨f-1,by have:=aJ h;omega⟩
 refine⟨fun w1=>⟨⟨?_,?_⟩,aa,fun w2=>?_,fun w3=>⟨⟨?_,?_⟩,fun w4=>?_,fun w5=>⟨⟨?_,?_⟩,?_⟩⟩⟩,fun w6=>⟨⟨⟨aa,aa,aa,aa⟩,aa⟩,fun x7 w8=>?_⟩⟩
 all_goals first|refine aw ?_|refine ax ?_|exact a8|exact a7|skip
 ·obtain⟨g,rfl⟩:=bV w1
  have e:fD s=false:=SN (by rw [←he];exact agD (by unfold LR;rw [show decide (bM s k<97)=true from w2];rfl))
  refine⟨[],[],_,_,_,rfl,az,(),aa,?_,?_,rfl⟩
  ·(show _=kJ s);unfold kJ;first|(rw [e];rfl)|rfl
  ·rfl
 ·obtain⟨g,rfl⟩:=bV w1
  have e:fD s=false:=SN (by rw [←he];exact agD (by unfold LR;rw [show decide (bM s k>122)=true from w4,ZC4]))
  refine⟨[],[],_,_,_,rfl,az,(),aa,?_,?_,rfl⟩
  ·(show _=kJ s);unfold kJ;first|(rw [e];rfl)|rfl
  ·rfl
 ·obtain⟨g,rfl⟩:=bV w1
  refine⟨(k+1,g),[],?_,?_,?_⟩
  rotate_right
  ·exact bW
  ·exact⟨by show k+1+g=s.size;omega,by rw [←he];exact (aiU (by unfold LR;rw [show decide (bM s k<97)=false from w3,show decide (bM s k>122)=false from w5];rfl)).symm⟩
  ·exact ZD9 g
 ·have hf:f=0:=by have:=aA (p:=(k:Int)<s.size) w6;omega
  subst hf
  have e:fD s=iB s.size 1 4:=adv (by rw [←he];rfl)
  refine⟨[],[],_,_,_,rfl,az,(),aa,?_,?_,rfl⟩
  ·(show _=kJ s);unfold kJ;first|(rw [e];rfl)|rfl
  ·rfl
def kh (l:List eV) (i:Nat):Bool:= !(fD (nth aK l i).1)||(!(iB (nth aK l i).2 1 15)||(decide ((i:Int)>0)&& !(Op.bytesLess (nth aK l ((i:Int)-1).toNat).1.toList (nth aK l i).1.toList)))
def z8:Nat→List eV→Nat→Bool
 |0,_,_=>true
 |f+1,l,i=>bif kh l i then false else z8 f l (i+1)
def eF (l:List eV):Bool:=z8 l.length l 0&&decide ((l.length:Int)≤12)
theorem PR {f:Nat}{l:List eV}{k:Nat}(h:kh l k=true):z8 (f+1) l k=false:=by rw [z8,h];rfl
theorem XR {f:Nat}{l:List eV}{k:Nat}(h:kh l k=false):z8 (f+1) l k=z8 f l (k+1):=by rw [z8,h];rfl
theorem vQ {l:List eV}(h:z8 l.length l 0=false):eF l=false:=by unfold eF;rw [h];rfl
theorem T7 {l:List eV}(h:z8 l.length l 0=true):eF l=decide ((l.length:Int)≤12):=by unfold eF;rw [h];rfl
theorem aeM {l:List eV}{i:Nat}(h:(!(fD (nth aK l i).1))=true):kh l i=true:=by unfold kh;rw [h];rfl
theorem aeL {l:List eV}{i:Nat}(h:(!(iB (nth aK l i).2 1 15))=true):kh l i=true:=by unfold kh;rw [h,Bool.true_or,ZC4]
theorem aeK {l:List eV}{i:Nat}(h:decide ((i:Int)>0)=true) (h2:(!(Op.bytesLess (nth aK l ((i:Int)-1).toNat).1.toList (nth aK l i).1.toList))=true):kh l i=true:=by unfold kh;rw [h,h2,Bool.and_true,ZC4,ZC4]
theorem aeN {l:List eV}{i:Nat}(h1:(!(fD (nth aK l i).1))=false) (h2:(!(iB (nth aK l i).2 1 15))=false) (h3:decide ((i:Int)>0)=false):kh l i=false:=by unfold kh;rw [h1,h2,h3];rfl
theorem ab2 {l:List eV}{i:Nat}(h1:(!(fD (nth aK l i).1))=false) (h2:(!(iB (nth aK l i).2 1 15))=false) (h4:(!(Op.bytesLess (nth aK l ((i:Int)-1).toNat).1.toList (nth aK l i).1.toList))=false):kh l i=false:=by unfold kh;rw [h1,h2,h4,ZD7];rfl
structure afr (l:List eV):Prop where
 len:l.length≤1000000
 sz:∀e∈l,e.1.size≤1000000
theorem afr.at {l:List eV}(h:afr l) (k:Nat):(nth aK l k).1.size≤1000000:=by
 by_cases hk:k<l.length
 ·exact h.sz _ (bS (ek:=aK) hk)
 ·unfold nth;rw [ZD8 (by omega)];exact ZA7 _
def nw (l:List eV):Prop:=afr l
def eY (l:List eV):AV:=.s (.q (eF l))
def OR (l:List eV):List AV:=[]
def ot:ct where
 A:=[.s (.vz aK)]
 B:=[]
 pre:=fun x b=>nw x
 r:=fun x b _=>eY x
 o:=fun x b _=>OR x
theorem D5:Has Tryz.prog 284 ot:=by
 refine Has.fu zT zF zF (l:=[(95,dE),(232,oq)]) ⟨iz,zN,aa⟩ Tryz.func284 ?_
 rintro (l:List eV) _ (hp:nw l)
 show vc _ _ _ _ (entry [.s (.vz aK l)] []) _
 have hE:afr l:=hp
 have hlen:=hE.len
 refine cO (l:=[(95,dE),(232,oq)]) (ex:=zT) (wr:=zF) (pt:=zF) ⟨iz,zN,aa⟩ [.s 0] (fun y:Nat×Nat=>[(.s 3,.int y.1)]) (fun y=>y.1+y.2=l.length∧z8 y.2 l y.1=z8 l.length l 0) (fun y=>y.2) (0,l.length) [] ⟨ZA6 _,rfl⟩ dN ?_
 rintro⟨k,f⟩ ⟨(hk:k+f=l.length),(he:z8 f l k=z8 l.length l 0)⟩
 have bV:decide ((k:Int)<(l.length:Int))=true→k<l.length:=fun h=>by have:=aJ h;omega
 have hg:decide ((k:Int)<(l.length:Int))=true→∃g,f=g+1:=fun h=>⟨f-1,by have:=bV h;omega⟩
 refine⟨fun w1=>⟨Sq0,Sq10,rfl,Sq3,Sq11,rfl,[.s 10,.s 11],Sq12,rfl,⟨?_,?_⟩,Sq12,Sq13,rfl,Sq13,Sq14,rfl,Sq14,Sq15,rfl,⟨⟨aa,aa⟩,?_⟩,?_,fun x2 w3=>⟨Sq15,Sq16,rfl,Sq16,Sq17,rfl,aa,fun w4=>⟨Sq17,Sq18,rfl,Sq17,Sq19,rfl,Sq17,Sq20,rfl,Sq17,Sq21,rfl,Sq17,Sq22,rfl,Sq17,Sq23,rfl,Sq17,Sq24,rfl,[.s 17,.s 24],Sq25,rfl,Sq25,Sq26,rfl,Sq26,Sq27,rfl,Sq26,Sq28,rfl,Sq26,Sq29,rfl,Sq29,Sq30,rfl,Sq29,Sq31,rfl,Sq29,Sq32,rfl,Sq29,Sq33,rfl,Sq29,Sq34,rfl,Sq29,Sq35,rfl,Sq29,Sq36,rfl,Sq29,Sq37,rfl,Sq29,Sq38,rfl,Sq29,Sq39,rfl,Sq29,Sq40,rfl,Sq29,Sq41,rfl,Sq26,Sq42,rfl,[.s 26,.s 42],Sq43,rfl,?_⟩,fun w5=>⟨[.s 17,.s 0],Sq18,rfl,[.s 17,.s 3],Sq19,rfl,[.s 17,.s 18,.s 19],Sq20,rfl,⟨?_,?_⟩,[.s 17,.s 20],Sq21,rfl,[.s 17,.s 21],Sq22,rfl,[.s 17,.s 22],Sq23,rfl,⟨⟨aa,aa,aa,aa⟩,aa⟩,?_,fun x6 w7=>⟨[.s 17,.s 23],Sq24,rfl,[.s 17,.s 24],Sq25,rfl,Sq25,Sq26,rfl,aa,fun w8=>⟨Sq26,Sq27,rfl,Sq26,Sq28,rfl,Sq26,Sq29,rfl,Sq29,Sq30,rfl,Sq29,Sq31,rfl,Sq29,Sq32,rfl,Sq29,Sq33,rfl,Sq29,Sq34,rfl,Sq29,Sq35,rfl,Sq29,Sq36,rfl,Sq29,Sq37,rfl,Sq29,Sq38,rfl,Sq29,Sq39,rfl,Sq29,Sq40,rfl,Sq29,Sq41,rfl,Sq26,Sq42,rfl,[.s 26,.s 42],Sq43,rfl,?_⟩,fun w9=>⟨[.s 26,.s 3],Sq27,rfl,[.s 26,.s 27],Sq28,rfl,[.s 26,.s 28],Sq29,rfl,aa,fun dy=>⟨[.s 29,.s 0],Sq30,rfl,[.s 29,.s 3],Sq31,rfl,[.s 29,.s 31],Sq32,rfl,⟨?_,?_⟩,[.s 29,.s 30,.s 32],Sq33,rfl,⟨?_,?_⟩,[.s 29,.s 33],Sq34,rfl,[.s 29,.s 34],Sq35,rfl,[.s 29,.s 0],Sq36,rfl,[.s 29,.s 3],Sq37,rfl,[.s 29,.s 36,.s 37],Sq38,rfl,⟨?_,?_⟩,[.s 29,.s 38],Sq39,rfl,[.s 29,.s 39],Sq40,rfl,[.s 29,.s 35,.s 40],Sq41,rfl,[.s 26,.s 29,.s 41],Sq42,rfl,[.s 26,.s 42],Sq43,rfl,fun kC=>?_,fun dK=>⟨⟨?_,?_⟩,?_⟩⟩,fun iV=>⟨Sq29,Sq30,rfl,Sq29,Sq31,rfl,Sq29,Sq32,rfl,Sq29,Sq33,rfl,Sq29,Sq34,rfl,Sq29,Sq35,rfl,Sq29,Sq36,rfl,Sq29,Sq37,rfl,Sq29,Sq38,rfl,Sq29,Sq39,rfl,Sq29,Sq40,rfl,Sq29,Sq41,rfl,[.s 26,.s 29,.s 41],Sq42,rfl,[.s 26,.s 42],Sq43,rfl,⟨?_,?_⟩,?_⟩⟩⟩⟩⟩⟩,fun gP=>?_⟩
 all_goals first|refine aw ?_|refine ax ?_|exact a8|(dsimp only [oq,mS];omega)|exact a7|exact hE.at _|exact bV w1|skip
 ·obtain⟨g,rfl⟩:=hg w1
  have e:eF l=false:=vQ (by rw [←he];exact PR (aeM (show (!(fD (nth aK l k).1))=true from w4)))
  refine⟨[],[],_,_,_,rfl,az,(),aa,?_,?_,rfl⟩
  ·(show _=eY l);unfold eY;first|(rw [e];rfl)|rfl
  ·rfl
 ·obtain⟨g,rfl⟩:=hg w1
  have e:eF l=false:=vQ (by rw [←he];exact PR (aeL (show (!(iB (nth aK l k).2 1 15))=true from w8)))
  refine⟨[],[],_,_,_,rfl,az,(),aa,?_,?_,rfl⟩
  ·(show _=eY l);unfold eY;first|(rw [e];rfl)|rfl
  ·rfl
 ·obtain⟨g,rfl⟩:=hg w1
  have e:eF l=false:=vQ (by rw [←he];exact PR (aeK dy kC))
  refine⟨[],[],_,_,_,rfl,az,(),aa,?_,?_,rfl⟩
  ·(show _=eY l);unfold eY;first|(rw [e];rfl)|rfl
  ·rfl
 ·obtain⟨g,rfl⟩:=hg w1
  refine⟨(k+1,g),[],?_,?_,?_⟩
  rotate_right
  ·exact bW
  ·exact⟨by show k+1+g=l.length;omega,by rw [←he];exact (XR (ab2 (show (!(fD (nth aK l k).1))=false from w5) (show (!(iB (nth aK l k).2 1 15))=false from w9) dK)).symm⟩
  ·exact ZD9 g
 ·obtain⟨g,rfl⟩:=hg w1
  refine⟨(k+1,g),[],?_,?_,?_⟩
  rotate_right
  ·exact bW
  ·exact⟨by show k+1+g=l.length;omega,by rw [←he];exact (XR (aeN (show (!(fD (nth aK l k).1))=false from w5) (show (!(iB (nth aK l k).2 1 15))=false from w9) iV)).symm⟩
  ·exact ZD9 g
 ·have hf:f=0:=by have:=aA (p:=(k:Int)<(l.length:Int)) gP;omega
  subst hf
  have e:eF l=decide ((l.length:Int)≤12):=T7 (by rw [←he];rfl)
  refine⟨[],[],_,_,_,rfl,az,(),aa,?_,?_,rfl⟩
  ·(show _=eY l);unfold eY;first|(rw [e];rfl)|rfl
  ·rfl
def aj8 (e:eV):ByteArray:=e.1++⟨#[61]⟩++bY e.2++⟨#[59]⟩
def rr (out:ByteArray) (e:eV):ByteArray:=out++e.1++⟨#[61]⟩++bY e.2++⟨#[59]⟩
def en (l:List eV):ByteArray:=l.foldl rr ⟨#[]⟩
theorem szl {a b:ByteArray}(ha:a.size≤2001000100) (hb:b.size≤1000000):((a.size+b.size:Nat):Int)≤imax:=by
 unfold imax;omega
structure ace (l:List eV):Prop where
 len:l.length≤1000
 sz:∀e∈l,e.1.size≤1000000
 id:∀e∈l,0≤e.2∧e.2≤999999999
def qb (l:List eV):Prop:=ace l
def xX (l:List eV):AV:=.s (.str (en l))
def abe (l:List eV):List AV:=[]
def qB:ct where
 A:=[.s (.vz aK)]
 B:=[]
 pre:=fun x b=>qb x
 r:=fun x b _=>xX x
 o:=fun x b _=>abe x
theorem II:Has Tryz.prog 255 qB:=by
 refine Has.fu zT zF zF (l:=[(201,j7)]) ⟨wU,aa⟩ Tryz.func255 ?_
 rintro (l:List eV) _ (hp:qb l)
 show vc _ _ _ _ (entry [.s (.vz aK l)] []) _
 have hE:ace l:=hp
 have hlen:=hE.len
 refine ?_
 all_goals first|refine aw ?_|refine ax ?_|exact a8|(dsimp only [j7,mN];omega)|exact a7|skip
 refine cO (l:=[(201,j7)]) (ex:=zT) (wr:=zF) (pt:=zF) ⟨wU,aa⟩ [.s 0] (fun y:Nat×ByteArray=>[(.s 3,.str y.2),(.s 4,.int y.1)]) (fun y=>y.1≤l.length∧y.2.size≤2000000*y.1∧(l.drop y.1).foldl rr y.2=en l) (fun y=>l.length-y.1) (0,⟨#[]⟩) [] ⟨ZA7 _,ZA7 _,rfl⟩ dN ?_
 rintro⟨i,out⟩ ⟨(hi:i≤l.length),(ho:out.size≤2000000*i),(hr:(l.drop i).foldl rr out=en l)⟩
 have bV:decide ((i:Int)<(l.length:Int))=true→i<l.length:=fun h=>by have:=aJ h;omega
 have dj:i<l.length→(nth aK l i).1.size≤1000000:=fun h=>hE.sz _ (bS (ek:=aK) h)
 have hid:i<l.length→0≤(nth aK l i).2∧(nth aK l i).2≤999999999:=fun h=>hE.id _ (bS (ek:=aK) h)
 have ahL:i<l.length→(bY (nth aK l i).2).size≤12:=fun h=>dc (ZE0 (hid h).2 (by omega))
 have hs1:i<l.length→(out++(nth aK l i).1).size≤2001000000:=fun h=>by rw [ZB2];have:=dj h;omega
 have hs2:i<l.length→(out++(nth aK l i).1++(⟨#[61]⟩:ByteArray)).size≤2001000001:=fun h=>by rw [ZB2,sz1];have:=hs1 h;omega
 have hs3:i<l.length→(out++(nth aK l i).1++(⟨#[61]⟩:ByteArray)++bY (nth aK l i).2).size≤2001000100:=fun h=>by rw [ZB2];have:=hs2 h;have:=ahL h;omega
 have hA:i<l.length→(0:Int)≤(nth aK l i).2:=fun h=>(hid h).1
 have hB:i<l.length→((nth aK l i).2:Int)≤999999999999:=fun h=>ZE0 (hid h).2 (by omega)
 refine⟨fun w1=>⟨Sq3,Sq11,rfl,Sq0,Sq12,rfl,Sq4,Sq13,rfl,[.s 12,.s 13],Sq14,rfl,⟨?_,?_⟩,Sq14,Sq15,rfl,Sq15,Sq16,rfl,[.s 11,.s 16],Sq17,rfl,?_,Sq17,Sq18,rfl,?_,Sq0,Sq19,rfl,Sq4,Sq20,rfl,[.s 19,.s 20],Sq21,rfl,⟨?_,?_⟩,Sq21,Sq22,rfl,Sq22,Sq23,rfl,Sq23,Sq24,rfl,⟨⟨aa,aa⟩,?_,?_⟩,?_,fun x2 w3=>⟨[.s 18,.s 24],Sq25,rfl,?_,Sq25,Sq26,rfl,?_,Sq26,Sq3,rfl,⟨?_,?_⟩,?_⟩⟩,fun w4=>?_⟩
 all_goals first|refine aw ?_|refine ax ?_|exact a8|(dsimp only [j7,mN];omega)|exact a7|exact bV w1|(unfold imax;simp only [ZB2,ZA5,sz1];have:=dj (bV w1);have:=ahL (bV w1);omega)|skip
 ·exact hB (bV w1)
 ·have mu:=bV w1
  refine⟨(i+1,rr out (nth aK l i)),[],?_,?_,?_⟩
  rotate_right
  ·exact bW
  ·refine⟨mu,?_,by rw [←hr,bX (ek:=aK) mu];rfl⟩
   show (out++(nth aK l i).1++⟨#[61]⟩++bY (nth aK l i).2++⟨#[59]⟩).size≤2000000*(i+1)
   have a1:=dj mu;have a2:=ahL mu
   simp only [ZB2]
   rw [show (⟨#[61]⟩:ByteArray).size=1 from rfl,show (⟨#[59]⟩:ByteArray).size=1 from rfl];omega
  ·show l.length-(i+1)<l.length-i;omega
 ·have FK:¬i<l.length:=by have:=aA (p:=(i:Int)<(l.length:Int)) (by assumption);omega
  have e:en l=out:=by rw [←hr,ZB3 (by omega)];rfl
  refine⟨[],[],_,_,_,rfl,az,(),aa,?_,?_,rfl⟩
  ·(show _=xX l);unfold xX;first|(rw [e];rfl)|rfl
  ·rfl
def atF:Nat→List eV→Nat→ByteArray→Int
 |0,_,_,_=> -1
 |f+1,l,i,name=>bif decide ((nth aK l i).1=name) then (i:Int) else atF f l (i+1) name
def lz (l:List eV) (name:ByteArray):Int:=atF l.length l 0 name
theorem ag0 {f:Nat}{l:List eV}{i:Nat}{name:ByteArray}(h:decide ((nth aK l i).1=name)=true):atF (f+1) l i name=(i:Int):=by rw [atF,h];rfl
theorem ag1 {f:Nat}{l:List eV}{i:Nat}{name:ByteArray}(h:decide ((nth aK l i).1=name)=false):atF (f+1) l i name=atF f l (i+1) name:=by rw [atF,h];rfl
def pc (l:List eV) (name:ByteArray):Prop:=l.length≤1000000
def sb (l:List eV) (name:ByteArray):AV:=.s (.int (lz l name))
def ac5 (l:List eV) (name:ByteArray):List AV:=[]
def o6:ct where
 A:=[.s (.vz aK),.s .str]
 B:=[]
 pre:=fun x b=>pc (x.1) (x.2)
 r:=fun x b _=>sb (x.1) (x.2)
 o:=fun x b _=>ac5 (x.1) (x.2)
theorem FF:Has Tryz.prog 227 o6:=by
 refine Has.fu zT zF zF (l:=[]) trivial Tryz.func227 ?_
 rintro⟨(l:List eV),(name:ByteArray)⟩ _ (hp:pc l name)
 show vc _ _ _ _ (entry [.s (.vz aK l),.str name] []) _
 have hlen:l.length≤1000000:=hp
 refine cO (l:=[]) (ex:=zT) (wr:=zF) (pt:=zF) trivial [.s 0,.s 1] (fun y:Nat×Nat=>[(.s 5,.int y.1)]) (fun y=>y.1+y.2=l.length∧atF y.2 l y.1 name=lz l name) (fun y=>y.2) (0,l.length) [] ⟨ZA6 _,rfl⟩ dN ?_
 rintro⟨k,f⟩ ⟨(hk:k+f=l.length),(he:atF f l k name=lz l name)⟩
 have bV:decide ((k:Int)<(l.length:Int))=true→k<l.length:=fun h=>by have:=aJ h;omega
 have hg:decide ((k:Int)<(l.length:Int))=true→∃g,f=g+1:=fun h=>⟨f-1,by have:=bV h;omega⟩
 refine⟨fun w1=>⟨⟨?_,?_⟩,⟨fun w2=>?_,fun w3=>⟨⟨?_,?_⟩,?_⟩⟩⟩,fun w4=>?_⟩
 all_goals first|refine aw ?_|refine ax ?_|exact a8|exact a7|exact bV w1|skip
 ·obtain⟨g,rfl⟩:=hg w1
  have e:lz l name=(k:Int):=by rw [←he];exact ag0 w2
  refine⟨[],[],_,_,_,rfl,az,(),aa,?_,?_,rfl⟩
  ·(show _=sb l name);unfold sb;first|(rw [e];rfl)|rfl
  ·rfl
 ·obtain⟨g,rfl⟩:=hg w1
  refine⟨(k+1,g),[],?_,?_,?_⟩
  rotate_right
  ·exact bW
  ·exact⟨by show k+1+g=l.length;omega,by rw [←he];exact (ag1 w3).symm⟩
  ·exact ZD9 g
 ·have hf:f=0:=by have:=aA (p:=(k:Int)<(l.length:Int)) w4;omega
  subst hf
  have e:lz l name= -1:=by rw [←he];rfl
  refine⟨[],[],_,_,_,rfl,az,(),aa,?_,?_,rfl⟩
  ·(show _=sb l name);unfold sb;first|(rw [e];rfl)|rfl
  ·rfl
def E1 (e x:eV) (done:Bool):Bool:= !done&& !(Op.bytesLess x.1.toList e.1.toList||x.1.toList==e.1.toList)
def xv:List eV→eV→Bool→List eV→List eV×Bool
 |[],_,done,out=>(out,done)
 |x::l,e,done,out=>bif E1 e x done then xv l e true (out++[e]++[x]) else xv l e done (out++[x])
def wm (e:eV) (r:List eV×Bool):List eV:=bif !r.2 then r.1++[e] else r.1
def qU (l:List eV) (e:eV):List eV:=wm e (xv l e false [])
theorem YC {x e:eV}{l out:List eV}{done:Bool}(h:E1 e x done=true):xv (x::l) e done out=xv l e true (out++[e]++[x]):=by rw [xv,h];rfl
theorem P1 {x e:eV}{l out:List eV}{done:Bool}(h:E1 e x done=false):xv (x::l) e done out=xv l e done (out++[x]):=by rw [xv,h];rfl
def qc (l:List eV) (e:eV):Prop:=l.length≤1000
def pL (l:List eV) (e:eV):AV:=.s (.xs 0 2 0 (qU l e).length)
def so (l:List eV) (e:eV):List AV:=[.rs aK (qU l e)]
def qC:ct where
 A:=[.s (.vz aK),.a [.str,.int]]
 B:=[]
 pre:=fun x b=>qc (x.1) (x.2)
 r:=fun x b _=>pL (x.1) (x.2)
 o:=fun x b _=>so (x.1) (x.2)
 nf:=1
theorem IJ:Has Tryz.prog 221 qC:=by
 refine Has.fu zT zF zF (l:=[]) trivial Tryz.func221 ?_
 rintro⟨(l:List eV),⟨(e1:ByteArray),(e2:Int)⟩⟩ _ (hp:qc l (e1,e2))
 show vc _ _ _ _ (entry [.s (.vz aK l),.a [.str e1,.int e2]] []) _
 have hlen:l.length≤1000:=hp
 refine⟨aa,?_⟩
 all_goals first|refine aw ?_|refine ax ?_|exact a8|exact a7|skip
 refine cO (l:=[]) (ex:=zT) (wr:=zF) (pt:=zF) trivial [.s 0,.s 3,.b 1003] (fun y:Nat×List eV×Bool=>[(.s 5,.s (.xs 1008 2 0 y.2.1.length)),(.s 6,.s (.q y.2.2)),(.s 7,.int y.1),(.b 1008,.rs aK y.2.1)]) (fun y=>y.1≤l.length∧y.2.1.length≤2*y.1∧xv (l.drop y.1) (e1,e2) y.2.2 y.2.1=xv l (e1,e2) false []) (fun y=>l.length-y.1) (0,[],false) [] ⟨ZA7 _,ZA7 _,rfl⟩ dN ?_
 rintro⟨i,out,dn⟩ ⟨(hi:i≤l.length),(ho:out.length≤2*i),(hr:xv (l.drop i) (e1,e2) dn out=xv l (e1,e2) false [])⟩
 have bV:decide ((i:Int)<(l.length:Int))=true→i<l.length:=fun h=>by have:=aJ h;omega
 refine⟨fun w1=>⟨Sq6,Sq15,rfl,Sq15,Sq16,rfl,Sq16,Sq17,rfl,aa,fun w2=>⟨[.s 17,.s 0],Sq18,rfl,[.s 17,.s 7],Sq19,rfl,[.s 17,.s 18,.s 19],Sq20,rfl,⟨?_,?_⟩,[.s 17,.s 20],Sq21,rfl,[.s 17,.s 21],Sq22,rfl,[.s 17,.s 3],Sq23,rfl,[.s 17,.s 23,.b 1003],Sq24,rfl,[.s 17,.s 22,.s 24],Sq25,rfl,[.s 17,.s 25],Sq26,rfl,fun w3=>⟨aa,⟨⟨?_,?_⟩,?_,?_⟩,⟨?_,?_⟩,aa,⟨⟨?_,?_⟩,?_,?_⟩,⟨?_,?_⟩,?_⟩,fun w4=>⟨⟨?_,?_⟩,aa,⟨⟨?_,?_⟩,?_,?_⟩,⟨?_,?_⟩,?_⟩⟩,fun w5=>⟨Sq17,Sq18,rfl,Sq17,Sq19,rfl,Sq17,Sq20,rfl,Sq17,Sq21,rfl,Sq17,Sq22,rfl,Sq17,Sq23,rfl,Sq17,Sq24,rfl,Sq17,Sq25,rfl,[.s 17,.s 25],Sq26,rfl,⟨?_,?_⟩,aa,⟨⟨?_,?_⟩,?_,?_⟩,⟨?_,?_⟩,?_⟩⟩,fun w6=>⟨fun w7=>⟨aa,⟨⟨?_,?_⟩,?_,?_⟩,?_⟩,fun w8=>?_⟩⟩
 all_goals first|refine aw ?_|refine ax ?_|exact a8|exact a7|exact bV w1|skip
 ·have mu:=bV w1
  have hb:E1 (e1,e2) (nth aK l i) dn=true:=by unfold E1;rw [show (!dn)=true from w2,show (!(Op.bytesLess (nth aK l i).1.toList e1.toList||(nth aK l i).1.toList==e1.toList))=true from w3];rfl
  refine⟨(i+1,out++[(e1,e2)]++[nth aK l i],true),[(1008,1037)],?_,?_,?_⟩
  rotate_right
  ·exact bW
  ·refine⟨mu,by show (out++[(e1,e2)]++[nth aK l i]).length≤2*(i+1);rw [ZA0,ZA0];show out.length+1+1≤_;omega,?_⟩
   rw [←hr,bX (ek:=aK) mu,YC hb]
  ·show l.length-(i+1)<l.length-i;omega
 ·have mu:=bV w1
  have hb:E1 (e1,e2) (nth aK l i) dn=false:=by unfold E1;rw [show (!(Op.bytesLess (nth aK l i).1.toList e1.toList||(nth aK l i).1.toList==e1.toList))=false from w4,ZD7]
  refine⟨(i+1,out++[nth aK l i],dn),[(1008,1037)],?_,?_,?_⟩
  rotate_right
  ·exact bW
  ·refine⟨mu,by show (out++[nth aK l i]).length≤2*(i+1);rw [ZA0];show out.length+1≤_;omega,?_⟩
   rw [←hr,bX (ek:=aK) mu,P1 hb]
  ·show l.length-(i+1)<l.length-i;omega
 ·have mu:=bV w1
  have hb:E1 (e1,e2) (nth aK l i) dn=false:=by unfold E1;rw [show (!dn)=false from w5];rfl
  refine⟨(i+1,out++[nth aK l i],dn),[(1008,1037)],?_,?_,?_⟩
  rotate_right
  ·exact bW
  ·refine⟨mu,by show (out++[nth aK l i]).length≤2*(i+1);rw [ZA0];show out.length+1≤_;omega,?_⟩
   rw [←hr,bX (ek:=aK) mu,P1 hb]
  ·show l.length-(i+1)<l.length-i;omega
 ·have FK:¬i<l.length:=by have:=aA (p:=(i:Int)<(l.length:Int)) w6;omega
  have e:qU l (e1,e2)=out++[(e1,e2)]:=by unfold qU;rw [←hr,ZB3 (by omega)];show wm (e1,e2) (out,dn)=_;unfold wm;rw [show (!dn)=true from w7];rfl
  refine⟨[1043],[],_,_,_,rfl,az,(),aa,?_,?_,rfl⟩
  ·(show _=pL l (e1,e2));unfold pL;first|(rw [e,ZA0];rfl)|(rw [e];rfl)|rfl
  ·(show _=so l (e1,e2));unfold so;first|(rw [e,ZA0];rfl)|(rw [e];rfl)|rfl
 ·have FK:¬i<l.length:=by have:=aA (p:=(i:Int)<(l.length:Int)) w6;omega
  have e:qU l (e1,e2)=out:=by unfold qU;rw [←hr,ZB3 (by omega)];show wm (e1,e2) (out,dn)=_;unfold wm;rw [show (!dn)=false from w8];rfl
  refine⟨[1008],[],_,_,_,rfl,az,(),aa,?_,?_,rfl⟩
  ·(show _=pL l (e1,e2));unfold pL;first|(rw [e];rfl)|rfl
  ·(show _=so l (e1,e2));unfold so;first|(rw [e];rfl)|rfl
def ey (l:List eV) (i:Nat):List eV:=l.take i++l.drop (i+1)
def q9 (l:List eV) (i:Int):Prop:=l.length≤1000∧0≤i∧i<l.length
def u7 (l:List eV) (i:Int):AV:=.s (.xs 0 2 0 (ey l i.toNat).length)
def yr (l:List eV) (i:Int):List AV:=[.rs aK (ey l i.toNat)]
def sN:ct where
 A:=[.s (.vz aK),.s .int]
 B:=[]
 pre:=fun x b=>q9 (x.1) (x.2)
 r:=fun x b _=>u7 (x.1) (x.2)
 o:=fun x b _=>yr (x.1) (x.2)
 nf:=1
theorem MB:Has Tryz.prog 226 sN:=by
 refine Has.fu zT zF zF (l:=[]) trivial Tryz.func226 ?_
 rintro⟨(l:List eV),(i:Int)⟩ _ (hp:q9 l i)
 show vc _ _ _ _ (entry [.s (.vz aK l),.int i] []) _
 obtain⟨h1,h2,h3⟩:=hp
 have e:ey l i.toNat=l.take (i.toNat-0)++l.drop (i+1).toNat:=by unfold ey;rw [Nat.sub_zero,show (i+1).toNat=i.toNat+1 by omega]
 have hl1:(l.take (i.toNat-0)).length≤1000:=by rw [ZC0];omega
 have hl2:((l.drop (i+1).toNat).take (l.length-(i+1).toNat)).length≤1000:=by rw [ZC0,ZD0];omega
 refine⟨[.b 1005],[.s 5,.b 1005],rfl,aa,Sq0,Sq6,rfl,Sq1,Sq7,rfl,[.s 6,.s 7],Sq8,rfl,⟨?_,?_,?_⟩,[.s 5,.s 8,.b 1005,.b 1009],[.s 9,.b 1009,.b 1005],rfl,⟨⟨?_,?_⟩,aa⟩,Sq0,Sq10,rfl,Sq1,Sq11,rfl,Sq11,Sq12,rfl,⟨?_,?_⟩,[.s 10,.s 12],Sq13,rfl,⟨?_,?_,?_⟩,[.s 9,.s 13,.b 1009,.b 1014],[.s 14,.b 1014,.b 1009],rfl,⟨⟨?_,?_⟩,aa⟩,Sq14,Sq4,rfl,?_⟩
 all_goals first|refine aw ?_|refine ax ?_|exact a8|exact a7|(show 0+(l.take (i.toNat-0)).length≤1048576;omega)|(show ([]++l.take (i.toNat-0)).length+((l.drop (i+1).toNat).take (l.length-(i+1).toNat)).length≤1048576;rw [ZC9];omega)|skip
 ·have e2:(ey l i.toNat).length=([]++l.take (i.toNat-0)).length+((l.drop (i+1).toNat).take (l.length-(i+1).toNat)).length:=by rw [e,ZA0,ZC9,ZD1 (l:=l.drop _) (by rw [ZD0];omega)]
  have e3:ey l i.toNat=([]++l.take (i.toNat-0))++((l.drop (i+1).toNat).take (l.length-(i+1).toNat)):=by rw [e,ZC9,ZD1 (l:=l.drop _) (by rw [ZD0];omega)]
  refine⟨[1014],[],_,_,_,rfl,az,(),aa,?_,?_,rfl⟩
  ·(show _=u7 l i);unfold u7;first|(rw [e2];rfl)|(rw [e3];rfl)|rfl
  ·(show _=yr l i);unfold yr;first|(rw [e2];rfl)|(rw [e3];rfl)|rfl
end GL
namespace GL
def ka:List Pt→ay→ay
 |[],s=>s
 |p::l,s=>ka l (gf s p.1.toNat)
def aiV (u:ay):ay:=(u.rows,u.refs,u.last,u.cj+1,[],u.ca,u.dead,u.same)
def ij (s:ay):ay:=aiV (ka s.gone s)
structure ay.gk (s:ay):Prop where
 n:s.n64
 len:s.gone.length≤1000000
 ok:∀p∈s.gone,0≤p.1∧p.1<64
 cj: -1000000≤s.cj∧s.cj≤1000000
def jm (S:ay):Prop:=S.gk
def xW (S:ay):AV:=.a (kZ 0 1 2 5 4 (ij S))
def B8 (S:ay):List AV:=[.rs ab (ij S).rows,.rs ag (ij S).refs,.rs ag (ij S).last,.rs ae S.gone,.rs ae (ij S).dead,.rs ae []]
def ia:ct where
 A:=[.a (stB 0 1 2 3 4)]
 B:=[.r ab,.r ag,.r ag,.r ae,.r ae]
 pre:=fun x b=>stW x b∧jm (gQ x b)
 r:=fun x b _=>xW (gQ x b)
 o:=fun x b _=>B8 (gQ x b)
 nf:=1
theorem sE:Has Tryz.prog 73 ia:=by
 refine Has.fu zT zF zF (l:=[(118,qz)]) ⟨IF,aa⟩ Tryz.func73 ?_
 rintro⟨(AU:Nat),(AT:Nat),(AS:Nat),(ao:Int),(AR:Nat),(aq:Int),(AQ:Nat),(ar:Bool)⟩ ⟨(aj:List ByteArray),(ak:List Int),(an:List Int),(ah:List Pt),(ai:List Pt)⟩ ⟨⟨(gD:AU=List.length aj),(gC:AT=List.length ak),(gB:AS=List.length an),(gA:AR=List.length ah),(gz:AQ=List.length ai)⟩,(hp:jm (aj,ak,an,ao,ah,aq,ai,ar))⟩
 subst gD gC gB gA gz
 show vc _ _ _ _ (entry [.a [.xs 0 1 0 aj.length,.xs 1 1 0 ak.length,.xs 2 1 0 an.length,.int ao,.xs 3 5 0 ah.length,.int aq,.xs 4 5 0 ai.length,.q ar]] [.rs ab aj,.rs ag ak,.rs ag an,.rs ae ah,.rs ae ai]) _
 have hgk:ay.gk (aj,ak,an,ao,ah,aq,ai,ar):=hp
 have hgl:ah.length≤1000000:=hgk.len
 have hn:aj.length=64∧ak.length=64∧an.length=64:=hgk.n
 refine ?_
 all_goals first|refine aw ?_|refine ax ?_|exact a8|(dsimp only [qz,pY,gQ];omega)|exact a7|skip
 refine cO (l:=[(118,qz)]) (ex:=zT) (wr:=zF) (pt:=zF) ⟨IF,aa⟩ [.s 1,.s 2,.b 1002,.b 3,.b 4] (fun y:Nat×List ByteArray×List Int×List Int=>[(.s 3,.int y.1),(.b 1001,.a (kZ 0 1 2 3 4 (y.2.1,y.2.2.1,y.2.2.2,ao,ah,aq,ai,ar))),(.b 0,.rs ab y.2.1),(.b 1,.rs ag y.2.2.1),(.b 2,.rs ag y.2.2.2)]) (fun y=>y.1≤ah.length∧(y.2.1.length=64∧y.2.2.1.length=64∧y.2.2.2.length=64)∧ka (ah.drop y.1) (y.2.1,y.2.2.1,y.2.2.2,ao,ah,aq,ai,ar)=ka ah (aj,ak,an,ao,ah,aq,ai,ar)) (fun y=>ah.length-y.1) (0,aj,ak,an) [] ⟨ZA7 _,hn,rfl⟩ dN ?_
 rintro⟨i,ro,rf,la⟩ ⟨(hi:i≤ah.length),⟨(h1:ro.length=64),(h2:rf.length=64),(h3:la.length=64)⟩,(hr:ka (ah.drop i) (ro,rf,la,ao,ah,aq,ai,ar)=ka ah (aj,ak,an,ao,ah,aq,ai,ar))⟩
 have bV:decide ((i:Int)<(ah.length:Int))=true→i<ah.length:=fun h=>by have:=aJ h;omega
 have xF:i<ah.length→0≤(nth ae ah i).1∧(nth ae ah i).1<64:=fun h=>hgk.ok _ (bS (ek:=ae) h)
 have htx:=hgk.cj
 have akK: -1000000≤ao:=htx.1
 have al6:ao≤1000000:=htx.2
 refine⟨fun w1=>⟨[.s 1,.b 1001],Sq11,rfl,Sq1,Sq12,rfl,[.s 12,.b 1001],Sq13,rfl,Sq3,Sq14,rfl,[.s 13,.s 14],Sq15,rfl,⟨?_,?_⟩,Sq15,Sq16,rfl,[.s 16,.b 3],Sq17,rfl,?_,[.s 11,.s 17,.b 0,.b 1,.b 2,.b 3,.b 4],[.s 18,.b 0,.b 1,.b 2,.b 3,.b 4],rfl,⟨⟨⟨aa,aa,aa,aa,aa,aa,aa,aa,aa⟩,aa,aa⟩,⟨?_,?_,?_,?_,?_⟩,⟨?_,?_,?_⟩,?_,?_⟩,?_,fun x2 w3=>⟨[.s 1,.s 18,.b 1001],[.b 1001],rfl,⟨?_,?_⟩,?_⟩⟩,fun w4=>⟨aa,⟨?_,?_⟩,?_⟩⟩
 all_goals first|refine aw ?_|refine ax ?_|exact a8|(dsimp only [qz,pY,gQ];omega)|exact a7|(simp only [gL,imax];omega)|exact bV w1|skip
 ·exact (xF (bV w1)).1
 ·exact (xF (bV w1)).2
 ·have mu:=bV w1
  have hdl:=xg (ro,rf,la,ao,ah,aq,ai,ar) (nth ae ah i).1.toNat
  refine⟨(i+1,(gf (ro,rf,la,ao,ah,aq,ai,ar) (nth ae ah i).1.toNat).1,(gf (ro,rf,la,ao,ah,aq,ai,ar) (nth ae ah i).1.toNat).2.1,(gf (ro,rf,la,ao,ah,aq,ai,ar) (nth ae ah i).1.toNat).2.2.1),[],?_,?_,?_⟩
  rotate_right
  ·exact bW
  ·refine⟨mu,⟨hdl.1.trans h1,hdl.2.1.trans h2,hdl.2.2.trans h3⟩,?_⟩
   rw [←hr,bX (ek:=ae) mu];rfl
  ·show ah.length-(i+1)<ah.length-i;omega
 ·show gL≤ao+1;simp only [gL];omega
 ·show ao+1≤imax;simp only [imax];omega
 ·have FK:¬i<ah.length:=by have:=aA (p:=(i:Int)<(ah.length:Int)) w4;omega
  have e:ij (aj,ak,an,ao,ah,aq,ai,ar)=(ro,rf,la,ao+1,[],aq,ai,ar):=by
   unfold ij
   rw [show ka (ay.gone (aj,ak,an,ao,ah,aq,ai,ar)) (aj,ak,an,ao,ah,aq,ai,ar)=(ro,rf,la,ao,ah,aq,ai,ar) by
    rw [ZB3 (by omega)] at hr;exact hr.symm]
   rfl
  refine⟨[1019],[],_,_,_,rfl,az,(),aa,?_,?_,rfl⟩
  ·(show _=xW (aj,ak,an,ao,ah,aq,ai,ar));unfold xW;first|(rw [e];rfl)|rfl
  ·(show _=B8 (aj,ak,an,ao,ah,aq,ai,ar));unfold B8;first|(rw [e];rfl)|rfl
def j9:Nat→ay→List Pt→List Pt→Option (List Pt)
 |0,_,_,_=>none
 |_+1,_,[],out=>some out
 |f+1,s,p::l,out=>bif au p then j9 f s l out else bif decide (p.2.2.2.2>0) then j9 f s ((bg s p p.2.2.2.2).1++l) (out++[p]) else j9 f s l (out++[p])
def allM (s:ay) (t:bf):List Pt:=(j9 40 s [t.root] []).getD []
def NA (s:ay) (t:bf):Bool:=(j9 40 s [t.root] []).isSome
def wH (S:ay) (t:bf):Prop:=S.rd∧NA S t=true
def BE (S:ay) (t:bf):AV:=.s (.xs 0 5 0 (allM S t).length)
def HG (S:ay) (t:bf):List AV:=[.rs ae (allM S t)]
def AD:ct where
 A:=[.a xy,.a [.int,.int,.int,.int,.int,.int,.int]]
 B:=[]
 pre:=fun x b=>wH (x.1) (x.2)
 r:=fun x b _=>BE (x.1) (x.2)
 o:=fun x b _=>HG (x.1) (x.2)
 nf:=1
theorem ZQ:Has Tryz.prog 69 AD:=by
 refine Has.fu zT zF (fun d=>Nat.beq d 23) (l:=[(83,bl),(109,eg)]) ⟨cz,lr,aa⟩ Tryz.func69 ?_
 rintro⟨⟨(aj:List ByteArray),(ak:List Int),(an:List Int),(ao:Int),(ah:List Pt),(aq:Int),(ai:List Pt),(ar:Bool)⟩,⟨(t1:Int),(t2:Int),(t3:Int),(t4:Int),(t5:Int),(t6:Int),(t7:Int)⟩⟩ _ (hp:wH (aj,ak,an,ao,ah,aq,ai,ar) (t1,t2,t3,t4,t5,t6,t7))
 show vc _ _ _ _ (entry [.a [.vz ab aj,.vz ag ak,.vz ag an,.int ao,.vz ae ah,.int aq,.vz ae ai,.q ar],.a [.int t1,.int t2,.int t3,.int t4,.int t5,.int t6,.int t7]] []) _
 obtain⟨dG,hen⟩:=hp
 have dG:ay.rd (aj,ak,an,ao,ah,aq,ai,ar):=dG
 obtain⟨al,hal⟩:=Option.isSome_iff_exists.1 hen
 have hal:j9 40 (aj,ak,an,ao,ah,aq,ai,ar) [bf.root (t1,t2,t3,t4,t5,t6,t7)] []=some al:=hal
 have hM:allM (aj,ak,an,ao,ah,aq,ai,ar) (t1,t2,t3,t4,t5,t6,t7)=al:=by unfold allM;rw [hal];rfl
 refine⟨aa,aa,?_⟩
 all_goals first|refine aw ?_|refine ax ?_|exact a8|(dsimp only [eg,fG];omega)|exact a7|exact dG|skip
 refine cO (l:=[(83,bl),(109,eg)]) (ex:=zT) (wr:=zF) (pt:=fun d=>Nat.beq d 23) ⟨cz,lr,trivial⟩ [.s 2,.s 3,.s 4,.b 1002,.b 1003] (fun y:Nat×List Pt×List Pt=>[(.s 5,.s (.xs 1010 5 0 y.2.2.length)),(.s 6,.s (.xs 1013 5 0 y.2.1.length)),(.b 1010,.rs ae y.2.2),(.b 1013,.rs ae y.2.1)]) (fun y=>y.1≤40∧y.2.1.length+4*y.1≤161∧y.2.2.length+y.1≤40∧j9 y.1 (aj,ak,an,ao,ah,aq,ai,ar) y.2.1 y.2.2=some al) (fun y=>y.1) (40,[bf.root (t1,t2,t3,t4,t5,t6,t7)],[]) [] ⟨ZB5 _,by show 1+4*40≤161;omega,by show 0+40≤40;omega,hal⟩ dN ?_
 rintro⟨f,td,out⟩ ⟨(hf:f≤40),(htd:td.length+4*f≤161),(oe:out.length+f≤40),(hr:j9 f (aj,ak,an,ao,ah,aq,ai,ar) td out=some al)⟩
 have bV:decide ((td.length:Int)>0)=true→0<td.length:=fun h=>by have:=aJ h;omega
 have hbl:=(iH (aj,ak,an,ao,ah,aq,ai,ar) (nth ae td 0) (nth ae td 0).2.2.2.2).1
 have ZU:decide ((td.length:Int)>0)=true→∃l,td=nth ae td 0::l:=fun h=>by
  have:=bV h
  cases td with
  |nil=>simp at this
  |cons p l=>exact⟨l,rfl⟩
 have afW:∃g,f=g+1:=by
  cases f with
  |zero=>cases hr
  |succ g=>exact⟨g,rfl⟩
 refine⟨fun w1=>⟨⟨?_,?_⟩,?_,aa,⟨?_,?_,?_⟩,⟨⟨?_,?_⟩,?_⟩,⟨⟨⟨aa,aa,aa,aa,aa,aa⟩,aa⟩,aa⟩,fun x2 w3=>⟨fun w4=>?_,fun w5=>⟨aa,⟨⟨?_,?_⟩,?_,?_⟩,fun w6=>⟨⟨⟨⟨aa,aa,aa,aa,aa,aa,aa,aa,aa⟩,⟨aa,aa,aa,aa,aa,aa⟩,aa,aa⟩,?_⟩,fun x7 w8=>⟨aa,⟨⟨?_,?_⟩,?_,?_⟩,⟨⟨?_,?_⟩,?_,?_⟩,?_⟩⟩,fun w9=>?_⟩⟩⟩,fun dy=>?_⟩
 all_goals first|refine aw ?_|refine ax ?_|exact a8|(dsimp only [eg,fG];omega)|exact a7|exact bV w1|exact dG|(show 0+(td.drop 1).length≤1048576;rw [ZD0];omega)|(show 0+((td.drop 1).take (td.length-1)).length≤1048576;rw [ZC0,ZD0];omega)|skip
 ·
  obtain⟨l,rW⟩:=ZU w1
  have eT:(([]:List Pt)++(td.drop 1).take (td.length-1))=l:=by rw [rW];simp
  obtain⟨g,rfl⟩:∃g,f=g+1:=afW
  have hll:l.length+1=td.length:=by rw [rW];rfl
  have hh:au (nth ae td 0)=true:=w4
  rw [rW,j9,hh] at hr
  refine⟨(g,(([]:List Pt)++(td.drop 1).take (td.length-1)),out),[(1013,1023)],?_,?_,?_⟩
  rotate_right
  ·exact bW
  ·exact⟨by show g≤40;omega,by show ((([]:List Pt)++(td.drop 1).take (td.length-1))).length+4*g≤161;rw [eT];omega,by show out.length+g≤40;omega,by show j9 g (aj,ak,an,ao,ah,aq,ai,ar) (([]:List Pt)++(td.drop 1).take (td.length-1)) out=some al;rw [eT];exact hr⟩
  ·exact ZD9 g
 ·show ([]:List Pt).length+(bg (aj,ak,an,ao,ah,aq,ai,ar) (nth ae td 0) (nth ae td 0).2.2.2.2).1.length≤1048576;have:=hbl;show 0+_≤_;omega
 ·obtain⟨l,rW⟩:=ZU w1
  have eT:(([]:List Pt)++(td.drop 1).take (td.length-1))=l:=by rw [rW];simp
  have hll:l.length+1=td.length:=by rw [rW];rfl
  show (([]:List Pt)++(bg (aj,ak,an,ao,ah,aq,ai,ar) (nth ae td 0) (nth ae td 0).2.2.2.2).1).length+(([]:List Pt)++(td.drop 1).take (td.length-1)).length≤1048576
  rw [eT,ZC9];omega
 ·
  obtain⟨l,rW⟩:=ZU w1
  have eT:(([]:List Pt)++(td.drop 1).take (td.length-1))=l:=by rw [rW];simp
  obtain⟨g,rfl⟩:∃g,f=g+1:=afW
  have hll:l.length+1=td.length:=by rw [rW];rfl
  have hh:au (nth ae td 0)=false:=w5
  rw [rW,j9,hh,show decide ((nth ae td 0).2.2.2.2>0)=true from w6] at hr
  refine⟨(g,(([]:List Pt)++(bg (aj,ak,an,ao,ah,aq,ai,ar) (nth ae td 0) (nth ae td 0).2.2.2.2).1)++(([]:List Pt)++(td.drop 1).take (td.length-1)),out++[(nth ae td 0)]),[(1013,1045),(1010,1029)],?_,?_,?_⟩
  rotate_right
  ·exact bW
  ·refine⟨by show g≤40;omega,?_,?_,?_⟩
   ·show ((([]:List Pt)++(bg (aj,ak,an,ao,ah,aq,ai,ar) (nth ae td 0) (nth ae td 0).2.2.2.2).1)++(([]:List Pt)++(td.drop 1).take (td.length-1))).length+4*g≤161;rw [eT,ZC9,ZA0];omega
   ·show (out++[(nth ae td 0)]).length+g≤40;rw [ZA0];show out.length+1+g≤40;omega
   ·show j9 g (aj,ak,an,ao,ah,aq,ai,ar) ((([]:List Pt)++(bg (aj,ak,an,ao,ah,aq,ai,ar) (nth ae td 0) (nth ae td 0).2.2.2.2).1)++(([]:List Pt)++(td.drop 1).take (td.length-1))) (out++[(nth ae td 0)])=some al;rw [eT,ZC9];exact hr
  ·exact ZD9 g
 ·
  obtain⟨l,rW⟩:=ZU w1
  have eT:(([]:List Pt)++(td.drop 1).take (td.length-1))=l:=by rw [rW];simp
  obtain⟨g,rfl⟩:∃g,f=g+1:=afW
  have hll:l.length+1=td.length:=by rw [rW];rfl
  have hh:au (nth ae td 0)=false:=w5
  rw [rW,j9,hh,show decide ((nth ae td 0).2.2.2.2>0)=false from w9] at hr
  refine⟨(g,(([]:List Pt)++(td.drop 1).take (td.length-1)),out++[(nth ae td 0)]),[(1013,1023),(1010,1029)],?_,?_,?_⟩
  rotate_right
  ·exact bW
  ·refine⟨by show g≤40;omega,?_,?_,?_⟩
   ·show ((([]:List Pt)++(td.drop 1).take (td.length-1))).length+4*g≤161;rw [eT];omega
   ·show (out++[(nth ae td 0)]).length+g≤40;rw [ZA0];show out.length+1+g≤40;omega
   ·show j9 g (aj,ak,an,ao,ah,aq,ai,ar) (([]:List Pt)++(td.drop 1).take (td.length-1)) (out++[(nth ae td 0)])=some al;rw [eT];exact hr
  ·exact ZD9 g
 ·have h0:td=[]:=by cases td with
   |nil=>rfl
   |cons p l=>exact absurd (aA dy) (by simp)
  obtain⟨g,rfl⟩:∃g,f=g+1:=afW
  rw [h0,j9] at hr
  have e:allM (aj,ak,an,ao,ah,aq,ai,ar) (t1,t2,t3,t4,t5,t6,t7)=out:=by rw [hM];exact (ZG5 hr).symm
  refine⟨[1010],[],_,_,_,rfl,az,(),aa,?_,?_,rfl⟩
  ·(show _=BE (aj,ak,an,ao,ah,aq,ai,ar) (t1,t2,t3,t4,t5,t6,t7));unfold BE;first|(rw [e];rfl)|rfl
  ·(show _=HG (aj,ak,an,ao,ah,aq,ai,ar) (t1,t2,t3,t4,t5,t6,t7));unfold HG;first|(rw [e];rfl)|rfl
end GL
end Go.Proofs.YtkgpljpmdkflmaaGreatDoor
